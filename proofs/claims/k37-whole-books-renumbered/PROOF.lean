import PyProof.Rows.All
import Wide.All
import OpenK.AllK
import Wide.FinOn
import HandS.ForMost
import HandS.Walk
import HandS.Zip
import HandS.TupAny
import HandS.TupLe
import HandS.IsInst
import HandS.Wide
import HandS.Deep
import HandS.Conv
import HandS.SetKeys
import KE.GoesMore
import KE.DataFind
import KE.SortData
import PySem.Challenge.RW_twotides_k37_whole_books_renumbered
section
set_option Elab.async false
set_option linter.all false
set_option maxRecDepth 100000
set_option maxHeartbeats 4000000
/-! KA: data, environments, what a reading does upon data (EX, EXT, EXs, EXt, SX). -/
namespace K37
open PySem L2

/-! ### data: scalars and tuples -/
inductive TD where
  | non | bl (b : Bool) | int (i : Int) | tup (ds : List TD)

mutual
inductive Tp (K : PySem.W.Frag) (H : Hp) : V → TD → Prop
  | non : Tp K H .non .non
  | bl (b : Bool) : Tp K H (.bl b) (.bl b)
  | int (i : Int) : Tp K H (.int i) (.int i)
  | tup {a : Addr} {xs : List V} {ds : List TD} : SqT K H a xs → TpAll K H xs ds → Tp K H (.ref a) (.tup ds)
inductive TpAll (K : PySem.W.Frag) (H : Hp) : List V → List TD → Prop
  | nil : TpAll K H [] []
  | cons {v : V} {vs : List V} {d : TD} {ds : List TD} : Tp K H v d → TpAll K H vs ds → TpAll K H (v :: vs) (d :: ds)
end

/-! ### the pool's two lists (M), heaps that differ there alone -/
abbrev PM := Option (Addr × Addr) × Nat
def MA (M : PM) (a : Addr) : Prop := ∃ p c, M.1 = some (p, c) ∧ (a = p ∨ a = c)
def Pool (M : PM) (H : Hp) : Prop := ∀ p c, M.1 = some (p, c) → p ≠ c ∧ (∃ s t : Int, H p = some (.lst [.int s, .int t, .ref c]) ∧ 0 ≤ s ∧ s < 2147483647 ∧ 0 ≤ t ∧ t ≤ (M.2 : Int)) ∧ ∃ cs : List Int, H c = some (.lst (cs.map V.int))
def Le (M : PM) (H H' : Hp) : Prop := ∀ a o, H a = some o → ¬ MA M a → H' a = some o
theorem Le.refl {M : PM} (H : Hp) : Le M H H := fun _ _ h _ => h
theorem Le.trans {M : PM} {H H1 H2 : Hp} (a : Le M H H1) (b : Le M H1 H2) : Le M H H2 := fun x o h n => b x o (a x o h n) n
theorem Le.new {M : PM} {H : Hp} {p : Addr} {o : HO} (h : H p = none) : Le M H (upd H p o) := fun a u e _ => by
  rw [upd_ne (ne_of_none e h)]
  exact e
theorem Pool.lst {M : PM} {H : Hp} (hp : Pool M H) {a : Addr} (m : MA M a) : ∃ xs, H a = some (.lst xs) := by
  obtain ⟨p, c, e, h⟩ := m
  obtain ⟨_, ⟨s, t, h1, _⟩, cs, h2⟩ := hp p c e
  rcases h with h | h
  · rw [h]; exact ⟨_, h1⟩
  · rw [h]; exact ⟨_, h2⟩
theorem Pool.free {M : PM} {H : Hp} (hp : Pool M H) {a : Addr} (h : H a = none) : ¬ MA M a := fun m => by
  obtain ⟨xs, e⟩ := hp.lst m
  rw [e] at h; cases h
theorem Pool.keep {M : PM} {H H' : Hp} (hp : Pool M H) (k : ∀ a o, MA M a → H a = some o → H' a = some o) : Pool M H' := fun p c e => by
  obtain ⟨n, ⟨s, t, h1, h1'⟩, cs, h2⟩ := hp p c e
  exact ⟨n, ⟨s, t, k p _ ⟨p, c, e, .inl rfl⟩ h1, h1'⟩, cs, k c _ ⟨p, c, e, .inr rfl⟩ h2⟩
theorem Pool.new {M : PM} {H : Hp} {q : Addr} {o : HO} (hp : Pool M H) (h : H q = none) : Pool M (upd H q o) := hp.keep fun a u _ e => by
  rw [upd_ne (ne_of_none e h)]
  exact e
theorem Pool.other {M : PM} {H : Hp} {q : Addr} {o : HO} (hp : Pool M H) (h : ¬ MA M q) : Pool M (upd H q o) := hp.keep fun a u m e => by
  rw [upd_ne (fun z => h (by rw [← z]; exact m))]
  exact e
/-- fresh behind an extension: fresh ahead of it -/
theorem Le.back {M : PM} {H H' : Hp} (hp : Pool M H') (e : Le M H H') {q : Addr} (h : H' q = none) : H q = none := by
  cases h1 : H q with
  | none => rfl
  | some o =>
    rw [e q o h1 (hp.free h)] at h
    cases h

section
variable {K : PySem.W.Frag} {M : PM} {H H' : Hp}
theorem Pool.notTup (hp : Pool M H) {a : Addr} {xs : List V} (h : H a = some (.tup xs)) : ¬ MA M a := fun m => by
  obtain ⟨ys, e⟩ := hp.lst m
  rw [e] at h; cases h
theorem Pool.notFrz (hp : Pool M H) {a : Addr} {o : Obj} {u : HO} (h : H a = some (.frz o u)) : ¬ MA M a := fun m => by
  obtain ⟨ys, e⟩ := hp.lst m
  rw [e] at h; cases h
theorem Pool.notIns (hp : Pool M H) {a C dx : Addr} {fs : List (Str × V)} (h : H a = some (.ins C dx fs)) : ¬ MA M a := fun m => by
  obtain ⟨ys, e⟩ := hp.lst m
  rw [e] at h; cases h
theorem sqT_le (hp : Pool M H) (e : Le M H H') {a : Addr} {xs : List V} (h : SqT K H a xs) : SqT K H' a xs := by
  rcases h with (h | ⟨o, h⟩) | h
  · exact .inl (.inl (e _ _ h (hp.notTup h)))
  · exact .inl (.inr ⟨o, e _ _ h (hp.notFrz h)⟩)
  · exact .inr h
theorem sqL_le (e : Le M H H') {a : Addr} {xs : List V} (n : ¬ MA M a) (h : SqL K H a xs) : SqL K H' a xs := by
  rcases h with (h | ⟨o, h⟩) | h
  · exact .inl (.inl (e _ _ h n))
  · exact .inl (.inr ⟨o, e _ _ h n⟩)
  · exact .inr h
mutual
theorem Tp.le (hp : Pool M H) (e : Le M H H') : ∀ {d : TD} {v : V}, Tp K H v d → Tp K H' v d
  | .non, _, h => by cases h; exact .non
  | .bl b, _, h => by cases h; exact .bl b
  | .int i, _, h => by cases h; exact .int i
  | .tup ds, _, h => by
    cases h with
    | tup hs ha => exact .tup (sqT_le hp e hs) (TpAll.le hp e ha)
theorem TpAll.le (hp : Pool M H) (e : Le M H H') : ∀ {ds : List TD} {vs : List V}, TpAll K H vs ds → TpAll K H' vs ds
  | [], _, h => by cases h; exact .nil
  | d :: ds, _, h => by
    cases h with
    | cons h1 h2 => exact .cons (Tp.le hp e h1) (TpAll.le hp e h2)
end
/-- a list at q is changed: data stays -/
theorem sqT_mut {q : Addr} {ys : List V} {o : HO} (hq : H q = some (.lst ys)) {a : Addr} {xs : List V} (h : SqT K H a xs) : SqT K (upd H q o) a xs := by
  rcases h with (h | ⟨u, h⟩) | h
  · exact .inl (.inl (by rw [upd_ne (ne_of h hq (by intro z; cases z))]; exact h))
  · exact .inl (.inr ⟨u, by rw [upd_ne (ne_of h hq (by intro z; cases z))]; exact h⟩)
  · exact .inr h
mutual
theorem Tp.mut {q : Addr} {ys : List V} {o : HO} (hq : H q = some (.lst ys)) : ∀ {d : TD} {v : V}, Tp K H v d → Tp K (upd H q o) v d
  | .non, _, h => by cases h; exact .non
  | .bl b, _, h => by cases h; exact .bl b
  | .int i, _, h => by cases h; exact .int i
  | .tup ds, _, h => by
    cases h with
    | tup hs ha => exact .tup (sqT_mut hq hs) (TpAll.mut hq ha)
theorem TpAll.mut {q : Addr} {ys : List V} {o : HO} (hq : H q = some (.lst ys)) : ∀ {ds : List TD} {vs : List V}, TpAll K H vs ds → TpAll K (upd H q o) vs ds
  | [], _, h => by cases h; exact .nil
  | d :: ds, _, h => by
    cases h with
    | cons h1 h2 => exact .cons (Tp.mut hq h1) (TpAll.mut hq h2)
end
theorem TpAll.length : ∀ {ds : List TD} {vs : List V}, TpAll K H vs ds → vs.length = ds.length
  | [], _, h => by cases h; rfl
  | d :: ds, _, h => by
    cases h with
    | cons h1 h2 => rw [List.length_cons, List.length_cons, TpAll.length h2]
theorem TpAll.get : ∀ {ds : List TD} {vs : List V} {i : Nat} {d : TD}, TpAll K H vs ds → ds[i]? = some d → ∃ v, vs[i]? = some v ∧ Tp K H v d
  | [], _, _, _, _, e => by simp at e
  | d :: ds, _, 0, x, h, e => by
    cases h with
    | cons h1 h2 =>
      have e1 : d = x := Option.some.inj e
      exact ⟨_, rfl, e1 ▸ h1⟩
  | d :: ds, _, i + 1, x, h, e => by
    cases h with
    | cons h1 h2 =>
      obtain ⟨v, e1, r⟩ := TpAll.get (i := i) (d := x) h2 (by simpa using e)
      exact ⟨v, by simpa using e1, r⟩
theorem TpAll.at : ∀ {ds : List TD} {vs : List V} {i : Nat} {v : V}, TpAll K H vs ds → vs[i]? = some v → ∃ d, ds[i]? = some d ∧ Tp K H v d
  | [], _, _, _, h, e => by cases h; simp at e
  | d :: ds, _, 0, x, h, e => by
    cases h with
    | cons h1 h2 =>
      have e1 := Option.some.inj e
      exact ⟨d, rfl, e1 ▸ h1⟩
  | d :: ds, _, i + 1, x, h, e => by
    cases h with
    | cons h1 h2 =>
      obtain ⟨y, e1, r⟩ := TpAll.at (i := i) (v := x) h2 (by simpa using e)
      exact ⟨y, by simpa using e1, r⟩
theorem TpAll.app : ∀ {ds es : List TD} {vs ws : List V}, TpAll K H vs ds → TpAll K H ws es → TpAll K H (vs ++ ws) (ds ++ es)
  | [], _, _, _, h, g => by cases h; exact g
  | d :: ds, _, _, _, h, g => by
    cases h with
    | cons h1 h2 => exact .cons h1 (TpAll.app h2 g)
theorem TpAll.set : ∀ {ds : List TD} {vs : List V} {v : V} {d : TD} (i : Nat), TpAll K H vs ds → Tp K H v d → TpAll K H (vs.set i v) (ds.set i d)
  | [], _, _, _, _, h, _ => by cases h; exact .nil
  | d :: ds, _, _, _, 0, h, g => by
    cases h with
    | cons h1 h2 => exact .cons g h2
  | d :: ds, _, _, _, i + 1, h, g => by
    cases h with
    | cons h1 h2 => exact .cons h1 (TpAll.set i h2 g)
theorem TpAll.erase : ∀ {ds : List TD} {vs : List V} (i : Nat), TpAll K H vs ds → TpAll K H (vs.eraseIdx i) (ds.eraseIdx i)
  | [], _, _, h => by cases h; exact .nil
  | d :: ds, _, 0, h => by
    cases h with
    | cons h1 h2 => exact h2
  | d :: ds, _, i + 1, h => by
    cases h with
    | cons h1 h2 => exact .cons h1 (TpAll.erase i h2)
theorem TpAll.drop : ∀ {ds : List TD} {vs : List V} (i : Nat), TpAll K H vs ds → TpAll K H (vs.drop i) (ds.drop i)
  | _, _, 0, h => h
  | [], _, _ + 1, h => by cases h; exact .nil
  | d :: ds, _, i + 1, h => by
    cases h with
    | cons h1 h2 => exact TpAll.drop i h2
theorem TpAll.take : ∀ {ds : List TD} {vs : List V} (i : Nat), TpAll K H vs ds → TpAll K H (vs.take i) (ds.take i)
  | _, _, 0, _ => .nil
  | [], _, _ + 1, h => by cases h; exact .nil
  | d :: ds, _, i + 1, h => by
    cases h with
    | cons h1 h2 => exact .cons h1 (TpAll.take i h2)
theorem TpAll.ints : ∀ {ns : List Int} {vs : List V}, TpAll K H vs (ns.map TD.int) → vs = ns.map V.int
  | [], _, h => by cases h; rfl
  | n :: ns, _, h => by
    cases h with
    | cons h1 h2 =>
      cases h1
      rw [TpAll.ints h2]
      rfl
theorem TpAll.ofInts : ∀ (ns : List Int), TpAll K H (ns.map V.int) (ns.map TD.int)
  | [] => .nil
  | n :: ns => .cons (.int n) (TpAll.ofInts ns)
theorem TpAll.bls : ∀ {ns : List Bool} {vs : List V}, TpAll K H vs (ns.map TD.bl) → vs = ns.map V.bl
  | [], _, h => by cases h; rfl
  | n :: ns, _, h => by
    cases h with
    | cons h1 h2 =>
      cases h1
      rw [TpAll.bls h2]
      rfl
end

/-! ### what a name may hold, what an expression may give -/
inductive Dt where
  /-- data -/
  | p (d : TD)
  /-- a list that is read -/
  | l (ds : List TD)
  /-- a new list -/
  | f (ds : List TD)
  /-- a list of the def's own, at q -/
  | m (q : Addr) (ds : List TD)
  /-- an instance, some of its fields -/
  | o (fs : List (Str × TD))
  | pool
  /-- this value -/
  | fix (u : V)
abbrev iD (i : Int) : Dt := .p (.int i)
abbrev bD (b : Bool) : Dt := .p (.bl b)
abbrev nD : Dt := .p .non
abbrev Ev0 := List (Option Dt)

/-- an instance that bears these fields -/
def Ob (K : PySem.W.Frag) (H : Hp) (v : V) (fs : List (Str × TD)) : Prop :=
  ∃ a C dx gs, v = .ref a ∧ H a = some (.ins C dx gs) ∧ Cls K C ∧ ∀ f d, (f, d) ∈ fs → NoAttr K C f ∧ ∃ u, gs.lookup f = some u ∧ Tp K H u d
/-- a value, from a heap H0 to H -/
def Rp (K : PySem.W.Frag) (M : PM) (H0 H : Hp) (v : V) : Dt → Prop
  | .p d => Tp K H v d
  | .l ds => ∃ q vs, v = .ref q ∧ SqL K H q vs ∧ TpAll K H vs ds ∧ ¬ MA M q
  | .f ds => ∃ q vs, v = .ref q ∧ H q = some (.lst vs) ∧ TpAll K H vs ds ∧ H0 q = none
  | .m _ _ => False
  | .o fs => Ob K H v fs
  | .pool => ∃ p c, M.1 = some (p, c) ∧ v = .ref p
  | .fix u => v = u
/-- what a slot holds; B: the heap at the entry, G: what is guarded -/
def Sl (K : PySem.W.Frag) (M : PM) (B G H : Hp) (v : V) : Dt → Prop
  | .p d => Tp K H v d
  | .l ds => ∃ q vs, v = .ref q ∧ SqL K B q vs ∧ TpAll K H vs ds ∧ ¬ MA M q
  | .f _ => False
  | .m q ds => ∃ vs, v = .ref q ∧ H q = some (.lst vs) ∧ TpAll K H vs ds ∧ B q = none ∧ G q = none ∧ ¬ MA M q
  | .o fs => Ob K H v fs
  | .pool => ∃ p c, M.1 = some (p, c) ∧ v = .ref p
  | .fix u => v = u
structure En (K : PySem.W.Frag) (M : PM) (B G H : Hp) (σ : L2.St) (ρ : Ev0) : Prop where
  len : σ.length = ρ.length
  pool : Pool M H
  kB : Le M B H
  kG : ∀ a o, G a = some o → H a = some o ∧ ¬ MA M a
  sl : ∀ (i : Nat) (x : Dt), ρ[i]? = some (some x) → ∃ v, σ[i]? = some (some v) ∧ Sl K M B G H v x
  ds : ∀ (i j : Nat) (q : Addr) (a b : List TD), ρ[i]? = some (some (.m q a)) → ρ[j]? = some (some (.m q b)) → i = j

section
variable {K : PySem.W.Frag} {M : PM} {B G H H' H0 H1 H2 : Hp} {σ : L2.St} {ρ : Ev0} {v : V} {x : Dt}
theorem Ob.le (hp : Pool M H) (e : Le M H H') {fs : List (Str × TD)} (h : Ob K H v fs) : Ob K H' v fs := by
  obtain ⟨a, C, dx, gs, rfl, h1, c, h2⟩ := h
  refine ⟨a, C, dx, gs, rfl, e _ _ h1 (hp.notIns h1), c, fun f d hf => ?_⟩
  obtain ⟨n, u, l, t⟩ := h2 f d hf
  exact ⟨n, u, l, t.le hp e⟩
theorem Ob.mut {q : Addr} {ys : List V} {o : HO} (hq : H q = some (.lst ys)) {fs : List (Str × TD)} (h : Ob K H v fs) : Ob K (upd H q o) v fs := by
  obtain ⟨a, C, dx, gs, rfl, h1, c, h2⟩ := h
  refine ⟨a, C, dx, gs, rfl, by rw [upd_ne (ne_of h1 hq (by intro z; cases z))]; exact h1, c, fun f d hf => ?_⟩
  obtain ⟨n, u, l, t⟩ := h2 f d hf
  exact ⟨n, u, l, t.mut hq⟩
theorem Rp.step (hp : Pool M H) (e : Le M H H') (z : Pool M H0) : ∀ {x : Dt}, Rp K M H0 H v x → Rp K M H0 H' v x
  | .p d, h => Tp.le hp e (show Tp K H v d from h)
  | .l ds, h => by
    obtain ⟨q, vs, h1, h2, h3, h4⟩ := h
    exact ⟨q, vs, h1, sqL_le e h4 h2, h3.le hp e, h4⟩
  | .f ds, h => by
    obtain ⟨q, vs, h1, h2, h3, h4⟩ := h
    exact ⟨q, vs, h1, e _ _ h2 (z.free h4), h3.le hp e, h4⟩
  | .m _ _, h => h.elim
  | .o fs, h => Ob.le hp e (show Ob K H v fs from h)
  | .pool, h => h
  | .fix _, h => h
theorem Rp.back (hp : Pool M H1) (e : Le M H0 H1) : ∀ {x : Dt}, Rp K M H1 H v x → Rp K M H0 H v x
  | .p d, h => h
  | .l ds, h => h
  | .f ds, h => by
    obtain ⟨q, vs, h1, h2, h3, h4⟩ := h
    exact ⟨q, vs, h1, h2, h3, e.back hp h4⟩
  | .m _ _, h => h.elim
  | .o fs, h => h
  | .pool, h => h
  | .fix _, h => h
theorem Sl.step (hp : Pool M H) (e : Le M H H') : ∀ {x : Dt}, Sl K M B G H v x → Sl K M B G H' v x
  | .p d, h => Tp.le hp e (show Tp K H v d from h)
  | .l ds, h => by
    obtain ⟨q, vs, h1, h2, h3, h4⟩ := h
    exact ⟨q, vs, h1, h2, h3.le hp e, h4⟩
  | .f _, h => h.elim
  | .m q ds, h => by
    obtain ⟨vs, h1, h2, h3, h4, h5, h6⟩ := h
    exact ⟨vs, h1, e _ _ h2 h6, h3.le hp e, h4, h5, h6⟩
  | .o fs, h => Ob.le hp e (show Ob K H v fs from h)
  | .pool, h => h
  | .fix _, h => h
theorem En.step (I : En K M B G H σ ρ) (e : Le M H H') (hp : Pool M H') : En K M B G H' σ ρ :=
  ⟨I.len, hp, I.kB.trans e, fun a o h => ⟨e a o (I.kG a o h).1 (I.kG a o h).2, (I.kG a o h).2⟩, fun i x h => let ⟨v, h1, h2⟩ := I.sl i x h; ⟨v, h1, h2.step I.pool e⟩, I.ds⟩
theorem set_get {α : Type} {l : List α} {i j : Nat} {x y : α} (h : (l.set i x)[j]? = some y) : (i = j ∧ y = x) ∨ (i ≠ j ∧ l[j]? = some y) := by
  by_cases e : i = j
  · subst e
    rw [List.getElem?_set] at h
    split at h
    · split at h
      · exact .inl ⟨rfl, (Option.some.inj h).symm⟩
      · cases h
    · rename_i n; exact absurd rfl n
  · rw [List.getElem?_set_ne e] at h
    exact .inr ⟨e, h⟩
def noM : Dt → Prop
  | .m _ _ => False
  | _ => True
/-- a slot is stored -/
theorem En.set (I : En K M B G H σ ρ) {i : Nat} (h : Sl K M B G H v x) (n : noM x) : En K M B G H (σ.set i (some v)) (ρ.set i (some x)) := by
  refine ⟨by rw [List.length_set, List.length_set, I.len], I.pool, I.kB, I.kG, fun j y hj => ?_, fun j k q a b hj hk => ?_⟩
  · rcases set_get hj with ⟨e, e2⟩ | ⟨e, e2⟩
    · subst e
      have e3 : y = x := Option.some.inj e2
      have hl : i < ρ.length := by
        have := (List.getElem?_eq_some_iff.mp hj).1
        rwa [List.length_set] at this
      refine ⟨v, ?_, e3 ▸ h⟩
      rw [List.getElem?_set_self (by rw [I.len]; exact hl)]
    · obtain ⟨u, h1, h2⟩ := I.sl j y e2
      exact ⟨u, by rw [List.getElem?_set_ne e]; exact h1, h2⟩
  · rcases set_get hj with ⟨e, e2⟩ | ⟨e, e2⟩
    · have e3 := Option.some.inj e2
      rw [← e3] at n; exact n.elim
    · rcases set_get hk with ⟨e', e2'⟩ | ⟨e', e2'⟩
      · have e3 := Option.some.inj e2'
        rw [← e3] at n; exact n.elim
      · exact I.ds j k q a b e2 e2'
/-- a slot is stored of which nothing is told -/
theorem En.forget (I : En K M B G H σ ρ) {i : Nat} : En K M B G H (σ.set i (some v)) (ρ.set i none) := by
  refine ⟨by rw [List.length_set, List.length_set, I.len], I.pool, I.kB, I.kG, fun j y hj => ?_, fun j k q a b hj hk => ?_⟩
  · rcases set_get hj with ⟨e, e2⟩ | ⟨e, e2⟩
    · cases e2
    · obtain ⟨u, h1, h2⟩ := I.sl j y e2
      exact ⟨u, by rw [List.getElem?_set_ne e]; exact h1, h2⟩
  · rcases set_get hj with ⟨e, e2⟩ | ⟨e, e2⟩
    · cases e2
    · rcases set_get hk with ⟨e', e2'⟩ | ⟨e', e2'⟩
      · cases e2'
      · exact I.ds j k q a b e2 e2'
/-- a new list is stored (the heap as it is behind its making) -/
theorem En.setF (I : En K M B G H σ ρ) {i : Nat} {q : Addr} {vs : List V} {ds : List TD} (e : Le M H H') (hp : Pool M H') (hn : H q = none) (hq : H' q = some (.lst vs)) (hd : TpAll K H' vs ds) :
    En K M B G H' (σ.set i (some (.ref q))) (ρ.set i (some (.m q ds))) := by
  have nm : ¬ MA M q := I.pool.free hn
  have J := I.step e hp
  have slq : ∀ (j : Nat) (a : List TD), ρ[j]? = some (some (Dt.m q a)) → False := fun j a hj => by
    obtain ⟨u, _, vs', _, h2, _⟩ := I.sl j _ hj
    rw [hn] at h2; cases h2
  refine ⟨by rw [List.length_set, List.length_set, I.len], hp, J.kB, J.kG, fun j y hj => ?_, fun j k q' a b hj hk => ?_⟩
  · rcases set_get hj with ⟨e, e2⟩ | ⟨e, e2⟩
    · subst e
      have e3 : y = .m q ds := Option.some.inj e2
      have hl : i < ρ.length := by
        have := (List.getElem?_eq_some_iff.mp hj).1
        rwa [List.length_set] at this
      refine ⟨.ref q, ?_, ?_⟩
      · rw [List.getElem?_set_self (by rw [I.len]; exact hl)]
      · rw [e3]
        refine ⟨vs, rfl, hq, hd, I.kB.back I.pool hn, ?_, nm⟩
        cases g : G q with
        | none => rfl
        | some o =>
          rw [(I.kG q o g).1] at hn; cases hn
    · obtain ⟨u, h1, h2⟩ := J.sl j y e2
      exact ⟨u, by rw [List.getElem?_set_ne e]; exact h1, h2⟩
  · rcases set_get hj with ⟨e, e2⟩ | ⟨e, e2⟩
    · have e3 := Option.some.inj e2
      injection e3 with e4 e5
      subst e4
      rcases set_get hk with ⟨e', e2'⟩ | ⟨e', e2'⟩
      · rw [← e, ← e']
      · exact (slq k b e2').elim
    · rcases set_get hk with ⟨e', e2'⟩ | ⟨e', e2'⟩
      · have e3 := Option.some.inj e2'
        injection e3 with e4 e5
        subst e4
        exact (slq j a e2).elim
      · exact I.ds j k q' a b e2 e2'
/-- a list of the def's own is changed -/
theorem En.mut (I : En K M B G H σ ρ) {i : Nat} {q : Addr} {ds es : List TD} {ws : List V} (hi : ρ[i]? = some (some (.m q ds))) (hd : TpAll K H ws es) :
    En K M B G (upd H q (.lst ws)) σ (ρ.set i (some (.m q es))) := by
  obtain ⟨v, hv, vs, rfl, hq, hd0, hB, hG, nm⟩ := I.sl i _ hi
  refine ⟨by rw [List.length_set, I.len], I.pool.other nm, fun a o h n => ?_, fun a o h => ?_, fun j y hj => ?_, fun j k q' a b hj hk => ?_⟩
  · have ne : a ≠ q := fun z => by rw [z, hB] at h; cases h
    rw [upd_ne ne]
    exact I.kB a o h n
  · have ne : a ≠ q := fun z => by rw [z, hG] at h; cases h
    rw [upd_ne ne]
    exact I.kG a o h
  · rcases set_get hj with ⟨e, e2⟩ | ⟨e, e2⟩
    · subst e
      have e3 : y = .m q es := Option.some.inj e2
      refine ⟨.ref q, hv, ?_⟩
      rw [e3]
      exact ⟨ws, rfl, upd_same, hd.mut hq, hB, hG, nm⟩
    · obtain ⟨u, h1, h2⟩ := I.sl j y e2
      refine ⟨u, h1, ?_⟩
      cases y with
      | p d => exact Tp.mut hq (show Tp K H u d from h2)
      | l ds' =>
        obtain ⟨q', vs', g1, g2, g3, g4⟩ := h2
        exact ⟨q', vs', g1, g2, g3.mut hq, g4⟩
      | f _ => exact h2.elim
      | m q' ds' =>
        obtain ⟨vs', g1, g2, g3, g4, g5, g6⟩ := h2
        have ne : q' ≠ q := fun z => by
          rw [z] at e2
          exact e (I.ds i j q _ _ hi e2)
        exact ⟨vs', g1, by rw [upd_ne ne]; exact g2, g3.mut hq, g4, g5, g6⟩
      | o fs => exact Ob.mut hq (show Ob K H u fs from h2)
      | pool => exact h2
      | fix u => exact h2
  · have hi' : ∀ (j : Nat) (a : List TD), (ρ.set i (some (Dt.m q es)))[j]? = some (some (Dt.m q' a)) → ∃ a', ρ[j]? = some (some (Dt.m q' a')) := fun j a hj => by
      rcases set_get hj with ⟨e, e2⟩ | ⟨e, e2⟩
      · have e3 := Option.some.inj e2
        injection e3 with e4 e5
        rw [e4, ← e]
        exact ⟨ds, hi⟩
      · exact ⟨a, e2⟩
    obtain ⟨a', ha⟩ := hi' j a hj
    obtain ⟨b', hb⟩ := hi' k b hk
    exact I.ds j k q' a' b' ha hb
end

/-! ### what readings do upon data -/
section
variable (K : PySem.W.Frag) (M : PM)
def EX (te : TE) (ρ : Ev0) (P : Dt → Prop) : Prop := ∀ B G H σ, En K M B G H σ ρ → ∀ Q : VK, (∀ v H' x, P x → Le M H H' → Pool M H' → Rp K M H H' v x → Q v H') → te σ H Q
abbrev EV (te : TE) (ρ : Ev0) (x : Dt) : Prop := EX K M te ρ (fun y => y = x)
def EXT (tt : TT) (ρ : Ev0) (P : Bool → Prop) : Prop := ∀ B G H σ, En K M B G H σ ρ → ∀ Q : Bool → Hp → Prop, (∀ b H', P b → Le M H H' → Pool M H' → Q b H') → tt σ H Q
abbrev EVT (tt : TT) (ρ : Ev0) (b : Bool) : Prop := EXT K M tt ρ (fun c => c = b)
inductive RpAll (H0 H : Hp) : List V → List Dt → Prop
  | nil : RpAll H0 H [] []
  | cons {v : V} {vs : List V} {x : Dt} {xs : List Dt} : Rp K M H0 H v x → RpAll H0 H vs xs → RpAll H0 H (v :: vs) (x :: xs)
/-- arguments -/
def EXs (ta : TA) (ρ : Ev0) (P : List Dt → Prop) : Prop := ∀ B G H σ, En K M B G H σ ρ → ∀ Q : List V → Hp → Prop, (∀ vs H' xs, P xs → Le M H H' → Pool M H' → RpAll K M H H' vs xs → Q vs H') → ta σ H Q
abbrev EVs (ta : TA) (ρ : Ev0) (xs : List Dt) : Prop := EXs K M ta ρ (fun ys => ys = xs)
/-- items of a display -/
def EXt (ta : TA) (ρ : Ev0) (P : List TD → Prop) : Prop := ∀ B G H σ, En K M B G H σ ρ → ∀ Q : List V → Hp → Prop, (∀ vs H' xs, P xs → Le M H H' → Pool M H' → TpAll K H' vs xs → Q vs H') → ta σ H Q
abbrev EVt (ta : TA) (ρ : Ev0) (xs : List TD) : Prop := EXt K M ta ρ (fun ys => ys = xs)
/-- a def's promise, by data -/
def SpOk (sp : Sp) (xs : List Dt) (R : Dt → Prop) : Prop := ∀ H vs, Pool M H → RpAll K M H H vs xs → ∀ (Q : VK) (E : XK), (∀ v H' x, R x → Le M H H' → Pool M H' → Rp K M H H' v x → Q v H') → sp vs H Q E
/-- how a block ends -/
inductive Res where
  | nx (ρ : Ev0) | bk (ρ : Ev0) | ct (ρ : Ev0) | rt (x : Dt)
def Sat (B G : Hp) (D : Ends) : Res → Prop
  | .nx ρ => ∀ σ H, En K M B G H σ ρ → D.nx σ H
  | .bk ρ => ∀ σ H, En K M B G H σ ρ → D.bk σ H
  | .ct ρ => ∀ σ H, En K M B G H σ ρ → D.ct σ H
  | .rt x => ∀ v H, Le M B H → Pool M H → Rp K M B H v x → D.rt v H
def SX (t : TS) (ρ : Ev0) (Po : Res → Prop) : Prop := ∀ B G H σ, En K M B G H σ ρ → ∀ D : Ends, (∀ o, Po o → Sat K M B G D o) → t D σ H
/-- a target takes a value of data -/
def GX (g : TG) (d : TD) (ρ : Ev0) (Po : Ev0 → Prop) : Prop := ∀ B G H σ v, En K M B G H σ ρ → Tp K H v d → ∀ Q : L2.St → Hp → Prop, (∀ σ' H' ρ', Po ρ' → En K M B G H' σ' ρ' → Le M H H' → Q σ' H') → g v σ H Q
end
abbrev thenS (u : TS) (K : PySem.W.Frag) (M : PM) (Po : Res → Prop) : Res → Prop
  | .nx ρ => SX K M u ρ Po
  | o => Po o
end K37
end
section
set_option Elab.async false
set_option linter.all false
set_option maxRecDepth 100000
set_option maxHeartbeats 4000000
/-! KB: the rules for expressions, tests, arguments. -/
namespace K37
open PySem L2
section
variable {K : PySem.W.Frag} {M : PM} {ρ : Ev0} {ta tb tc te : TE} {tt uu : TT} {tr : TA}
theorem EX.mono {P P' : Dt → Prop} (h : EX K M te ρ P) (i : ∀ x, P x → P' x) : EX K M te ρ P' := fun B G H σ I Q q => h B G H σ I Q fun v H' x p => q v H' x (i x p)
theorem EXT.mono {P P' : Bool → Prop} (h : EXT K M tt ρ P) (i : ∀ x, P x → P' x) : EXT K M tt ρ P' := fun B G H σ I Q q => h B G H σ I Q fun b H' p => q b H' (i b p)
theorem EV.to {x y : Dt} (h : EV K M te ρ x) (e : x = y) : EV K M te ρ y := e ▸ h
theorem EVT.to {x y : Bool} (h : EVT K M tt ρ x) (e : x = y) : EVT K M tt ρ y := e ▸ h
/-! ### names, constants -/
theorem ev_p {i : Nat} {d : TD} (h : ρ[i]? = some (some (.p d))) : EV K M (tVar i) ρ (.p d) := fun B G H σ I Q q => by
  obtain ⟨v, hv, s⟩ := I.sl i _ h
  exact ⟨v, hv, q v H _ rfl (Le.refl H) I.pool s⟩
theorem ev_l {i : Nat} {d : List TD} (h : ρ[i]? = some (some (.l d))) : EV K M (tVar i) ρ (.l d) := fun B G H σ I Q q => by
  obtain ⟨v, hv, s⟩ := I.sl i _ h
  obtain ⟨a, vs, h1, h2, h3, h4⟩ := s
  exact ⟨v, hv, q v H _ rfl (Le.refl H) I.pool ⟨a, vs, h1, sqL_le I.kB h4 h2, h3, h4⟩⟩
theorem ev_m {i : Nat} {a : Addr} {d : List TD} (h : ρ[i]? = some (some (.m a d))) : EV K M (tVar i) ρ (.l d) := fun B G H σ I Q q => by
  obtain ⟨v, hv, s⟩ := I.sl i _ h
  obtain ⟨vs, h1, h2, h3, _, _, h4⟩ := s
  exact ⟨v, hv, q v H _ rfl (Le.refl H) I.pool ⟨a, vs, h1, SqL.of h2, h3, h4⟩⟩
theorem ev_o {i : Nat} {fs : List (Str × TD)} (h : ρ[i]? = some (some (.o fs))) : EV K M (tVar i) ρ (.o fs) := fun B G H σ I Q q => by
  obtain ⟨v, hv, s⟩ := I.sl i _ h
  exact ⟨v, hv, q v H _ rfl (Le.refl H) I.pool s⟩
theorem ev_pool {i : Nat} (h : ρ[i]? = some (some .pool)) : EV K M (tVar i) ρ .pool := fun B G H σ I Q q => by
  obtain ⟨v, hv, s⟩ := I.sl i _ h
  exact ⟨v, hv, q v H _ rfl (Le.refl H) I.pool s⟩
theorem ev_int {i : Int} : EV K M (tC (.int i)) ρ (iD i) := fun B G H σ I Q q => q _ H _ rfl (Le.refl H) I.pool (Tp.int i)
theorem ev_bl {b : Bool} : EV K M (tC (.bl b)) ρ (bD b) := fun B G H σ I Q q => q _ H _ rfl (Le.refl H) I.pool (Tp.bl b)
theorem ev_non : EV K M (tC .non) ρ nD := fun B G H σ I Q q => q _ H _ rfl (Le.refl H) I.pool Tp.non
/-- a tuple of the written part -/
theorem ev_con {v : V} {d : TD} (h : ∀ H, Tp K H v d) : EV K M (tC v) ρ (.p d) := fun B G H σ I Q q => q _ H _ rfl (Le.refl H) I.pool (h H)
/-! ### operators -/
/-- what an operation does upon two pieces of data -/
theorem ex_opP {r : R2} {P1 P2 : TD → Prop} {P : Dt → Prop} (ha : EX K M ta ρ (fun x => ∃ d, x = .p d ∧ P1 d)) (hb : EX K M tb ρ (fun x => ∃ d, x = .p d ∧ P2 d))
    (hr : ∀ a b H v u, P1 a → P2 b → Pool M H → Tp K H v a → Tp K H u b → ∀ Q : VK, (∀ w H' x, P x → Le M H H' → Pool M H' → Rp K M H H' w x → Q w H') → r v u H Q) : EX K M (tOp r ta tb) ρ P := fun B G H σ I Q q =>
  ha B G H σ I _ fun v H1 x ⟨a, ex, p1⟩ e1 hp1 r1 => by
    subst ex
    have J := I.step e1 hp1
    refine hb B G H1 σ J _ fun u H2 y ⟨b, ey, p2⟩ e2 hp2 r2 => ?_
    subst ey
    exact hr a b H2 v u p1 p2 hp2 (Tp.le hp1 e2 r1) r2 Q fun w H3 z pz e3 hp3 r3 => q w H3 z pz ((e1.trans e2).trans e3) hp3 (r3.back hp2 (e1.trans e2))
theorem ev_opP {r : R2} {a b : TD} {z : Dt} (ha : EV K M ta ρ (.p a)) (hb : EV K M tb ρ (.p b))
    (hr : ∀ H v u, Pool M H → Tp K H v a → Tp K H u b → ∀ Q : VK, (∀ w H', Le M H H' → Pool M H' → Rp K M H H' w z → Q w H') → r v u H Q) : EV K M (tOp r ta tb) ρ z :=
  ex_opP (P1 := fun d => d = a) (P2 := fun d => d = b) (ha.mono fun x e => ⟨a, e, rfl⟩) (hb.mono fun x e => ⟨b, e, rfl⟩) fun a' b' H v u e1 e2 hp h1 h2 Q q => by
    subst e1; subst e2
    exact hr H v u hp h1 h2 Q fun w H' e hp' r => q w H' z rfl e hp' r
theorem Tp.int_inv {H : Hp} {v : V} {i : Int} (h : Tp K H v (.int i)) : v = .int i := by cases h; rfl
theorem Tp.bl_inv {H : Hp} {v : V} {b : Bool} (h : Tp K H v (.bl b)) : v = .bl b := by cases h; rfl
theorem Tp.non_inv {H : Hp} {v : V} (h : Tp K H v .non) : v = .non := by cases h; rfl
theorem Tp.tup_inv {H : Hp} {v : V} {ds : List TD} (h : Tp K H v (.tup ds)) : ∃ a xs, v = .ref a ∧ SqT K H a xs ∧ TpAll K H xs ds := by
  cases h with
  | tup h1 h2 => exact ⟨_, _, rfl, h1, h2⟩
theorem ev_I0 {g : Int → Int → Int} {a b : Int} (ha : EV K M ta ρ (iD a)) (hb : EV K M tb ρ (iD b)) : EV K M (tOp (rI0 fun i j => .int (g i j)) ta tb) ρ (iD (g a b)) :=
  ev_opP ha hb fun H v u hp h1 h2 Q q => ⟨a, b, h1.int_inv, h2.int_inv, q _ H (Le.refl H) hp (Tp.int _)⟩
theorem ev_IB {g : Int → Int → Bool} {a b : Int} (ha : EV K M ta ρ (iD a)) (hb : EV K M tb ρ (iD b)) : EV K M (tOp (rI0 fun i j => .bl (g i j)) ta tb) ρ (bD (g a b)) :=
  ev_opP ha hb fun H v u hp h1 h2 Q q => ⟨a, b, h1.int_inv, h2.int_inv, q _ H (Le.refl H) hp (Tp.bl _)⟩
theorem ev_I {C : Int → Int → Prop} {g : Int → Int → Int} {a b : Int} (ha : EV K M ta ρ (iD a)) (hb : EV K M tb ρ (iD b)) (hc : C a b) : EV K M (tOp (rI C fun i j => .int (g i j)) ta tb) ρ (iD (g a b)) :=
  ev_opP ha hb fun H v u hp h1 h2 Q q => ⟨a, b, h1.int_inv, h2.int_inv, hc, q _ H (Le.refl H) hp (Tp.int _)⟩
/-- with told letters -/
theorem ex_I0 {g : Int → Int → Int} {P1 P2 : Int → Prop} {P : Int → Prop} (ha : EX K M ta ρ (fun x => ∃ i, x = iD i ∧ P1 i)) (hb : EX K M tb ρ (fun x => ∃ i, x = iD i ∧ P2 i)) (h : ∀ a b, P1 a → P2 b → P (g a b)) :
    EX K M (tOp (rI0 fun i j => .int (g i j)) ta tb) ρ (fun x => ∃ i, x = iD i ∧ P i) :=
  ex_opP (P1 := fun d => ∃ i, d = .int i ∧ P1 i) (P2 := fun d => ∃ i, d = .int i ∧ P2 i) (ha.mono fun x ⟨i, e, p⟩ => ⟨.int i, e, i, rfl, p⟩) (hb.mono fun x ⟨i, e, p⟩ => ⟨.int i, e, i, rfl, p⟩)
    fun a b H v u ⟨i, e1, p1⟩ ⟨j, e2, p2⟩ hp h1 h2 Q q => by
      subst e1; subst e2
      exact ⟨i, j, h1.int_inv, h2.int_inv, q _ H _ ⟨_, rfl, h i j p1 p2⟩ (Le.refl H) hp (Tp.int _)⟩
theorem ex_IB {g : Int → Int → Bool} {P1 P2 : Int → Prop} {P : Bool → Prop} (ha : EX K M ta ρ (fun x => ∃ i, x = iD i ∧ P1 i)) (hb : EX K M tb ρ (fun x => ∃ i, x = iD i ∧ P2 i)) (h : ∀ a b, P1 a → P2 b → P (g a b)) :
    EX K M (tOp (rI0 fun i j => .bl (g i j)) ta tb) ρ (fun x => ∃ i, x = bD i ∧ P i) :=
  ex_opP (P1 := fun d => ∃ i, d = .int i ∧ P1 i) (P2 := fun d => ∃ i, d = .int i ∧ P2 i) (ha.mono fun x ⟨i, e, p⟩ => ⟨.int i, e, i, rfl, p⟩) (hb.mono fun x ⟨i, e, p⟩ => ⟨.int i, e, i, rfl, p⟩)
    fun a b H v u ⟨i, e1, p1⟩ ⟨j, e2, p2⟩ hp h1 h2 Q q => by
      subst e1; subst e2
      exact ⟨i, j, h1.int_inv, h2.int_inv, q _ H _ ⟨_, rfl, h i j p1 p2⟩ (Le.refl H) hp (Tp.bl _)⟩
theorem ev_neg {a : Int} (ha : EV K M ta ρ (iD a)) : EV K M (tUn (rU fun i => .int (-i)) ta) ρ (iD (-a)) := fun B G H σ I Q q =>
  ha B G H σ I _ fun v H1 x ex e1 hp1 r1 => by
    subst ex
    exact ⟨a, Tp.int_inv r1, q _ H1 _ rfl e1 hp1 (Tp.int _)⟩
theorem ev_eqI {a b : Int} (ha : EV K M ta ρ (iD a)) (hb : EV K M tb ρ (iD b)) : EV K M (tOp rEq ta tb) ρ (bD (decide (a = b))) :=
  ev_opP ha hb fun H v u hp h1 h2 Q q => by
    rw [h1.int_inv, h2.int_inv]
    refine ⟨rfl, ?_⟩
    rw [show decide (V.int a = V.int b) = decide (a = b) by rw [dec_int]; exact Bool.beq_eq_decide_eq a b]
    exact q _ H (Le.refl H) hp (Tp.bl _)
theorem ev_neI {a b : Int} (ha : EV K M ta ρ (iD a)) (hb : EV K M tb ρ (iD b)) : EV K M (tOp rNe ta tb) ρ (bD (!decide (a = b))) :=
  ev_opP ha hb fun H v u hp h1 h2 Q q => by
    rw [h1.int_inv, h2.int_inv]
    refine ⟨rfl, ?_⟩
    rw [show decide (V.int a = V.int b) = decide (a = b) by rw [dec_int]; exact Bool.beq_eq_decide_eq a b]
    exact q _ H (Le.refl H) hp (Tp.bl _)
theorem ev_neB {a b : Bool} (ha : EV K M ta ρ (bD a)) (hb : EV K M tb ρ (bD b)) : EV K M (tOp rNe ta tb) ρ (bD (!decide (a = b))) :=
  ev_opP ha hb fun H v u hp h1 h2 Q q => by
    rw [h1.bl_inv, h2.bl_inv]
    refine ⟨rfl, ?_⟩
    rw [show decide (V.bl a = V.bl b) = decide (a = b) by rw [dec_bl]; exact Bool.beq_eq_decide_eq a b]
    exact q _ H (Le.refl H) hp (Tp.bl _)
theorem ex_eqI {P1 P2 : Int → Prop} {P : Bool → Prop} (ha : EX K M ta ρ (fun x => ∃ i, x = iD i ∧ P1 i)) (hb : EX K M tb ρ (fun x => ∃ i, x = iD i ∧ P2 i)) (h : ∀ a b, P1 a → P2 b → P (decide (a = b))) :
    EX K M (tOp rEq ta tb) ρ (fun x => ∃ i, x = bD i ∧ P i) :=
  ex_opP (P1 := fun d => ∃ i, d = .int i ∧ P1 i) (P2 := fun d => ∃ i, d = .int i ∧ P2 i) (ha.mono fun x ⟨i, e, p⟩ => ⟨.int i, e, i, rfl, p⟩) (hb.mono fun x ⟨i, e, p⟩ => ⟨.int i, e, i, rfl, p⟩)
    fun a b H v u ⟨i, e1, p1⟩ ⟨j, e2, p2⟩ hp h1 h2 Q q => by
      subst e1; subst e2
      rw [h1.int_inv, h2.int_inv]
      refine ⟨rfl, ?_⟩
      rw [show decide (V.int i = V.int j) = decide (i = j) by rw [dec_int]; exact Bool.beq_eq_decide_eq i j]
      exact q _ H _ ⟨_, rfl, h i j p1 p2⟩ (Le.refl H) hp (Tp.bl _)
def isN : TD → Bool
  | .non => true
  | _ => false
theorem Tp.isN {H : Hp} {v : V} {d : TD} (h : Tp K H v d) : decide (v = .non) = K37.isN d := by
  cases h with
  | non => rfl
  | bl b => rfl
  | int i => rfl
  | tup _ _ => rfl
theorem ev_isN {d : TD} (ha : EV K M ta ρ (.p d)) : EV K M (tOp (fun x y H Q => y = .non ∧ Q (.bl (decide (x = .non))) H) ta (tC .non)) ρ (bD (isN d)) :=
  ev_opP ha ev_non fun H v u hp h1 h2 Q q => ⟨h2.non_inv, by rw [h1.isN]; exact q _ H (Le.refl H) hp (Tp.bl _)⟩
theorem ev_notN {d : TD} (ha : EV K M ta ρ (.p d)) : EV K M (tOp (fun x y H Q => y = .non ∧ Q (.bl (!decide (x = .non))) H) ta (tC .non)) ρ (bD (!isN d)) :=
  ev_opP ha ev_non fun H v u hp h1 h2 Q q => ⟨h2.non_inv, by rw [h1.isN]; exact q _ H (Le.refl H) hp (Tp.bl _)⟩
theorem ev_isnotB {a b : Bool} (ha : EV K M ta ρ (bD a)) (hb : EV K M tb ρ (bD b)) : EV K M (tOp (fun x y H Q => ∃ a b, x = .bl a ∧ y = .bl b ∧ Q (.bl (!decide (a = b))) H) ta tb) ρ (bD (!decide (a = b))) :=
  ev_opP ha hb fun H v u hp h1 h2 Q q => ⟨a, b, h1.bl_inv, h2.bl_inv, q _ H (Le.refl H) hp (Tp.bl _)⟩
/-! ### subscripts, fields -/
theorem atI_of {α : Type} {xs : List α} {i : Int} {j : Nat} {v : α} (e : i = (j : Int)) (h : xs[j]? = some v) : atI xs i = some v := by
  rw [e]; exact atI_nat h
theorem ev_ixT {ds : List TD} {i : Int} {d : TD} (ha : EV K M ta ρ (.p (.tup ds))) (hb : EV K M tb ρ (iD i)) (j : Nat) (e : i = (j : Int)) (h : ds[j]? = some d) : EV K M (tOp (rIxT K) ta tb) ρ (.p d) :=
  ev_opP ha hb fun H v u hp h1 h2 Q q => by
    obtain ⟨a, xs, rfl, hs, hx⟩ := h1.tup_inv
    obtain ⟨w, hw, rw'⟩ := hx.get h
    exact ⟨a, xs, i, w, rfl, h2.int_inv, hs, atI_of e hw, q w H (Le.refl H) hp rw'⟩
theorem ex_ixT {P1 : Int → Prop} {P : TD → Prop} {ds : List TD} (ha : EV K M ta ρ (.p (.tup ds))) (hb : EX K M tb ρ (fun x => ∃ i, x = iD i ∧ P1 i)) (h : ∀ i, P1 i → ∃ j : Nat, i = (j : Int) ∧ ∃ d, ds[j]? = some d ∧ P d) :
    EX K M (tOp (rIxT K) ta tb) ρ (fun x => ∃ d, x = .p d ∧ P d) :=
  ex_opP (P1 := fun d => d = .tup ds) (P2 := fun d => ∃ i, d = .int i ∧ P1 i) (ha.mono fun x e => ⟨_, e, rfl⟩) (hb.mono fun x ⟨i, e, p⟩ => ⟨.int i, e, i, rfl, p⟩)
    fun a b H v u e1 ⟨i, e2, p2⟩ hp h1 h2 Q q => by
      subst e1; subst e2
      obtain ⟨j, ej, d, hd, pd⟩ := h i p2
      obtain ⟨a, xs, rfl, hs, hx⟩ := h1.tup_inv
      obtain ⟨w, hw, rw'⟩ := hx.get hd
      exact ⟨a, xs, i, w, rfl, h2.int_inv, hs, atI_of ej hw, q w H _ ⟨d, rfl, pd⟩ (Le.refl H) hp rw'⟩
/-- a list that is read; the index may do what it likes to the pool alone -/
theorem ex_ixL {P1 : Int → Prop} {P : TD → Prop} {ds : List TD} (ha : EV K M ta ρ (.l ds)) (hb : EX K M tb ρ (fun x => ∃ i, x = iD i ∧ P1 i)) (h : ∀ i, P1 i → ∃ j : Nat, i = (j : Int) ∧ ∃ d, ds[j]? = some d ∧ P d) :
    EX K M (tOp (rIxL K) ta tb) ρ (fun x => ∃ d, x = .p d ∧ P d) := fun B G H σ I Q q =>
  ha B G H σ I _ fun v H1 x ex e1 hp1 r1 => by
    subst ex
    have J := I.step e1 hp1
    refine hb B G H1 σ J _ fun u H2 y ⟨i, ey, p⟩ e2 hp2 r2 => ?_
    subst ey
    obtain ⟨a, vs, rfl, g2, g3, g4⟩ := r1
    obtain ⟨j, ej, d, hd, pd⟩ := h i p
    obtain ⟨w, hw, rw'⟩ := (g3.le hp1 e2).get hd
    exact ⟨a, vs, i, w, rfl, Tp.int_inv r2, sqL_le e2 g4 g2, atI_of ej hw, q w H2 _ ⟨d, rfl, pd⟩ (e1.trans e2) hp2 rw'⟩
/-- a display that is subscripted -/
theorem EX.fl {ds : List TD} (ha : EV K M ta ρ (.f ds)) : EV K M ta ρ (.l ds) := fun B G H σ I Q q =>
  ha B G H σ I _ fun v H1 x ex e1 hp1 r1 => by
    subst ex
    obtain ⟨a, vs, g1, g2, g3, g4⟩ := r1
    exact q v H1 _ rfl e1 hp1 ⟨a, vs, g1, SqL.of g2, g3, I.pool.free g4⟩
theorem ev_ixL {ds : List TD} {i : Int} {d : TD} (ha : EV K M ta ρ (.l ds)) (hb : EV K M tb ρ (iD i)) (j : Nat) (e : i = (j : Int)) (h : ds[j]? = some d) : EV K M (tOp (rIxL K) ta tb) ρ (.p d) :=
  (ex_ixL (P1 := fun k => k = i) (P := fun x => x = d) ha (hb.mono fun x e => ⟨i, e, rfl⟩) fun k ek => ⟨j, by rw [ek]; exact e, d, h, rfl⟩).mono fun x ⟨y, e, e2⟩ => by rw [e, e2]
/-- a list or a tuple -/
def rIxLT (K : PySem.W.Frag) : R2 := fun x y H Q => rIxL K x y H Q ∨ rIxT K x y H Q
theorem ix_LT {X : Cx} : IxR X (rIxLT X.K) := ix_list.or ix_tup
theorem ev_fld {fs : List (Str × TD)} {f : Str} {d : TD} (ha : EV K M ta ρ (.o fs)) (h : (f, d) ∈ fs) : EV K M (tFld K ta f) ρ (.p d) := fun B G H σ I Q q =>
  ha B G H σ I _ fun v H1 x ex e1 hp1 r1 => by
    subst ex
    obtain ⟨a, C, dx, gs, rfl, h1, c, h2⟩ := (show Ob K H1 v fs from r1)
    obtain ⟨n, u, l, t⟩ := h2 f d h
    exact ⟨a, C, dx, gs, u, rfl, h1, c, n, l, q u H1 _ rfl e1 hp1 t⟩
/-! ### displays, arguments -/
theorem evt_nil : EVt K M tNil ρ [] := fun B G H σ I Q q => q [] H [] rfl (Le.refl H) I.pool .nil
theorem ext_cons {P1 : TD → Prop} {P2 P : List TD → Prop} (ha : EX K M te ρ (fun x => ∃ d, x = .p d ∧ P1 d)) (hr : EXt K M tr ρ P2) (h : ∀ d ds, P1 d → P2 ds → P (d :: ds)) : EXt K M (tCons te tr) ρ P := fun B G H σ I Q q =>
  ha B G H σ I _ fun v H1 x ⟨d, ex, p⟩ e1 hp1 r1 => by
    subst ex
    exact hr B G H1 σ (I.step e1 hp1) _ fun vs H2 xs px e2 hp2 r2 => q _ H2 _ (h d xs p px) (e1.trans e2) hp2 (.cons (Tp.le hp1 e2 r1) r2)
theorem evt_cons {d : TD} {ds : List TD} (ha : EV K M te ρ (.p d)) (hr : EVt K M tr ρ ds) : EVt K M (tCons te tr) ρ (d :: ds) :=
  ext_cons (P1 := fun x => x = d) (P2 := fun x => x = ds) (ha.mono fun x e => ⟨d, e, rfl⟩) hr fun x xs e1 e2 => by rw [e1, e2]
theorem sz1000 {n : Nat} (h : n ≤ 1000) : n ≤ sizeLine := Nat.le_trans h (by decide)
theorem ex_tup {P : List TD → Prop} (h : EXt K M tr ρ P) (hl : ∀ ds, P ds → ds.length ≤ 1000) : EX K M (tTup tr) ρ (fun x => ∃ ds, x = .p (.tup ds) ∧ P ds) := fun B G H σ I Q q =>
  h B G H σ I _ fun vs H1 xs px e1 hp1 r1 => ⟨by rw [r1.length]; exact sz1000 (hl xs px), fun p hp => q _ _ _ ⟨xs, rfl, px⟩ (e1.trans (Le.new hp)) (hp1.new hp) (Tp.tup (SqT.of upd_same) (r1.le hp1 (Le.new hp)))⟩
theorem ev_tup {ds : List TD} (h : EVt K M tr ρ ds) (hl : ds.length ≤ 1000 := by exact Nat.le_of_ble_eq_true rfl) : EV K M (tTup tr) ρ (.p (.tup ds)) :=
  (ex_tup h fun xs e => by rw [e]; exact hl).mono fun x ⟨xs, e1, e2⟩ => by rw [e1, e2]
theorem ex_lst {P : List TD → Prop} (h : EXt K M tr ρ P) (hl : ∀ ds, P ds → ds.length ≤ 1000) : EX K M (tLst tr) ρ (fun x => ∃ ds, x = .f ds ∧ P ds) := fun B G H σ I Q q =>
  h B G H σ I _ fun vs H1 xs px e1 hp1 r1 => ⟨by rw [r1.length]; exact sz1000 (hl xs px), fun p hp => q _ _ _ ⟨xs, rfl, px⟩ (e1.trans (Le.new hp)) (hp1.new hp) ⟨p, vs, rfl, upd_same, r1.le hp1 (Le.new hp), e1.back hp1 hp⟩⟩
theorem ev_lst {ds : List TD} (h : EVt K M tr ρ ds) (hl : ds.length ≤ 1000 := by exact Nat.le_of_ble_eq_true rfl) : EV K M (tLst tr) ρ (.f ds) :=
  (ex_lst h fun xs e => by rw [e]; exact hl).mono fun x ⟨xs, e1, e2⟩ => by rw [e1, e2]
theorem RpAll.step {H0 H H' : Hp} (hp : Pool M H) (e : Le M H H') (z : Pool M H0) : ∀ {xs : List Dt} {vs : List V}, RpAll K M H0 H vs xs → RpAll K M H0 H' vs xs
  | [], _, h => by cases h; exact .nil
  | x :: xs, _, h => by
    cases h with
    | cons h1 h2 => exact .cons (h1.step hp e z) (RpAll.step hp e z h2)
theorem RpAll.back {H0 H1 H : Hp} (hp : Pool M H1) (e : Le M H0 H1) : ∀ {xs : List Dt} {vs : List V}, RpAll K M H1 H vs xs → RpAll K M H0 H vs xs
  | [], _, h => by cases h; exact .nil
  | x :: xs, _, h => by
    cases h with
    | cons h1 h2 => exact .cons (h1.back hp e) (RpAll.back hp e h2)
theorem evs_nil : EVs K M tNil ρ [] := fun B G H σ I Q q => q [] H [] rfl (Le.refl H) I.pool .nil
theorem exs_cons {P1 : Dt → Prop} {P2 P : List Dt → Prop} (ha : EX K M te ρ P1) (hr : EXs K M tr ρ P2) (h : ∀ d ds, P1 d → P2 ds → P (d :: ds)) : EXs K M (tCons te tr) ρ P := fun B G H σ I Q q =>
  ha B G H σ I _ fun v H1 x px e1 hp1 r1 =>
    hr B G H1 σ (I.step e1 hp1) _ fun vs H2 xs px2 e2 hp2 r2 => q _ H2 _ (h x xs px px2) (e1.trans e2) hp2 (.cons (r1.step hp1 e2 I.pool) (r2.back hp1 e1))
theorem evs_cons {x : Dt} {xs : List Dt} (ha : EV K M te ρ x) (hr : EVs K M tr ρ xs) : EVs K M (tCons te tr) ρ (x :: xs) := exs_cons ha hr fun d ds e1 e2 => by rw [e1, e2]
/-! ### calls -/
def nf : Dt → Bool
  | .f _ => false
  | _ => true
theorem Rp.here {H0 H : Hp} {v : V} : ∀ {x : Dt}, nf x = true → Rp K M H0 H v x → Rp K M H H v x
  | .p _, _, h => h
  | .l _, _, h => h
  | .f _, n, _ => nomatch n
  | .m _ _, _, h => h.elim
  | .o _, _, h => h
  | .pool, _, h => h
  | .fix _, _, h => h
theorem RpAll.here {H0 H : Hp} : ∀ {xs : List Dt} {vs : List V}, xs.all nf = true → RpAll K M H0 H vs xs → RpAll K M H H vs xs
  | [], _, _, h => by cases h; exact .nil
  | x :: xs, _, n, h => by
    cases h with
    | cons h1 h2 =>
      rw [List.all_cons, Bool.and_eq_true] at n
      exact .cons (h1.here n.1) (RpAll.here n.2 h2)
theorem ex_callX {sp : Sp} {E : XK} {P : List Dt → Prop} {R : Dt → Prop} (h : EXs K M tr ρ P) (hs : ∀ xs, P xs → SpOk K M sp xs R) (hn : ∀ xs, P xs → xs.all nf = true) : EX K M (tCall sp [] E tr) ρ R := fun B G H σ I Q q =>
  h B G H σ I _ fun vs H1 xs px e1 hp1 r1 => by
    show sp (vs ++ []) H1 Q E
    rw [List.append_nil]
    exact hs xs px H1 vs hp1 (r1.here (hn xs px)) Q E fun v H2 x rx e2 hp2 r2 => q v H2 x rx (e1.trans e2) hp2 (r2.back hp1 e1)
theorem ex_call {sp : Sp} {E : XK} {xs : List Dt} {R : Dt → Prop} (h : EVs K M tr ρ xs) (hs : SpOk K M sp xs R) (hn : xs.all nf = true := by rfl) : EX K M (tCall sp [] E tr) ρ R :=
  ex_callX h (fun ys e => by rw [e]; exact hs) (fun ys e => by rw [e]; exact hn)
/-! ### the promise of a def upon data -/
def spX (K : PySem.W.Frag) {A : Type} (args : A → List Dt) (pre : A → Prop) (res : A → Dt → Prop) : Sp := fun vs H Q _ => ∃ (a : A) (M : PM), Pool M H ∧ RpAll K M H H vs (args a) ∧ pre a ∧ ∀ v H' x, res a x → Le M H H' → Pool M H' → Rp K M H H' v x → Q v H'
theorem spX_ok {A : Type} {args : A → List Dt} {pre : A → Prop} {res : A → Dt → Prop} (a : A) (h : pre a) : SpOk K M (spX K args pre res) (args a) (res a) := fun H vs hp r Q E q => ⟨a, M, hp, r, h, q⟩
theorem SpOk.mono {sp : Sp} {xs : List Dt} {R R' : Dt → Prop} (h : SpOk K M sp xs R) (i : ∀ x, R x → R' x) : SpOk K M sp xs R' := fun H vs hp r Q E q => h H vs hp r Q E fun v H' x rx => q v H' x (i x rx)
/-! ### built-in functions -/
theorem ex_b1 {r : List V → Hp → VK → Prop} {x : Dt} {P : Dt → Prop} (ha : EV K M ta ρ x) (hr : ∀ H0 H v, Pool M H0 → Pool M H → Le M H0 H → Rp K M H0 H v x → ∀ Q : VK, (∀ w H' y, P y → Le M H H' → Pool M H' → Rp K M H H' w y → Q w H') → r [v] H Q) : EX K M (tCB r (tCons ta tNil)) ρ P := fun B G H σ I Q q =>
  ha B G H σ I _ fun v H1 y ey e1 hp1 r1 => by
    subst ey
    exact hr H H1 v I.pool hp1 e1 r1 Q fun w H2 z pz e2 hp2 r2 => q w H2 z pz (e1.trans e2) hp2 (r2.back hp1 e1)
def rLenS (K : PySem.W.Frag) : List V → Hp → VK → Prop := fun xs H Q => ∃ p ys, xs = [.ref p] ∧ (SqL K H p ys ∨ SqT K H p ys) ∧ Q (.int ys.length) H
theorem ev_lenT {ds : List TD} (ha : EV K M ta ρ (.p (.tup ds))) : EV K M (tCB (rLenS K) (tCons ta tNil)) ρ (iD (ds.length : Int)) :=
  ex_b1 ha fun H0 H v _ hp _ r Q q => by
    obtain ⟨a, xs, rfl, hs, hx⟩ := Tp.tup_inv r
    exact ⟨a, xs, rfl, .inr hs, by rw [hx.length]; exact q _ H _ rfl (Le.refl H) hp (Tp.int _)⟩
theorem ev_lenL {ds : List TD} (ha : EV K M ta ρ (.l ds)) : EV K M (tCB (rLenS K) (tCons ta tNil)) ρ (iD (ds.length : Int)) :=
  ex_b1 ha fun H0 H v _ hp _ r Q q => by
    obtain ⟨a, xs, rfl, hs, hx, _⟩ := r
    exact ⟨a, xs, rfl, .inl hs, by rw [hx.length]; exact q _ H _ rfl (Le.refl H) hp (Tp.int _)⟩
theorem ev_lenF {ds : List TD} (ha : EV K M ta ρ (.f ds)) : EV K M (tCB (rLenS K) (tCons ta tNil)) ρ (iD (ds.length : Int)) := ev_lenL ha.fl
def rAbs : List V → Hp → VK → Prop := fun xs H Q => ∃ i, xs = [.int i] ∧ Q (.int (if i < 0 then -i else i)) H
theorem ev_abs {a : Int} (ha : EV K M ta ρ (iD a)) : EV K M (tCB rAbs (tCons ta tNil)) ρ (iD (if a < 0 then -a else a)) :=
  ex_b1 ha fun H0 H v _ hp _ r Q q => ⟨a, by rw [Tp.int_inv r], q _ H _ rfl (Le.refl H) hp (Tp.int _)⟩
def rInt1 : List V → Hp → VK → Prop := fun xs H Q => (∃ i, xs = [.int i] ∧ Q (.int i) H) ∨ ∃ k, xs = [.bl k] ∧ Q (.int (if k then 1 else 0)) H
theorem ev_int1 {a : Int} (ha : EV K M ta ρ (iD a)) : EV K M (tCB rInt1 (tCons ta tNil)) ρ (iD a) :=
  ex_b1 ha fun H0 H v _ hp _ r Q q => .inl ⟨a, by rw [Tp.int_inv r], q _ H _ rfl (Le.refl H) hp (Tp.int _)⟩
theorem ev_b2 {r : List V → Hp → VK → Prop} {a b : TD} {z : Dt} (ha : EV K M ta ρ (.p a)) (hb : EV K M tb ρ (.p b))
    (hr : ∀ H v u, Pool M H → Tp K H v a → Tp K H u b → ∀ Q : VK, (∀ w H', Le M H H' → Pool M H' → Rp K M H H' w z → Q w H') → r [v, u] H Q) : EV K M (tCB r (tCons ta (tCons tb tNil))) ρ z := fun B G H σ I Q q =>
  ha B G H σ I _ fun v H1 x ex e1 hp1 r1 => by
    subst ex
    refine hb B G H1 σ (I.step e1 hp1) _ fun u H2 y ey e2 hp2 r2 => ?_
    subst ey
    exact hr H2 v u hp2 (Tp.le hp1 e2 r1) r2 Q fun w H3 e3 hp3 r3 => q w H3 z rfl ((e1.trans e2).trans e3) hp3 (r3.back hp2 (e1.trans e2))
def rMax2 : List V → Hp → VK → Prop := fun xs H Q => ∃ i j, xs = [.int i, .int j] ∧ Q (.int (if j > i then j else i)) H
def rMin2 : List V → Hp → VK → Prop := fun xs H Q => ∃ i j, xs = [.int i, .int j] ∧ Q (.int (if j < i then j else i)) H
theorem ev_max2 {a b : Int} (ha : EV K M ta ρ (iD a)) (hb : EV K M tb ρ (iD b)) : EV K M (tCB rMax2 (tCons ta (tCons tb tNil))) ρ (iD (max a b)) :=
  ev_b2 ha hb fun H v u hp h1 h2 Q q => ⟨a, b, by rw [h1.int_inv, h2.int_inv], by
    have e : (if b > a then b else a) = max a b := by split <;> omega
    rw [e]; exact q _ H (Le.refl H) hp (Tp.int _)⟩
theorem ev_min2 {a b : Int} (ha : EV K M ta ρ (iD a)) (hb : EV K M tb ρ (iD b)) : EV K M (tCB rMin2 (tCons ta (tCons tb tNil))) ρ (iD (min a b)) :=
  ev_b2 ha hb fun H v u hp h1 h2 Q q => ⟨a, b, by rw [h1.int_inv, h2.int_inv], by
    have e : (if b < a then b else a) = min a b := by split <;> omega
    rw [e]; exact q _ H (Le.refl H) hp (Tp.int _)⟩
theorem ev_sum {ns : List Int} (ha : EV K M ta ρ (.f (ns.map TD.int))) : EV K M (tCB (rSum K) (tCons ta tNil)) ρ (iD ns.sum) :=
  ex_b1 ha.fl fun H0 H v _ hp _ r Q q => by
    obtain ⟨a, xs, rfl, hs, hx, _⟩ := r
    exact ⟨a, ns, rfl, by rw [← hx.ints]; exact hs, q _ H _ rfl (Le.refl H) hp (Tp.int _)⟩
theorem ev_all {bs : List Bool} (ha : EV K M ta ρ (.f (bs.map TD.bl))) : EV K M (tCB (rAll K) (tCons ta tNil)) ρ (bD (bs.all id)) :=
  ex_b1 ha.fl fun H0 H v _ hp _ r Q q => by
    obtain ⟨a, xs, rfl, hs, hx, _⟩ := r
    exact ⟨a, bs, rfl, by rw [← hx.bls]; exact hs, q _ H _ rfl (Le.refl H) hp (Tp.bl _)⟩
theorem ev_any {bs : List Bool} (ha : EV K M ta ρ (.f (bs.map TD.bl))) : EV K M (tCB (rAny K) (tCons ta tNil)) ρ (bD (bs.any id)) :=
  ex_b1 ha.fl fun H0 H v _ hp _ r Q q => by
    obtain ⟨a, xs, rfl, hs, hx, _⟩ := r
    exact ⟨a, bs, rfl, by rw [← hx.bls]; exact hs, q _ H _ rfl (Le.refl H) hp (Tp.bl _)⟩
def rTupOf (K : PySem.W.Frag) : List V → Hp → VK → Prop := fun xs H Q => ∃ p ys, xs = [.ref p] ∧ ((SqL K H p ys ∧ ∀ l, H l = none → Q (.ref l) (upd H l (.tup ys))) ∨ (SqT K H p ys ∧ Q (.ref p) H))
theorem ex_tupOf {P : List TD → Prop} (ha : EX K M ta ρ (fun x => ∃ ds, (x = .l ds ∨ x = .f ds) ∧ P ds)) : EX K M (tCB (rTupOf K) (tCons ta tNil)) ρ (fun x => ∃ ds, x = .p (.tup ds) ∧ P ds) := fun B G H σ I Q q =>
  ha B G H σ I _ fun v H1 x ⟨ds, ex, pd⟩ e1 hp1 r1 => by
    have r2 : ∃ a xs, v = .ref a ∧ SqL K H1 a xs ∧ TpAll K H1 xs ds := by
      rcases ex with ex | ex
      · subst ex
        obtain ⟨a, xs, h1, h2, h3, _⟩ := r1
        exact ⟨a, xs, h1, h2, h3⟩
      · subst ex
        obtain ⟨a, xs, h1, h2, h3, _⟩ := r1
        exact ⟨a, xs, h1, SqL.of h2, h3⟩
    obtain ⟨a, xs, rfl, hs, hx⟩ := r2
    exact ⟨a, xs, rfl, .inl ⟨hs, fun l hl => q _ _ _ ⟨ds, rfl, pd⟩ (e1.trans (Le.new hl)) (hp1.new hl) (Tp.tup (SqT.of upd_same) (hx.le hp1 (Le.new hl)))⟩⟩
theorem ev_tupF {ds : List TD} (ha : EV K M ta ρ (.f ds)) : EV K M (tCB (rTupOf K) (tCons ta tNil)) ρ (.p (.tup ds)) :=
  (ex_tupOf (P := fun x => x = ds) (ha.mono fun x e => ⟨ds, .inr e, rfl⟩)).mono fun x ⟨y, e1, e2⟩ => by rw [e1, e2]
theorem ev_tupL {ds : List TD} (ha : EV K M ta ρ (.l ds)) : EV K M (tCB (rTupOf K) (tCons ta tNil)) ρ (.p (.tup ds)) :=
  (ex_tupOf (P := fun x => x = ds) (ha.mono fun x e => ⟨ds, .inl e, rfl⟩)).mono fun x ⟨y, e1, e2⟩ => by rw [e1, e2]
def rListS (K : PySem.W.Frag) : List V → Hp → VK → Prop := fun xs H Q => ∃ p ys, xs = [.ref p] ∧ (SqL K H p ys ∨ SqT K H p ys) ∧ ∀ l, H l = none → Q (.ref l) (upd H l (.lst ys))
theorem ev_listL {ds : List TD} (ha : EV K M ta ρ (.l ds)) : EV K M (tCB (rListS K) (tCons ta tNil)) ρ (.f ds) :=
  ex_b1 ha fun H0 H v _ hp _ r Q q => by
    obtain ⟨a, xs, rfl, hs, hx, _⟩ := r
    exact ⟨a, xs, rfl, .inl hs, fun l hl => q _ _ _ rfl (Le.new hl) (hp.new hl) ⟨l, xs, rfl, upd_same, hx.le hp (Le.new hl), hl⟩⟩
theorem ev_listT {ds : List TD} (ha : EV K M ta ρ (.p (.tup ds))) : EV K M (tCB (rListS K) (tCons ta tNil)) ρ (.f ds) :=
  ex_b1 ha fun H0 H v _ hp _ r Q q => by
    obtain ⟨a, xs, rfl, hs, hx⟩ := Tp.tup_inv r
    exact ⟨a, xs, rfl, .inr hs, fun l hl => q _ _ _ rfl (Le.new hl) (hp.new hl) ⟨l, xs, rfl, upd_same, hx.le hp (Le.new hl), hl⟩⟩
/-- isinstance of data -/
def tyTD : TD → String
  | .non => "NoneType"
  | .bl _ => "bool"
  | .int _ => "int"
  | .tup _ => "tuple"
theorem Tp.tyX {H : Hp} {v : V} {d : TD} (h : Tp K H v d) : TyX K H v (.type (tyTD d)) := by
  cases h with
  | non => exact .base .non
  | bl b => exact .base (.bl b)
  | int i => exact .base (.int i)
  | tup hs _ =>
    rcases hs with (h | ⟨o, h⟩) | ⟨o, its, n, h1, h2, _⟩
    · exact .base (.tup h)
    · exact .fTuple h
    · exact .kTuple h1 h2
theorem ev_isi {d : TD} {n : String} {b : Bool} (ha : EV K M ta ρ (.p d)) (hk : kitB (tyTD d) n = some b) : EV K M (tCB (rIsi K) (tCons ta (tCons (tC (.ty n)) tNil))) ρ (bD b) := fun B G H σ I Q q =>
  ha B G H σ I _ fun v H1 x ex e1 hp1 r1 => by
    subst ex
    exact ⟨v, .ty n, .type (tyTD d), .type n, b, rfl, .ty n, Tp.tyX r1, kit_ty hk, q _ H1 _ rfl e1 hp1 (Tp.bl _)⟩
/-! ### tests -/
theorem et_test {b : Bool} (h : EV K M te ρ (bD b)) : EVT K M (tTest te) ρ b := fun B G H σ I Q q =>
  h B G H σ I _ fun v H1 x ex e1 hp1 r1 => by
    subst ex
    exact ⟨b, Tp.bl_inv r1, q _ H1 rfl e1 hp1⟩
theorem et_B {b : Bool} (h : EV K M te ρ (bD b)) : EVT K M (tB te) ρ b := et_test h
theorem ext_test {P : Bool → Prop} (h : EX K M te ρ (fun x => ∃ b, x = bD b ∧ P b)) : EXT K M (tTest te) ρ P := fun B G H σ I Q q =>
  h B G H σ I _ fun v H1 x ⟨b, ex, pb⟩ e1 hp1 r1 => by
    subst ex
    exact ⟨b, Tp.bl_inv r1, q _ H1 pb e1 hp1⟩
theorem ext_and {P1 P2 P : Bool → Prop} (h1 : EXT K M tt ρ P1) (h2 : P1 true → EXT K M uu ρ P2) (h : P1 true → ∀ b, P2 b → P b) (hf : P1 false → P false) : EXT K M (tAnd tt uu) ρ P := fun B G H σ I Q q =>
  h1 B G H σ I _ fun b H1 p1 e1 hp1 => by
    cases b with
    | true =>
      rw [if_pos rfl]
      exact h2 p1 B G H1 σ (I.step e1 hp1) Q fun b H2 p2 e2 hp2 => q b H2 (h p1 b p2) (e1.trans e2) hp2
    | false =>
      rw [if_neg Bool.false_ne_true]
      exact q false H1 (hf p1) e1 hp1
theorem ext_or {P1 P2 P : Bool → Prop} (h1 : EXT K M tt ρ P1) (h2 : P1 false → EXT K M uu ρ P2) (h : P1 false → ∀ b, P2 b → P b) (hf : P1 true → P true) : EXT K M (tOr tt uu) ρ P := fun B G H σ I Q q =>
  h1 B G H σ I _ fun b H1 p1 e1 hp1 => by
    cases b with
    | true =>
      rw [if_pos rfl]
      exact q true H1 (hf p1) e1 hp1
    | false =>
      rw [if_neg Bool.false_ne_true]
      exact h2 p1 B G H1 σ (I.step e1 hp1) Q fun b H2 p2 e2 hp2 => q b H2 (h p1 b p2) (e1.trans e2) hp2
theorem et_and {a b : Bool} (h1 : EVT K M tt ρ a) (h2 : a = true → EVT K M uu ρ b) : EVT K M (tAnd tt uu) ρ (a && b) :=
  ext_and h1 (P2 := fun c => c = b) (fun e => h2 e.symm) (fun e c ec => by rw [← e, ec]; rfl) (fun e => by rw [← e]; rfl)
theorem et_or {a b : Bool} (h1 : EVT K M tt ρ a) (h2 : a = false → EVT K M uu ρ b) : EVT K M (tOr tt uu) ρ (a || b) :=
  ext_or h1 (P2 := fun c => c = b) (fun e => h2 e.symm) (fun e c ec => by rw [← e, ec]; rfl) (fun e => by rw [← e]; rfl)
theorem et_not {a : Bool} (h1 : EVT K M tt ρ a) : EVT K M (tNot tt) ρ (!a) := fun B G H σ I Q q => h1 B G H σ I _ fun b H1 e e1 hp1 => q (!b) H1 (by rw [e]) e1 hp1
/-- or where the left one decides; where it does not -/
theorem et_orT (h1 : EVT K M tt ρ true) : EVT K M (tOr tt uu) ρ true := ext_or (P2 := fun _ => False) h1 (fun e => nomatch e) (fun e => nomatch e) fun _ => rfl
theorem et_orF {b : Bool} (h1 : EVT K M tt ρ false) (h2 : EVT K M uu ρ b) : EVT K M (tOr tt uu) ρ b := et_or h1 fun _ => h2
theorem et_andT {b : Bool} (h1 : EVT K M tt ρ true) (h2 : EVT K M uu ρ b) : EVT K M (tAnd tt uu) ρ b := et_and h1 fun _ => h2
theorem et_andF (h1 : EVT K M tt ρ false) : EVT K M (tAnd tt uu) ρ false := ext_and (P2 := fun _ => False) h1 (fun e => nomatch e) (fun e => nomatch e) fun _ => rfl
theorem ev_andT {b : Bool} (h1 : EV K M ta ρ (bD true)) (h2 : EV K M tb ρ (bD b)) : EV K M (tAndV ta tb) ρ (bD b) := fun B G H σ I Q q =>
  h1 B G H σ I _ fun v H1 x ex e1 hp1 r1 => by
    subst ex
    refine ⟨true, Tp.bl_inv r1, ?_⟩
    rw [if_pos rfl]
    exact h2 B G H1 σ (I.step e1 hp1) Q fun v H2 x px e2 hp2 r2 => q v H2 x px (e1.trans e2) hp2 (r2.back hp1 e1)
theorem ev_andF (h1 : EV K M ta ρ (bD false)) : EV K M (tAndV ta tb) ρ (bD false) := fun B G H σ I Q q =>
  h1 B G H σ I _ fun v H1 x ex e1 hp1 r1 => by
    subst ex
    refine ⟨false, Tp.bl_inv r1, ?_⟩
    rw [if_neg Bool.false_ne_true]
    exact q _ H1 _ rfl e1 hp1 (Tp.bl _)
theorem ev_and {a b : Bool} (h1 : EV K M ta ρ (bD a)) (h2 : a = true → EV K M tb ρ (bD b)) : EV K M (tAndV ta tb) ρ (bD (a && b)) := by
  cases a with
  | true => exact ev_andT h1 (h2 rfl)
  | false => exact ev_andF h1
theorem ev_or {a b : Bool} (h1 : EV K M ta ρ (bD a)) (h2 : a = false → EV K M tb ρ (bD b)) : EV K M (tOrV ta tb) ρ (bD (a || b)) := fun B G H σ I Q q =>
  h1 B G H σ I _ fun v H1 x ex e1 hp1 r1 => by
    subst ex
    refine ⟨a, Tp.bl_inv r1, ?_⟩
    cases a with
    | true =>
      rw [if_pos rfl]
      exact q _ H1 _ rfl e1 hp1 (Tp.bl _)
    | false =>
      rw [if_neg Bool.false_ne_true]
      exact h2 rfl B G H1 σ (I.step e1 hp1) Q fun v H2 x px e2 hp2 r2 => q v H2 x px (e1.trans e2) hp2 (r2.back hp1 e1)
theorem ev_not {a : Bool} (h1 : EV K M ta ρ (bD a)) : EV K M (tNotV ta) ρ (bD (!a)) := fun B G H σ I Q q =>
  h1 B G H σ I _ fun v H1 x ex e1 hp1 r1 => by
    subst ex
    exact ⟨a, Tp.bl_inv r1, q _ H1 _ rfl e1 hp1 (Tp.bl _)⟩
theorem ex_if {P : Bool → Prop} {R : Dt → Prop} (h : EXT K M tt ρ P) (h1 : P true → EX K M ta ρ R) (h2 : P false → EX K M tb ρ R) : EX K M (tIf tt ta tb) ρ R := fun B G H σ I Q q =>
  h B G H σ I _ fun b H1 p e1 hp1 => by
    cases b with
    | true =>
      rw [if_pos rfl]
      exact h1 p B G H1 σ (I.step e1 hp1) Q fun v H2 x px e2 hp2 r2 => q v H2 x px (e1.trans e2) hp2 (r2.back hp1 e1)
    | false =>
      rw [if_neg Bool.false_ne_true]
      exact h2 p B G H1 σ (I.step e1 hp1) Q fun v H2 x px e2 hp2 r2 => q v H2 x px (e1.trans e2) hp2 (r2.back hp1 e1)
theorem ev_if {b : Bool} {x : Dt} (h : EVT K M tt ρ b) (h1 : b = true → EV K M ta ρ x) (h2 : b = false → EV K M tb ρ x) : EV K M (tIf tt ta tb) ρ x := ex_if h (fun e => h1 e.symm) (fun e => h2 e.symm)
/-- a < b < c -/
theorem ev_chain {r r' : R2} {a b c : TD} {x y : Bool} (ha : EV K M ta ρ (.p a)) (hb : EV K M tb ρ (.p b)) (hc : EV K M tc ρ (.p c))
    (h1 : ∀ H v u, Pool M H → Tp K H v a → Tp K H u b → ∀ Q : VK, (∀ w H', Le M H H' → Pool M H' → Tp K H' w (.bl x) → Q w H') → r v u H Q)
    (h2 : ∀ H v u, Pool M H → Tp K H v b → Tp K H u c → ∀ Q : VK, (∀ w H', Le M H H' → Pool M H' → Tp K H' w (.bl y) → Q w H') → r' v u H Q) : EV K M (tChain r r' ta tb tc) ρ (bD (x && y)) := fun B G H σ I Q q =>
  ha B G H σ I _ fun v H1 x1 ex e1 hp1 r1 => by
    subst ex
    refine hb B G H1 σ (I.step e1 hp1) _ fun u H2 y1 ey e2 hp2 r2 => ?_
    subst ey
    refine h1 H2 v u hp2 (Tp.le hp1 e2 r1) r2 _ fun w H3 e3 hp3 r3 => ⟨x, Tp.bl_inv r3, ?_⟩
    cases x with
    | true =>
      rw [if_pos rfl]
      refine hc B G H3 σ ((I.step (e1.trans e2) hp2).step e3 hp3) _ fun z H4 z1 ez e4 hp4 r4 => ?_
      subst ez
      exact h2 H4 u z hp4 (Tp.le hp2 (e3.trans e4) r2) r4 Q fun w' H5 e5 hp5 r5 => q w' H5 _ rfl ((((e1.trans e2).trans e3).trans e4).trans e5) hp5 r5
    | false =>
      rw [if_neg Bool.false_ne_true]
      exact q (.bl false) H3 _ rfl ((e1.trans e2).trans e3) hp3 (Tp.bl false)
theorem rI_B {g : Int → Int → Bool} {a b : Int} : ∀ H v u, Pool M H → Tp K H v (.int a) → Tp K H u (.int b) → ∀ Q : VK, (∀ w H', Le M H H' → Pool M H' → Tp K H' w (.bl (g a b)) → Q w H') → (rI0 fun i j => .bl (g i j)) v u H Q :=
  fun H v u hp h1 h2 Q q => ⟨a, b, h1.int_inv, h2.int_inv, q _ H (Le.refl H) hp (Tp.bl _)⟩
theorem ev_chainI {g g' : Int → Int → Bool} {a b c : Int} (ha : EV K M ta ρ (iD a)) (hb : EV K M tb ρ (iD b)) (hc : EV K M tc ρ (iD c)) : EV K M (tChain (rI0 fun i j => .bl (g i j)) (rI0 fun i j => .bl (g' i j)) ta tb tc) ρ (bD (g a b && g' b c)) := ev_chain ha hb hc rI_B rI_B
end
end K37
end
section
set_option Elab.async false
set_option linter.all false
set_option maxRecDepth 100000
set_option maxHeartbeats 4000000
/-! KC: the rules for statements, loops, comprehensions. -/
namespace K37
open PySem L2
/-! ### immutable objects -/
def imm : HO → Bool
  | .tup _ => true
  | .frz _ _ => true
  | .ins _ _ _ => true
  | _ => false
def Im (H H' : Hp) : Prop := ∀ b o, imm o = true → H b = some o → H' b = some o
section
variable {K : PySem.W.Frag} {M : PM} {H H' : Hp}
theorem sqT_im (e : Im H H') {a : Addr} {xs : List V} (h : SqT K H a xs) : SqT K H' a xs := by
  rcases h with (h | ⟨o, h⟩) | h
  · exact .inl (.inl (e _ _ rfl h))
  · exact .inl (.inr ⟨o, e _ _ rfl h⟩)
  · exact .inr h
mutual
theorem Tp.im (e : Im H H') : ∀ {d : TD} {v : V}, Tp K H v d → Tp K H' v d
  | .non, _, h => by cases h; exact .non
  | .bl b, _, h => by cases h; exact .bl b
  | .int i, _, h => by cases h; exact .int i
  | .tup ds, _, h => by
    cases h with
    | tup hs ha => exact .tup (sqT_im e hs) (TpAll.im e ha)
theorem TpAll.im (e : Im H H') : ∀ {ds : List TD} {vs : List V}, TpAll K H vs ds → TpAll K H' vs ds
  | [], _, h => by cases h; exact .nil
  | d :: ds, _, h => by
    cases h with
    | cons h1 h2 => exact .cons (Tp.im e h1) (TpAll.im e h2)
end
/-- the guard G and all that is immutable in H -/
def Gd (H G : Hp) : Hp := fun b => match H b with
  | some (.tup xs) => some (.tup xs)
  | some (.frz o u) => some (.frz o u)
  | some (.ins C dx fs) => some (.ins C dx fs)
  | _ => G b
theorem Gd.imm {G : Hp} {b : Addr} {o : HO} (i : K37.imm o = true) (h : H b = some o) : Gd H G b = some o := by
  unfold Gd
  rw [h]
  cases o <;> first | rfl | cases i
theorem Gd.of {G : Hp} {b : Addr} {o : HO} (h : Gd H G b = some o) : (K37.imm o = true ∧ H b = some o) ∨ (G b = some o ∧ ∀ u, H b = some u → K37.imm u = false) := by
  unfold Gd at h
  cases e : H b with
  | none => rw [e] at h; exact .inr ⟨h, fun u z => nomatch z⟩
  | some u =>
    rw [e] at h
    cases u <;> first | (exact .inr ⟨h, fun u z => by cases z; rfl⟩) | (cases h; exact .inl ⟨rfl, rfl⟩)
theorem Gd.none {G : Hp} {b : Addr} {xs : List V} (h : H b = some (.lst xs)) (g : G b = Option.none) : Gd H G b = Option.none := by
  unfold Gd
  rw [h]
  exact g
theorem Gd.sub {G : Hp} (k : ∀ a o, G a = some o → H a = some o ∧ ¬ MA M a) : ∀ a o, G a = some o → Gd H G a = some o := fun a o h => by
  have e := (k a o h).1
  cases i : K37.imm o with
  | true => exact Gd.imm i e
  | false =>
    unfold Gd
    rw [e]
    cases o <;> first | exact h | cases i
variable {B G : Hp} {σ : L2.St} {ρ : Ev0}
theorem En.guard (I : En K M B G H σ ρ) : En K M B (Gd H G) H σ ρ :=
  ⟨I.len, I.pool, I.kB, fun a o h => by
    rcases Gd.of h with ⟨i, e⟩ | ⟨e, _⟩
    · refine ⟨e, fun m => ?_⟩
      obtain ⟨xs, z⟩ := I.pool.lst m
      rw [e] at z; cases z; cases i
    · exact I.kG a o e, fun i x h => by
    obtain ⟨v, h1, h2⟩ := I.sl i x h
    refine ⟨v, h1, ?_⟩
    cases x with
    | p d => exact h2
    | l ds => exact h2
    | f _ => exact h2
    | m q ds =>
      obtain ⟨vs, g1, g2, g3, g4, g5, g6⟩ := h2
      exact ⟨vs, g1, g2, g3, g4, Gd.none g2 g5, g6⟩
    | o fs => exact h2
    | pool => exact h2
    | fix u => exact h2, I.ds⟩
theorem En.im {H2 : Hp} {σ2 : L2.St} {ρ2 : Ev0} (J : En K M B (Gd H G) H2 σ2 ρ2) : Im H H2 := fun b o i h => (J.kG b o (Gd.imm i h)).1
theorem En.unguard {G' : Hp} (I : En K M B G' H σ ρ) (k : ∀ a o, G a = some o → G' a = some o) : En K M B G H σ ρ :=
  ⟨I.len, I.pool, I.kB, fun a o h => I.kG a o (k a o h), fun i x h => by
    obtain ⟨v, h1, h2⟩ := I.sl i x h
    refine ⟨v, h1, ?_⟩
    cases x with
    | p d => exact h2
    | l ds => exact h2
    | f _ => exact h2
    | m q ds =>
      obtain ⟨vs, g1, g2, g3, g4, g5, g6⟩ := h2
      refine ⟨vs, g1, g2, g3, g4, ?_, g6⟩
      cases e : G q with
      | none => rfl
      | some o => rw [k q o e] at g5; cases g5
    | o fs => exact h2
    | pool => exact h2
    | fix u => exact h2, I.ds⟩
/-- a new list is guarded -/
def Gl1 (G : Hp) (a : Addr) (vs : List V) : Hp := fun b => if b = a then some (.lst vs) else G b
theorem En.guard1 {a : Addr} {vs : List V} (I : En K M B G H σ ρ) (hn : ∀ (i : Nat) (q : Addr) (ds : List TD), ρ[i]? = some (some (.m q ds)) → q ≠ a) (nm : ¬ MA M a) (h : H a = some (.lst vs)) : En K M B (Gl1 G a vs) H σ ρ :=
  ⟨I.len, I.pool, I.kB, fun b o z => by
    unfold Gl1 at z
    split at z
    · rename_i e
      cases z
      rw [e]
      exact ⟨h, nm⟩
    · exact I.kG b o z, fun i x hx => by
    obtain ⟨v, h1, h2⟩ := I.sl i x hx
    refine ⟨v, h1, ?_⟩
    cases x with
    | p d => exact h2
    | l ds => exact h2
    | f _ => exact h2
    | m q ds =>
      obtain ⟨vs, g1, g2, g3, g4, g5, g6⟩ := h2
      refine ⟨vs, g1, g2, g3, g4, ?_, g6⟩
      unfold Gl1
      rw [if_neg (hn i q ds hx)]
      exact g5
    | o fs => exact h2
    | pool => exact h2
    | fix u => exact h2, I.ds⟩
theorem En.freshNe (I : En K M B G H σ ρ) {a : Addr} (h : H a = none) : ∀ (i : Nat) (q : Addr) (ds : List TD), ρ[i]? = some (some (.m q ds)) → q ≠ a := fun i q ds hx e => by
  obtain ⟨v0, _, vs0, _, z2, _⟩ := I.sl i _ hx
  rw [e, h] at z2
  cases z2
theorem En.freshG (I : En K M B G H σ ρ) {a : Addr} (h : H a = none) : G a = none := by
  cases g : G a with
  | none => rfl
  | some o => rw [(I.kG a o g).1] at h; cases h
theorem Gl1.sub {a : Addr} {vs : List V} (I : G a = none) : ∀ b o, G b = some o → Gl1 G a vs b = some o := fun b o h => by
  unfold Gl1
  split
  · rename_i e
    rw [e, I] at h
    cases h
  · exact h
end

section
variable {K : PySem.W.Frag} {M : PM} {ρ : Ev0} {ta tb tc te tl : TE} {tt : TT} {tr : TA} {t u : TS} {Po : Res → Prop} {g : TG}
/-! ### statements -/
theorem SX.mono {P P' : Res → Prop} (h : SX K M t ρ P) (i : ∀ o, P o → P' o) : SX K M t ρ P' := fun B G H σ I D q => h B G H σ I D fun o p => q o (i o p)
theorem sx_seq (h : SX K M t ρ (thenS u K M Po)) : SX K M (tSeq t u) ρ Po := fun B G H σ I D q =>
  h B G H σ I { D with nx := u D } fun o p => by
    cases o with
    | nx ρ' => exact fun σ' H' I' => (show SX K M u ρ' Po from p) B G H' σ' I' D q
    | bk ρ' => exact q (.bk ρ') p
    | ct ρ' => exact q (.ct ρ') p
    | rt x => exact q (.rt x) p
theorem sx_next (h : Po (.nx ρ)) : SX K M tNext ρ Po := fun B G H σ I D q => q (.nx ρ) h σ H I
theorem sx_setP {i : Nat} {P : TD → Prop} (h : EX K M te ρ (fun x => ∃ d, x = .p d ∧ P d)) (k : ∀ d, P d → Po (.nx (ρ.set i (some (.p d))))) : SX K M (tAsg te (gName i)) ρ Po := fun B G H σ I D q =>
  h B G H σ I _ fun v H1 x ⟨d, ex, p⟩ e1 hp1 r1 => by
    subst ex
    exact q _ (k d p) _ H1 ((I.step e1 hp1).set (x := .p d) r1 trivial)
theorem sx_set {i : Nat} {d : TD} (h : EV K M te ρ (.p d)) (k : Po (.nx (ρ.set i (some (.p d))))) : SX K M (tAsg te (gName i)) ρ Po := sx_setP (P := fun y => y = d) (h.mono fun x e => ⟨d, e, rfl⟩) fun y e => by rw [e]; exact k
theorem sx_setO {i : Nat} {fs : List (Str × TD)} (h : EV K M te ρ (.o fs)) (k : Po (.nx (ρ.set i (some (.o fs))))) : SX K M (tAsg te (gName i)) ρ Po := fun B G H σ I D q =>
  h B G H σ I _ fun v H1 x ex e1 hp1 r1 => by
    subst ex
    exact q _ k _ H1 ((I.step e1 hp1).set (x := .o fs) r1 trivial)
theorem sx_setPool {i : Nat} (h : EV K M te ρ .pool) (k : Po (.nx (ρ.set i (some .pool)))) : SX K M (tAsg te (gName i)) ρ Po := fun B G H σ I D q =>
  h B G H σ I _ fun v H1 x ex e1 hp1 r1 => by
    subst ex
    exact q _ k _ H1 ((I.step e1 hp1).set (x := .pool) r1 trivial)
theorem sx_setF {i : Nat} {P : List TD → Prop} (h : EX K M te ρ (fun x => ∃ ds, x = .f ds ∧ P ds)) (k : ∀ q ds, P ds → Po (.nx (ρ.set i (some (.m q ds))))) : SX K M (tAsg te (gName i)) ρ Po := fun B G H σ I D q =>
  h B G H σ I _ fun v H1 x ⟨ds, ex, p⟩ e1 hp1 r1 => by
    subst ex
    obtain ⟨a, vs, rfl, g2, g3, g4⟩ := r1
    exact q _ (k a ds p) _ H1 (I.setF e1 hp1 g4 g2 g3)
theorem sx_setf {i : Nat} {ds : List TD} (h : EV K M te ρ (.f ds)) (k : ∀ q, Po (.nx (ρ.set i (some (.m q ds))))) : SX K M (tAsg te (gName i)) ρ Po := sx_setF (P := fun y => y = ds) (h.mono fun x e => ⟨ds, e, rfl⟩) fun q y e => by rw [e]; exact k q
theorem sx_ret {R : Dt → Prop} (h : EX K M te ρ R) (k : ∀ x, R x → Po (.rt x)) : SX K M (tRet te) ρ Po := fun B G H σ I D q =>
  h B G H σ I _ fun v H1 x px e1 hp1 r1 => q _ (k x px) v H1 (I.kB.trans e1) hp1 (r1.back I.pool I.kB)
theorem sx_retV {x : Dt} (h : EV K M te ρ x) (k : Po (.rt x)) : SX K M (tRet te) ρ Po := sx_ret h fun y e => by rw [e]; exact k
theorem sx_retM {i : Nat} {a : Addr} {ds : List TD} (h : ρ[i]? = some (some (.m a ds))) (k : Po (.rt (.f ds))) : SX K M (tRet (tVar i)) ρ Po := fun B G H σ I D q => by
  obtain ⟨v, hv, vs, rfl, h2, h3, h4, _, h5⟩ := I.sl i _ h
  exact ⟨_, hv, q _ k _ H I.kB I.pool ⟨a, vs, rfl, h2, h3, h4⟩⟩
theorem sx_if {P : Bool → Prop} (h : EXT K M tt ρ P) (h1 : P true → SX K M t ρ Po) (h2 : P false → SX K M u ρ Po) : SX K M (tIfS tt t u) ρ Po := fun B G H σ I D q =>
  h B G H σ I _ fun b H1 p e1 hp1 => by
    cases b with
    | true =>
      rw [if_pos rfl]
      exact h1 p B G H1 σ (I.step e1 hp1) D q
    | false =>
      rw [if_neg Bool.false_ne_true]
      exact h2 p B G H1 σ (I.step e1 hp1) D q
theorem sx_ifB {b : Bool} (h : EVT K M tt ρ b) (h1 : b = true → SX K M t ρ Po) (h2 : b = false → SX K M u ρ Po) : SX K M (tIfS tt t u) ρ Po := sx_if h (fun e => h1 e.symm) (fun e => h2 e.symm)
theorem sx_ifF (h : EVT K M tt ρ false) (h2 : SX K M u ρ Po) : SX K M (tIfS tt t u) ρ Po := sx_if h (fun e => nomatch e) (fun _ => h2)
theorem sx_ifT (h : EVT K M tt ρ true) (h2 : SX K M t ρ Po) : SX K M (tIfS tt t u) ρ Po := sx_if h (fun _ => h2) (fun e => nomatch e)
theorem sx_drop (h : EX K M te ρ (fun _ => True)) (k : Po (.nx ρ)) : SX K M (tDrop te) ρ Po := fun B G H σ I D q =>
  h B G H σ I _ fun v H1 x _ e1 hp1 r1 => q _ k σ H1 (I.step e1 hp1)
theorem sz_lt {n : Nat} (h : n ≤ 1000) : n < sizeLine := Nat.lt_of_le_of_lt h (by decide)
/-- xs.append(e) -/
theorem sx_appendP {i : Nat} {a : Addr} {ds : List TD} {P : TD → Prop} (hi : ρ[i]? = some (some (.m a ds))) (h : EX K M te ρ (fun x => ∃ d, x = .p d ∧ P d)) (hz : ds.length ≤ 1000) (k : ∀ d, P d → Po (.nx (ρ.set i (some (.m a (ds ++ [d])))))) :
    SX K M (tDrop (tBM K "list" rAppend (tVar i) (tCons te tNil))) ρ Po := fun B G H σ I D q => by
  obtain ⟨v, hv, vs, rfl, h2, h3, h4, _, h5⟩ := I.sl i _ hi
  refine ⟨_, hv, .inl ⟨rfl, vs, SqL.of h2⟩, h B G H σ I _ fun w H1 x ⟨d, ex, p⟩ e1 hp1 r1 => ?_⟩
  subst ex
  have J := I.step e1 hp1
  have h2' := e1 _ _ h2 h5
  refine ⟨a, vs, w, rfl, rfl, h2', by rw [h3.length]; exact sz_lt hz, ?_⟩
  exact q _ (k d p) σ _ (J.mut hi (TpAll.app (h3.le I.pool e1) (.cons r1 .nil)))
theorem sx_append {i : Nat} {a : Addr} {ds : List TD} {d : TD} (hi : ρ[i]? = some (some (.m a ds))) (h : EV K M te ρ (.p d)) (hz : ds.length ≤ 1000) (k : Po (.nx (ρ.set i (some (.m a (ds ++ [d])))))) :
    SX K M (tDrop (tBM K "list" rAppend (tVar i) (tCons te tNil))) ρ Po := sx_appendP (P := fun y => y = d) hi (h.mono fun x e => ⟨d, e, rfl⟩) hz fun y e => by rw [e]; exact k
/-- xs[j] = e -/
theorem ixN_nat {n j : Nat} (hj : j < n) : ixN n (j : Int) = some j := by
  unfold ixN
  rw [if_pos (by omega), if_pos (by omega)]
  simp
theorem sx_setI {i : Nat} {a : Addr} {ds : List TD} {P : TD → Prop} {P2 : Int → Prop} (hi : ρ[i]? = some (some (.m a ds))) (h : EX K M te ρ (fun x => ∃ d, x = .p d ∧ P d)) (hb : EX K M tb ρ (fun x => ∃ k, x = iD k ∧ P2 k))
    (k : ∀ z, P2 z → ∃ j : Nat, z = (j : Int) ∧ j < ds.length ∧ ∀ d, P d → Po (.nx (ρ.set i (some (.m a (ds.set j d)))))) : SX K M (tAsg te (gSub (tVar i) tb rSetL)) ρ Po := fun B G H σ I D q =>
  h B G H σ I _ fun w H1 x ⟨d, ex, p⟩ e1 hp1 r1 => by
    subst ex
    have J := I.step e1 hp1
    obtain ⟨v, hv, vs, rfl, h2, h3, h4, _, h5⟩ := J.sl i _ hi
    refine ⟨_, hv, hb B G H1 σ J _ fun u H2 y ⟨z, ey, pz⟩ e2 hp2 r2 => ?_⟩
    subst ey
    obtain ⟨j, ez, hj, k⟩ := k z pz
    have J2 := J.step e2 hp2
    have hx := h3.le hp1 e2
    refine ⟨a, vs, z, j, rfl, Tp.int_inv r2, e2 _ _ h2 h5, by rw [ez, hx.length]; exact ixN_nat hj, ?_⟩
    exact q _ (k d p) σ _ (J2.mut hi (hx.set j (Tp.le hp1 e2 r1)))
/-- xs.extend(ys), ys new -/
theorem sx_extend {i : Nat} {a : Addr} {ds es : List TD} (hi : ρ[i]? = some (some (.m a ds))) (h : EV K M te ρ (.f es)) (hz : ds.length + es.length ≤ 1000) (k : Po (.nx (ρ.set i (some (.m a (ds ++ es)))))) :
    SX K M (tDrop (tBM K "list" rExtend (tVar i) (tCons te tNil))) ρ Po := fun B G H σ I D q => by
  obtain ⟨v, hv, vs, rfl, h2, h3, h4, _, h5⟩ := I.sl i _ hi
  refine ⟨_, hv, .inl ⟨rfl, vs, SqL.of h2⟩, h B G H σ I _ fun w H1 x ex e1 hp1 r1 => ?_⟩
  subst ex
  obtain ⟨b, ws, rfl, g2, g3, g4⟩ := r1
  have J := I.step e1 hp1
  refine ⟨a, b, vs, ws, rfl, rfl, e1 _ _ h2 h5, g2, by rw [h3.length, g3.length]; exact sz1000 hz, ?_⟩
  exact q _ k σ _ (J.mut hi (TpAll.app (h3.le I.pool e1) g3))
/-- xs[j] op= e -/
abbrev rGetL (K : PySem.W.Frag) : R2 := fun x y H Q => ∃ p xs i v, x = .ref p ∧ y = .int i ∧ SqL K H p xs ∧ 0 ≤ i ∧ atI xs i = some v ∧ Q v H
theorem sx_augI {i : Nat} {a : Addr} {ds : List TD} {f : Int → Int → Int} {j : Nat} {x y z : Int} (hi : ρ[i]? = some (some (.m a ds))) (hb : EV K M tb ρ (iD z)) (ez : z = (j : Int)) (hx : ds[j]? = some (.int x)) (h : EV K M te ρ (iD y))
    (k : Po (.nx (ρ.set i (some (.m a (ds.set j (.int (f x y)))))))) : SX K M (tAugS (tVar i) tb te (rGetL K) (ipI f) rSetL) ρ Po := fun B G H σ I D q => by
  obtain ⟨v, hv, vs, rfl, h2, h3, h4, _, h5⟩ := I.sl i _ hi
  refine ⟨_, hv, hb B G H σ I _ fun w H1 x1 ex e1 hp1 r1 => ?_⟩
  subst ex
  have hx1 := h3.le I.pool e1
  obtain ⟨w1, hw1, rw1⟩ := hx1.get hx
  refine ⟨a, vs, z, w1, rfl, Tp.int_inv r1, SqL.of (e1 _ _ h2 h5), by omega, atI_of ez hw1, h B G H1 σ (I.step e1 hp1) _ fun w2 H2 x2 ey e2 hp2 r2 => ?_⟩
  subst ey
  have hx2 := hx1.le hp1 e2
  have hj : j < ds.length := (List.getElem?_eq_some_iff.mp hx).1
  refine ⟨x, y, rw1.int_inv, Tp.int_inv r2, a, vs, z, j, rfl, Tp.int_inv r1, e2 _ _ (e1 _ _ h2 h5) h5, by rw [ez, hx2.length]; exact ixN_nat hj, ?_⟩
  exact q _ k σ _ (((I.step e1 hp1).step e2 hp2).mut hi (hx2.set j (Tp.int _)))
/-- a, b = x, y -/
def plainD : Dt → Bool
  | .p _ => true
  | .o _ => true
  | _ => false
theorem Rp.sl {B G H0 H : Hp} {v : V} : ∀ {x : Dt}, plainD x = true → Rp K M H0 H v x → Sl K M B G H v x
  | .p _, _, h => h
  | .o _, _, h => h
  | .l _, n, _ => nomatch n
  | .f _, n, _ => nomatch n
  | .m _ _, n, _ => nomatch n
  | .pool, n, _ => nomatch n
  | .fix _, n, _ => nomatch n
theorem plainD.noM {x : Dt} (h : plainD x = true) : noM x := by cases x <;> first | trivial | cases h
theorem sx_par {i j : Nat} {x y : Dt} (ha : EV K M ta ρ x) (hb : EV K M tb ρ y) (k : Po (.nx ((ρ.set i (some x)).set j (some y)))) (hx : plainD x = true := by rfl) (hy : plainD y = true := by rfl) : SX K M (tPar i j (tCons ta (tCons tb tNil))) ρ Po := fun B G H σ I D q =>
  ha B G H σ I _ fun v H1 x1 ex e1 hp1 r1 => by
    subst ex
    refine hb B G H1 σ (I.step e1 hp1) _ fun w H2 y1 ey e2 hp2 r2 => ?_
    subst ey
    refine ⟨v, w, rfl, q _ k _ H2 ?_⟩
    exact (((I.step e1 hp1).step e2 hp2).set ((r1.step hp1 e2 I.pool).sl hx) (plainD.noM hx)).set (r2.sl hy) (plainD.noM hy)
/-! ### targets -/
theorem gx_name {i : Nat} {d : TD} {Pe : Ev0 → Prop} (h : Pe (ρ.set i (some (.p d)))) : GX K M (gName i) d ρ Pe := fun B G H σ v I r Q q => q _ _ _ h (I.set (x := .p d) r trivial) (Le.refl H)
theorem gx_tup2 {g1 g2 : TG} {a b : TD} {Pe : Ev0 → Prop} (h : GX K M g1 a ρ (fun ρ1 => GX K M g2 b ρ1 Pe)) : GX K M (gTup K 2 (gCons g1 (gCons g2 gNil))) (.tup [a, b]) ρ Pe := fun B G H σ v I r Q q => by
  obtain ⟨p, xs, rfl, hs, hx⟩ := r.tup_inv
  cases hx with
  | cons h1 hx =>
    cases hx with
    | cons h2 hx =>
      cases hx
      refine ⟨p, _, rfl, hs, rfl, _, _, rfl, h B G H σ _ I h1 _ fun σ1 H1 ρ1 p1 I1 e1 => ⟨_, _, rfl, p1 B G H1 σ1 _ I1 (h2.le I.pool e1) _ fun σ2 H2 ρ2 p2 I2 e2 => ⟨rfl, q σ2 H2 ρ2 p2 I2 (e1.trans e2)⟩⟩⟩
theorem gx_tup3 {g1 g2 g3 : TG} {a b c : TD} {Pe : Ev0 → Prop} (h : GX K M g1 a ρ (fun ρ1 => GX K M g2 b ρ1 (fun ρ2 => GX K M g3 c ρ2 Pe))) : GX K M (gTup K 3 (gCons g1 (gCons g2 (gCons g3 gNil)))) (.tup [a, b, c]) ρ Pe := fun B G H σ v I r Q q => by
  obtain ⟨p, xs, rfl, hs, hx⟩ := r.tup_inv
  cases hx with
  | cons h1 hx =>
    cases hx with
    | cons h2 hx =>
      cases hx with
      | cons h3 hx =>
        cases hx
        refine ⟨p, _, rfl, hs, rfl, _, _, rfl, h B G H σ _ I h1 _ fun σ1 H1 ρ1 p1 I1 e1 => ⟨_, _, rfl, p1 B G H1 σ1 _ I1 (h2.le I.pool e1) _ fun σ2 H2 ρ2 p2 I2 e2 =>
          ⟨_, _, rfl, p2 B G H2 σ2 _ I2 ((h3.le I.pool e1).le I1.pool e2) _ fun σ3 H3 ρ3 p3 I3 e3 => ⟨rfl, q σ3 H3 ρ3 p3 I3 ((e1.trans e2).trans e3)⟩⟩⟩⟩
theorem sx_asgG {P : TD → Prop} (h : EX K M te ρ (fun x => ∃ d, x = .p d ∧ P d)) (k : ∀ d, P d → GX K M g d ρ (fun ρ' => Po (.nx ρ'))) : SX K M (tAsg te g) ρ Po := fun B G H σ I D q =>
  h B G H σ I _ fun v H1 x ⟨d, ex, p⟩ e1 hp1 r1 => by
    subst ex
    exact k d p B G H1 σ v (I.step e1 hp1) r1 _ fun σ' H' ρ' p' I' _ => q _ p' σ' H' I'
/-- a, b = e | a, b, c = e (names) -/
theorem sx_unp2 {i j : Nat} {a b : TD} (h : EV K M te ρ (.p (.tup [a, b]))) (k : Po (.nx ((ρ.set i (some (.p a))).set j (some (.p b))))) : SX K M (tAsg te (gTup K 2 (gCons (gName i) (gCons (gName j) gNil)))) ρ Po :=
  sx_asgG (P := fun d => d = .tup [a, b]) (h.mono fun x e => ⟨_, e, rfl⟩) fun d e => by rw [e]; exact gx_tup2 (gx_name (gx_name k))
theorem sx_unp3 {i j l : Nat} {a b c : TD} (h : EV K M te ρ (.p (.tup [a, b, c]))) (k : Po (.nx (((ρ.set i (some (.p a))).set j (some (.p b))).set l (some (.p c))))) : SX K M (tAsg te (gTup K 3 (gCons (gName i) (gCons (gName j) (gCons (gName l) gNil))))) ρ Po :=
  sx_asgG (P := fun d => d = .tup [a, b, c]) (h.mono fun x e => ⟨_, e, rfl⟩) fun d e => by rw [e]; exact gx_tup3 (gx_name (gx_name (gx_name k)))
end

/-! ### what is walked -/
structure Src (K : PySem.W.Frag) (M : PM) (J : It) (ds : List TD) (Ok : Hp → Prop) : Prop where
  goes : ∀ i H, i < ds.length → Ok H → J.go i H
  stops : ∀ H, Ok H → J.stop ds.length H
  yields : ∀ (n : Nat) i H x H' d, ds[i]? = some d → Ok H → Pool (M.1, n) H → J.yld i H x H' → Tp K H' x d ∧ Le M H H' ∧ Pool (M.1, n) H'
/-- Side: what the turns keep of the environment -/
def IX (K : PySem.W.Frag) (M : PM) (wi : TI) (ρ : Ev0) (P : List TD → Prop) (Side : List TD → Ev0 → Prop) : Prop := ∀ B G H σ, En K M B G H σ ρ → ∀ R : It → Hp → Prop,
  (∀ J H1 ds G' Ok, P ds → En K M B G' H1 σ ρ → (∀ a o, G a = some o → G' a = some o) → Le M H H1 → Src K M J ds Ok → (∀ (n : Nat) H2 σ2 ρ2, En K (M.1, n) B G' H2 σ2 ρ2 → Side ds ρ2 → Ok H2) → R J H1) → wi σ H R
abbrev noSide : List TD → Ev0 → Prop := fun _ _ => True
section
variable {K : PySem.W.Frag} {M : PM} {ρ : Ev0} {ta tb tc te tl : TE} {tt : TT} {tr : TA} {t u : TS} {Po : Res → Prop} {g : TG} {wi : TI}
theorem wx_tup {P : List TD → Prop} (h : EX K M tl ρ (fun x => ∃ ds, x = .p (.tup ds) ∧ P ds)) : IX K M (iTup K tl) ρ P noSide := fun B G H σ I R q =>
  h B G H σ I _ fun v H1 x ⟨ds, ex, p⟩ e1 hp1 r1 => by
    subst ex
    obtain ⟨a, xs, rfl, hs, hx⟩ := Tp.tup_inv r1
    have J := I.step e1 hp1
    refine ⟨a, rfl, ⟨xs, hs⟩, q _ H1 ds (Gd H1 G) (fun H2 => Im H1 H2) p J.guard (Gd.sub J.kG) e1 ⟨fun i H2 hi ok => ?_, fun H2 ok => ⟨xs, sqT_im ok hs, by rw [hx.length]; exact Nat.le_refl _⟩, fun n i H2 x H3 d hd ok hp y => ?_⟩ fun n2 H2 σ2 ρ2 J2 _ => J2.im⟩
    · have hl : i < xs.length := by rw [hx.length]; exact hi
      exact ⟨xs, xs[i], sqT_im ok hs, List.getElem?_eq_getElem hl⟩
    · obtain ⟨rfl, y⟩ := y
      obtain ⟨w, hw, rw'⟩ := hx.get hd
      have := y xs (sqT_im ok hs)
      rw [hw] at this
      cases this
      exact ⟨rw'.im ok, Le.refl _, hp⟩
theorem wx_tupV {ds : List TD} (h : EV K M tl ρ (.p (.tup ds))) : IX K M (iTup K tl) ρ (fun y => y = ds) noSide := wx_tup (h.mono fun x e => ⟨ds, e, rfl⟩)
theorem wx_listF {P : List TD → Prop} (h : EX K M tl ρ (fun x => ∃ ds, x = .f ds ∧ P ds)) : IX K M (iList K tl) ρ P noSide := fun B G H σ I R q =>
  h B G H σ I _ fun v H1 x ⟨ds, ex, p⟩ e1 hp1 r1 => by
    subst ex
    obtain ⟨a, xs, rfl, hs, hx, hn⟩ := r1
    have J := I.step e1 hp1
    have hG : Gd H1 G a = none := Gd.none hs (I.freshG hn)
    refine ⟨a, rfl, ⟨xs, SqL.of hs⟩, q _ H1 ds (Gl1 (Gd H1 G) a xs) (fun H2 => Im H1 H2 ∧ H2 a = some (.lst xs)) p (J.guard.guard1 (I.freshNe hn) (I.pool.free hn) hs) (fun b o z => Gl1.sub hG b o (Gd.sub J.kG b o z)) e1 ⟨fun i H2 hi ok => ?_, fun H2 ok => ⟨xs, SqL.of ok.2, by rw [hx.length]; exact Nat.le_refl _⟩, fun n i H2 x H3 d hd ok hp y => ?_⟩ fun n2 H2 σ2 ρ2 J2 _ => ?_⟩
    · have hl : i < xs.length := by rw [hx.length]; exact hi
      exact ⟨xs, xs[i], SqL.of ok.2, List.getElem?_eq_getElem hl⟩
    · obtain ⟨rfl, y⟩ := y
      obtain ⟨w, hw, rw'⟩ := hx.get hd
      have := y xs (SqL.of ok.2)
      rw [hw] at this
      cases this
      exact ⟨rw'.im ok.1, Le.refl _, hp⟩
    · refine ⟨fun b o i z => (J2.kG b o (Gl1.sub hG b o (Gd.imm i z))).1, (J2.kG a (.lst xs) ?_).1⟩
      unfold Gl1
      rw [if_pos rfl]
theorem wx_listFV {ds : List TD} (h : EV K M tl ρ (.f ds)) : IX K M (iList K tl) ρ (fun y => y = ds) noSide := wx_listF (h.mono fun x e => ⟨ds, e, rfl⟩)
/-- a list of a slot of the def's own, which the turns leave as it is -/
theorem wx_listM {s : Nat} {a : Addr} {ds : List TD} (h : ρ[s]? = some (some (.m a ds))) : IX K M (iList K (tVar s)) ρ (fun y => y = ds) (fun _ ρ' => ρ'[s]? = some (some (.m a ds))) := fun B G H σ I R q => by
  obtain ⟨v, hv, xs, rfl, hs, hx, _⟩ := I.sl s _ h
  refine ⟨_, hv, a, rfl, ⟨xs, SqL.of hs⟩, q _ H ds G (fun H2 => ∃ ys, H2 a = some (.lst ys) ∧ TpAll K H2 ys ds) rfl I (fun _ _ z => z) (Le.refl H) ⟨fun i H2 hi ok => ?_, fun H2 ok => ?_, fun n i H2 x H3 d hd ok hp y => ?_⟩ fun n2 H2 σ2 ρ2 J2 h2 => ?_⟩
  · obtain ⟨ys, g1, g2⟩ := ok
    have hl : i < ys.length := by rw [g2.length]; exact hi
    exact ⟨ys, ys[i], SqL.of g1, List.getElem?_eq_getElem hl⟩
  · obtain ⟨ys, g1, g2⟩ := ok
    exact ⟨ys, SqL.of g1, by rw [g2.length]; exact Nat.le_refl _⟩
  · obtain ⟨ys, g1, g2⟩ := ok
    obtain ⟨rfl, y⟩ := y
    obtain ⟨w, hw, rw'⟩ := g2.get hd
    have := y ys (SqL.of g1)
    rw [hw] at this
    cases this
    exact ⟨rw', Le.refl _, hp⟩
  · obtain ⟨v2, _, ys, _, g1, g2, _⟩ := J2.sl s _ h2
    exact ⟨ys, g1, g2⟩
/-- a list that was handed in -/
theorem wx_listL {s : Nat} {ds : List TD} (h : ρ[s]? = some (some (.l ds))) : IX K M (iList K (tVar s)) ρ (fun y => y = ds) noSide := fun B G H σ I R q => by
  obtain ⟨v, hv, a, xs, rfl, hs, hx, nm⟩ := I.sl s _ h
  have hsH : SqL K H a xs := sqL_le I.kB nm hs
  refine ⟨_, hv, a, rfl, ⟨xs, hsH⟩, q _ H ds (Gd H G) (fun H2 => Im H H2 ∧ Le M B H2) rfl I.guard (Gd.sub I.kG) (Le.refl H) ⟨fun i H2 hi ok => ?_, fun H2 ok => ⟨xs, sqL_le ok.2 nm hs, by rw [hx.length]; exact Nat.le_refl _⟩, fun n i H2 x H3 d hd ok hp y => ?_⟩ fun n2 H2 σ2 ρ2 J2 _ => ⟨J2.im, J2.kB⟩⟩
  · have hl : i < xs.length := by rw [hx.length]; exact hi
    exact ⟨xs, xs[i], sqL_le ok.2 nm hs, List.getElem?_eq_getElem hl⟩
  · obtain ⟨rfl, y⟩ := y
    obtain ⟨w, hw, rw'⟩ := hx.get hd
    have := y xs (sqL_le ok.2 nm hs)
    rw [hw] at this
    cases this
    exact ⟨rw'.im ok.1, Le.refl _, hp⟩
/-- range(lo, ..) -/
def rng (lo : Int) (n : Nat) : List TD := (List.range n).map fun k => TD.int (lo + (k : Nat))
theorem rng_len (lo : Int) (n : Nat) : (rng lo n).length = n := by unfold rng; rw [List.length_map, List.length_range]
theorem rng_get {lo : Int} {n i : Nat} {d : TD} (h : (rng lo n)[i]? = some d) : i < n ∧ d = .int (lo + (i : Nat)) := by
  unfold rng at h
  rw [List.getElem?_map] at h
  cases e : (List.range n)[i]? with
  | none => rw [e] at h; cases h
  | some k =>
    rw [e] at h
    obtain ⟨h1, h2⟩ := List.getElem?_eq_some_iff.mp e
    rw [List.length_range] at h1
    rw [List.getElem_range] at h2
    rw [← h2] at h
    exact ⟨h1, (Option.some.inj h).symm⟩
theorem src_range {lo : Int} {n : Nat} : Src K M (Itr lo n) (rng lo n) (fun _ => True) :=
  ⟨fun i _ hi _ => by rw [rng_len] at hi; exact hi, fun _ _ => by rw [rng_len]; exact Nat.le_refl _, fun n i H x H' d hd _ hp y => by
    obtain ⟨rfl, rfl⟩ := y
    obtain ⟨_, e⟩ := rng_get hd
    rw [e]
    exact ⟨Tp.int _, Le.refl _, hp⟩⟩
theorem wx_rng1 {P : Int → Prop} (h : EX K M te ρ (fun x => ∃ n, x = iD n ∧ P n)) (hb : ∀ n, P n → -100000 ≤ n ∧ n ≤ 100000) : IX K M (iRng1 (tCons te tNil)) ρ (fun ds => ∃ n, P n ∧ ds = rng 0 n.toNat) noSide := fun B G H σ I R q =>
  h B G H σ I _ fun v H1 x ⟨n, ex, p⟩ e1 hp1 r1 => by
    subst ex
    have hn := hb n p
    exact ⟨n, by rw [Tp.int_inv r1], by omega, by omega, q _ H1 (rng 0 n.toNat) G (fun _ => True) ⟨n, p, rfl⟩ (I.step e1 hp1) (fun _ _ z => z) e1 src_range fun _ _ _ _ _ _ => trivial⟩
theorem wx_rng2 {P1 P2 : Int → Prop} (h1 : EX K M ta ρ (fun x => ∃ n, x = iD n ∧ P1 n)) (h2 : EX K M te ρ (fun x => ∃ n, x = iD n ∧ P2 n)) (hb1 : ∀ n, P1 n → -100000 ≤ n ∧ n ≤ 100000) (hb : ∀ n, P2 n → -100000 ≤ n ∧ n ≤ 100000) :
    IX K M (iRng2 (tCons ta (tCons te tNil))) ρ (fun ds => ∃ m n, P1 m ∧ P2 n ∧ ds = rng m (n - m).toNat) noSide := fun B G H σ I R q =>
  h1 B G H σ I _ fun v H1 x ⟨m, ex, p⟩ e1 hp1 r1 => by
    subst ex
    refine h2 B G H1 σ (I.step e1 hp1) _ fun w H2 y ⟨n, ey, p2⟩ e2 hp2 r2 => ?_
    subst ey
    have hm := hb1 m p
    have hn := hb n p2
    exact ⟨m, n, by rw [Tp.int_inv r1, Tp.int_inv r2], ⟨by omega, by omega, by omega, by omega⟩, q _ H2 (rng m (n - m).toNat) G (fun _ => True) ⟨m, n, p, p2, rfl⟩ ((I.step e1 hp1).step e2 hp2) (fun _ _ z => z) (e1.trans e2) src_range fun _ _ _ _ _ _ => trivial⟩
/-- enumerate -/
def enumD (ds : List TD) : List TD := ds.zipIdx.map fun p => TD.tup [.int (p.2 : Nat), p.1]
theorem enum_len (ds : List TD) : (enumD ds).length = ds.length := by unfold enumD; rw [List.length_map, List.length_zipIdx]
theorem enum_get {ds : List TD} {i : Nat} {d : TD} (h : (enumD ds)[i]? = some d) : ∃ e, ds[i]? = some e ∧ d = .tup [.int (i : Nat), e] := by
  unfold enumD at h
  rw [List.getElem?_map, List.getElem?_zipIdx] at h
  cases e : ds[i]? with
  | none => rw [e] at h; cases h
  | some x =>
    rw [e] at h
    exact ⟨x, rfl, by simpa using (Option.some.inj h).symm⟩
theorem pair_new {H : Hp} {T : Addr} {x y : V} {a b : TD} (hp : Pool M H) (hT : H T = none) (h1 : Tp K H x a) (h2 : Tp K H y b) : Tp K (upd H T (.tup [x, y])) (.ref T) (.tup [a, b]) ∧ Le M H (upd H T (.tup [x, y])) ∧ Pool M (upd H T (.tup [x, y])) :=
  ⟨.tup (SqT.of upd_same) (.cons (h1.le hp (Le.new hT)) (.cons (h2.le hp (Le.new hT)) .nil)), Le.new hT, hp.new hT⟩
theorem wx_enumF {P : List TD → Prop} (h : EX K M tl ρ (fun x => ∃ ds, x = .f ds ∧ P ds)) : IX K M (iEnum K (tCons tl tNil)) ρ (fun es => ∃ ds, P ds ∧ es = enumD ds) noSide := fun B G H σ I R q =>
  h B G H σ I _ fun v H1 x ⟨ds, ex, p⟩ e1 hp1 r1 => by
    subst ex
    obtain ⟨a, xs, rfl, hs, hx, hn⟩ := r1
    have J := I.step e1 hp1
    have hG : Gd H1 G a = none := Gd.none hs (I.freshG hn)
    refine ⟨a, xs, rfl, SqL.of hs, q _ H1 (enumD ds) (Gl1 (Gd H1 G) a xs) (fun H2 => Im H1 H2 ∧ H2 a = some (.lst xs)) ⟨ds, p, rfl⟩ (J.guard.guard1 (I.freshNe hn) (I.pool.free hn) hs) (fun b o z => Gl1.sub hG b o (Gd.sub J.kG b o z)) e1 ⟨fun i H2 hi ok => ?_, fun H2 ok => ⟨xs, SqL.of ok.2, by rw [enum_len, hx.length]; exact Nat.le_refl _⟩, fun n i H2 x H3 d hd ok hp y => ?_⟩ fun n2 H2 σ2 ρ2 J2 _ => ?_⟩
    · rw [enum_len] at hi
      have hl : i < xs.length := by rw [hx.length]; exact hi
      exact ⟨xs, xs[i], SqL.of ok.2, List.getElem?_eq_getElem hl⟩
    · obtain ⟨T, x1, rfl, hT, rfl, y⟩ := y
      obtain ⟨e, he, rfl⟩ := enum_get hd
      obtain ⟨w, hw, rw'⟩ := hx.get he
      have := y xs (SqL.of ok.2)
      rw [hw] at this
      cases this
      exact pair_new hp hT (Tp.int _) (rw'.im ok.1)
    · refine ⟨fun b o i z => (J2.kG b o (Gl1.sub hG b o (Gd.imm i z))).1, (J2.kG a (.lst xs) ?_).1⟩
      unfold Gl1
      rw [if_pos rfl]
theorem wx_enumM {s : Nat} {a : Addr} {ds : List TD} (h : ρ[s]? = some (some (.m a ds))) : IX K M (iEnum K (tCons (tVar s) tNil)) ρ (fun es => es = enumD ds) (fun _ ρ' => ρ'[s]? = some (some (.m a ds))) := fun B G H σ I R q => by
  obtain ⟨v, hv, xs, rfl, hs, hx, _⟩ := I.sl s _ h
  refine ⟨_, hv, a, xs, rfl, SqL.of hs, q _ H (enumD ds) G (fun H2 => ∃ ys, H2 a = some (.lst ys) ∧ TpAll K H2 ys ds) rfl I (fun _ _ z => z) (Le.refl H) ⟨fun i H2 hi ok => ?_, fun H2 ok => ?_, fun n i H2 x H3 d hd ok hp y => ?_⟩ fun n2 H2 σ2 ρ2 J2 h2 => ?_⟩
  · obtain ⟨ys, g1, g2⟩ := ok
    rw [enum_len] at hi
    have hl : i < ys.length := by rw [g2.length]; exact hi
    exact ⟨ys, ys[i], SqL.of g1, List.getElem?_eq_getElem hl⟩
  · obtain ⟨ys, g1, g2⟩ := ok
    exact ⟨ys, SqL.of g1, by rw [enum_len, g2.length]; exact Nat.le_refl _⟩
  · obtain ⟨ys, g1, g2⟩ := ok
    obtain ⟨T, x1, rfl, hT, rfl, y⟩ := y
    obtain ⟨e, he, rfl⟩ := enum_get hd
    obtain ⟨w, hw, rw'⟩ := g2.get he
    have := y ys (SqL.of g1)
    rw [hw] at this
    cases this
    exact pair_new hp hT (Tp.int _) rw'
  · obtain ⟨v2, _, ys, _, g1, g2, _⟩ := J2.sl s _ h2
    exact ⟨ys, g1, g2⟩
/-- zip of two tuples -/
def zipD (xs ys : List TD) : List TD := (xs.zip ys).map fun p => TD.tup [p.1, p.2]
theorem zip_get {xs ys : List TD} {i : Nat} {d : TD} (h : (zipD xs ys)[i]? = some d) : ∃ a b, xs[i]? = some a ∧ ys[i]? = some b ∧ d = .tup [a, b] := by
  unfold zipD at h
  rw [List.getElem?_map] at h
  cases e : (xs.zip ys)[i]? with
  | none => rw [e] at h; cases h
  | some p =>
    rw [e] at h
    obtain ⟨h1, h2⟩ := List.getElem?_zip_eq_some.mp e
    exact ⟨p.1, p.2, h1, h2, (Option.some.inj h).symm⟩
theorem zip_len (xs ys : List TD) : (zipD xs ys).length = min xs.length ys.length := by unfold zipD; rw [List.length_map, List.length_zip]
theorem wx_zipT {ds es : List TD} (h1 : EV K M ta ρ (.p (.tup ds))) (h2 : EV K M tb ρ (.p (.tup es))) : IX K M (RZ.iZipA K (tCons ta (tCons tb tNil))) ρ (fun xs => xs = zipD ds es) noSide := fun B G H σ I R q =>
  h1 B G H σ I _ fun v H1 x ex e1 hp1 r1 => by
    subst ex
    refine h2 B G H1 σ (I.step e1 hp1) _ fun w H2 y ey e2 hp2 r2 => ?_
    subst ey
    obtain ⟨a, xs, rfl, hs, hx⟩ := (Tp.le hp1 e2 r1).tup_inv
    obtain ⟨b, ys, rfl, ht, hy⟩ := Tp.tup_inv r2
    have J := (I.step e1 hp1).step e2 hp2
    refine ⟨a, b, xs, ys, rfl, .inr ⟨hs, ht, q _ H2 (zipD ds es) (Gd H2 G) (fun H3 => Im H2 H3) rfl J.guard (Gd.sub J.kG) (e1.trans e2) ⟨fun i H3 hi ok => ?_, fun H3 ok => ⟨xs, ys, sqT_im ok hs, sqT_im ok ht, ?_⟩, fun n i H3 x H4 d hd ok hp y => ?_⟩ fun n2 H3 σ3 ρ3 J3 _ => J3.im⟩⟩
    · rw [zip_len] at hi
      have hl : i < xs.length := by rw [hx.length]; omega
      have hm : i < ys.length := by rw [hy.length]; omega
      exact ⟨xs, ys, xs[i], ys[i], sqT_im ok hs, sqT_im ok ht, List.getElem?_eq_getElem hl, List.getElem?_eq_getElem hm⟩
    · rw [zip_len, hx.length, hy.length]; omega
    · obtain ⟨T, x1, y1, rfl, hT, rfl, g1, g2⟩ := y
      obtain ⟨a', b', ha, hb, rfl⟩ := zip_get hd
      obtain ⟨w1, hw1, rw1⟩ := hx.get ha
      obtain ⟨w2, hw2, rw2⟩ := hy.get hb
      have z1 := g1 xs (sqT_im ok hs)
      have z2 := g2 ys (sqT_im ok ht)
      rw [hw1] at z1
      rw [hw2] at z2
      cases z1
      cases z2
      exact pair_new hp hT (rw1.im ok) (rw2.im ok)
/-! ### for -/
abbrev loopPo (N : Ev0 → Prop) (Po : Res → Prop) : Res → Prop
  | .nx ρ => N ρ
  | .ct ρ => N ρ
  | .bk ρ => Po (.nx ρ)
  | .rt x => Po (.rt x)
theorem sx_forX {P : List TD → Prop} {Side : List TD → Ev0 → Prop} (hi : IX K M wi ρ P Side) (Inv : List TD → Nat → Ev0 → Prop) (h0 : ∀ ds, P ds → Inv ds 0 ρ) (hside : ∀ ds i ρ', P ds → Inv ds i ρ' → Side ds ρ')
    (hs : ∀ ds i d ρ', P ds → ds[i]? = some d → Inv ds i ρ' → GX K M g d ρ' (fun ρ2 => SX K M t ρ2 (loopPo (Inv ds (i + 1)) Po))) (hd : ∀ ds ρ', P ds → Inv ds ds.length ρ' → Po (.nx ρ')) : SX K M (tFor wi g t) ρ Po := fun B G H σ I D q =>
  hi B G H σ I _ fun J H1 ds G' Ok p I1 sub _ S ok => by
    refine ⟨fun i m σ2 H2 => m = ds.length - i ∧ i ≤ ds.length ∧ ∃ ρ', Inv ds i ρ' ∧ En K M B G' H2 σ2 ρ', ⟨ds.length, by simp, Nat.zero_le _, ρ, h0 ds p, I1⟩, ?_⟩
    rintro i m σ2 H2 ⟨rfl, hle, ρ', inv, I2⟩
    have okH := ok M.2 H2 σ2 ρ' I2 (hside ds i ρ' p inv)
    by_cases hlt : i < ds.length
    · refine .inr ⟨S.goes i H2 hlt okH, fun σ3 H3 => ∃ ρ3, Inv ds (i + 1) ρ3 ∧ En K M B G' H3 σ3 ρ3, fun σ3 H3 ⟨ρ3, inv3, I3⟩ => ⟨ds.length - (i + 1), by omega, rfl, hlt, ρ3, inv3, I3⟩, fun x H3 y => ?_⟩
      obtain ⟨r, e, hp⟩ := S.yields M.2 i H2 x H3 ds[i] (List.getElem?_eq_getElem hlt) okH I2.pool y
      refine hs ds i ds[i] ρ' p (List.getElem?_eq_getElem hlt) inv B G' H3 σ2 x (I2.step e hp) r _ fun σ4 H4 ρ4 s4 I4 _ => ?_
      refine s4 B G' H4 σ4 I4 _ fun o po => ?_
      cases o with
      | nx ρ5 => exact fun σ5 H5 I5 => ⟨ρ5, po, I5⟩
      | ct ρ5 => exact fun σ5 H5 I5 => ⟨ρ5, po, I5⟩
      | bk ρ5 => exact fun σ5 H5 I5 => q (.nx ρ5) po σ5 H5 (I5.unguard sub)
      | rt x => exact q (.rt x) po
    · have e : i = ds.length := by omega
      subst e
      exact .inl ⟨S.stops H2 okH, q (.nx ρ') (hd ds ρ' p inv) σ2 H2 (I2.unguard sub)⟩
/-- the items are told -/
theorem sx_for {ds : List TD} {Side : List TD → Ev0 → Prop} (hi : IX K M wi ρ (fun y => y = ds) Side) (Inv : Nat → Ev0 → Prop) (h0 : Inv 0 ρ) (hside : ∀ i ρ', Inv i ρ' → Side ds ρ')
    (hs : ∀ i d ρ', ds[i]? = some d → Inv i ρ' → GX K M g d ρ' (fun ρ2 => SX K M t ρ2 (loopPo (Inv (i + 1)) Po))) (hd : ∀ ρ', Inv ds.length ρ' → Po (.nx ρ')) : SX K M (tFor wi g t) ρ Po :=
  sx_forX hi (fun _ i ρ' => Inv i ρ') (fun _ _ => h0) (fun xs i ρ' e h => by rw [e]; exact hside i ρ' h) (fun xs i d ρ' e h => by rw [e] at h; exact hs i d ρ' h) (fun xs ρ' e h => by rw [e] at h; exact hd ρ' h)
/-! ### while -/
theorem sx_while (Inv : Nat → Ev0 → Prop) (m0 : Nat) (h0 : Inv m0 ρ) (hs : ∀ m ρ', Inv m ρ' → ∃ P : Bool → Prop, EXT K M tt ρ' P ∧ (P true → SX K M t ρ' (loopPo (fun ρ2 => ∃ m', m' < m ∧ Inv m' ρ2) Po)) ∧ (P false → Po (.nx ρ'))) : SX K M (tWhile tt t) ρ Po := fun B G H σ I D q => by
  refine ⟨fun m σ2 H2 => ∃ ρ', Inv m ρ' ∧ En K M B G H2 σ2 ρ', ⟨m0, ρ, h0, I⟩, ?_⟩
  rintro m σ2 H2 ⟨ρ', inv, I2⟩
  obtain ⟨P, ht, h1, h2⟩ := hs m ρ' inv
  refine ht B G H2 σ2 I2 _ fun b H3 p e3 hp3 => ?_
  have I3 := I2.step e3 hp3
  cases b with
  | true =>
    rw [if_pos rfl]
    refine ⟨fun σ4 H4 => ∃ ρ4, (∃ m', m' < m ∧ Inv m' ρ4) ∧ En K M B G H4 σ4 ρ4, fun σ4 H4 ⟨ρ4, ⟨m', hm, i4⟩, I4⟩ => ⟨m', hm, ρ4, i4, I4⟩, ?_⟩
    refine h1 p B G H3 σ2 I3 _ fun o po => ?_
    cases o with
    | nx ρ5 => exact fun σ5 H5 I5 => ⟨ρ5, po, I5⟩
    | ct ρ5 => exact fun σ5 H5 I5 => ⟨ρ5, po, I5⟩
    | bk ρ5 => exact fun σ5 H5 I5 => q (.nx ρ5) po σ5 H5 I5
    | rt x => exact q (.rt x) po
  | false =>
    rw [if_neg Bool.false_ne_true]
    exact q (.nx ρ') (h2 p) σ2 H3 I3
/-! ### comprehensions -/
theorem En.new {B G H : Hp} {σ : L2.St} {D : Addr} {o : HO} (I : En K M B G H σ ρ) (h : H D = none) : En K M B G (upd H D o) σ ρ := I.step (Le.new h) (I.pool.new h)
/-- a list that no slot holds is changed -/
theorem En.other {B G H : Hp} {σ : L2.St} {D : Addr} {vs ws : List V} (I : En K M B G H σ ρ) (h : H D = some (.lst vs)) (hB : B D = none) (hG : G D = none) (nm : ¬ MA M D) (hn : ∀ (i : Nat) (q : Addr) (ds : List TD), ρ[i]? = some (some (.m q ds)) → q ≠ D) :
    En K M B G (upd H D (.lst ws)) σ ρ := by
  refine ⟨I.len, I.pool.other nm, fun a o z n => ?_, fun a o z => ?_, fun j y hj => ?_, I.ds⟩
  · have ne : a ≠ D := fun e => by rw [e, hB] at z; cases z
    rw [upd_ne ne]
    exact I.kB a o z n
  · have ne : a ≠ D := fun e => by rw [e, hG] at z; cases z
    rw [upd_ne ne]
    exact I.kG a o z
  · obtain ⟨u, h1, h2⟩ := I.sl j y hj
    refine ⟨u, h1, ?_⟩
    cases y with
    | p d => exact Tp.mut h (show Tp K H u d from h2)
    | l ds' =>
      obtain ⟨q', vs', g1, g2, g3, g4⟩ := h2
      exact ⟨q', vs', g1, g2, g3.mut h, g4⟩
    | f _ => exact h2.elim
    | m q' ds' =>
      obtain ⟨vs', g1, g2, g3, g4, g5, g6⟩ := h2
      exact ⟨vs', g1, by rw [upd_ne (hn j q' ds' hj)]; exact g2, g3.mut h, g4, g5, g6⟩
    | o fs => exact Ob.mut h (show Ob K H u fs from h2)
    | pool => exact h2
    | fix u => exact h2
/-- a comprehension's target: from the wiped slots to the block's -/
def LG (K : PySem.W.Frag) (M : PM) (g : TG) (vs : List Nat) (ρ : Ev0) (d : TD) (ρ2 : Ev0) : Prop := ∀ B G H σ v, En K M B G H σ ρ → Tp K H v d → ∀ Q : L2.St → Hp → Prop, (∀ σ2, wipe σ2 vs = wipe σ vs → En K M B G H σ2 ρ2 → Q σ2 H) → g v (wipe σ vs) H Q
theorem wipe1_set (σ : L2.St) (j : Nat) (x : Option V) : wipe ((wipe σ [j]).set j x) [j] = wipe σ [j] := by
  show ((σ.set j none).set j x).set j none = σ.set j none
  rw [List.set_set, List.set_set]
theorem lg_name {j : Nat} {d : TD} : LG K M (gName j) [j] ρ d (ρ.set j (some (.p d))) := fun B G H σ v I r Q q => by
  refine q _ (wipe1_set σ j (some v)) ?_
  show En K M B G H ((σ.set j none).set j (some v)) (ρ.set j (some (.p d)))
  rw [List.set_set]
  exact I.set (x := .p d) r trivial
theorem lg_tup2 {j k : Nat} {a b : TD} (n : j ≠ k := by decide) : LG K M (gTup K 2 (gCons (gName j) (gCons (gName k) gNil))) [j, k] ρ (.tup [a, b]) ((ρ.set j (some (.p a))).set k (some (.p b))) := fun B G H σ v I r Q q => by
  obtain ⟨p, xs, rfl, hs, hx⟩ := r.tup_inv
  cases hx with
  | @cons v1 _ _ _ h1 hx =>
    cases hx with
    | @cons v2 _ _ _ h2 hx =>
      cases hx
      have e1 : ((wipe σ [j, k]).set j (some v1)).set k (some v2) = (σ.set j (some v1)).set k (some v2) := by
        show ((((σ.set k none).set j none).set j (some v1)).set k (some v2)) = _
        rw [List.set_set, List.set_comm _ _ (Ne.symm n), List.set_set]
      refine ⟨p, _, rfl, hs, rfl, v1, _, rfl, v2, _, rfl, rfl, q _ ?_ ?_⟩
      · rw [e1]
        show ((((σ.set j (some v1)).set k (some v2)).set k none).set j none) = ((σ.set k none).set j none)
        rw [List.set_set, List.set_comm _ _ n, List.set_set]
      · rw [e1]
        exact (I.set (x := .p a) h1 trivial).set (x := .p b) h2 trivial
theorem ex_lc {vs : List Nat} {P : List TD → Prop} {Side : List TD → Ev0 → Prop} (hi : IX K M wi ρ P Side) (Inv : List TD → Nat → List TD → Prop) (h0 : ∀ ds, P ds → Inv ds 0 []) (hl : ∀ ds, P ds → ds.length ≤ 1000) (hside : ∀ ds, P ds → Side ds ρ)
    (hs : ∀ ds i d acc, P ds → ds[i]? = some d → Inv ds i acc → ∃ ρ2, LG K M g vs ρ d ρ2 ∧ ∃ Pb : Bool → Prop, EXT K M tt ρ2 Pb ∧ (Pb false → Inv ds (i + 1) acc) ∧ (Pb true → EX K M te ρ2 (fun x => ∃ e, x = .p e ∧ Inv ds (i + 1) (acc ++ [e])))) :
    EX K M (tLc wi g tt te vs) ρ (fun x => ∃ acc, x = .f acc ∧ ∃ ds, P ds ∧ Inv ds ds.length acc ∧ acc.length ≤ ds.length) := fun B G H σ I Q q =>
  hi B G H σ I _ fun J H1 ds G' Ok p I1 sub e1 S ok => fun D hD => by
    have hB : B D = none := I1.kB.back I1.pool hD
    have hG : G' D = none := I1.freshG hD
    have nm : ¬ MA M D := I1.pool.free hD
    have hne := I1.freshNe hD
    refine ⟨fun i m H2 => m = ds.length - i ∧ i ≤ ds.length ∧ ∃ acc ws, Inv ds i acc ∧ acc.length ≤ i ∧ H2 D = some (.lst ws) ∧ TpAll K H2 ws acc ∧ En K M B G' H2 σ ρ ∧ Le M H1 H2,
      ⟨ds.length, by simp, Nat.zero_le _, [], [], h0 ds p, Nat.le_refl _, upd_same, .nil, I1.new hD, Le.new hD⟩, ?_⟩
    rintro i m H2 ⟨rfl, hle, acc, ws, inv, hacc, h2, t2, I2, e2⟩
    have okH := ok M.2 H2 σ ρ I2 (hside ds p)
    by_cases hlt : i < ds.length
    · refine .inr ⟨S.goes i H2 hlt okH, fun H3 => ∃ acc ws, Inv ds (i + 1) acc ∧ acc.length ≤ i + 1 ∧ H3 D = some (.lst ws) ∧ TpAll K H3 ws acc ∧ En K M B G' H3 σ ρ ∧ Le M H1 H3, fun H3 ⟨acc, ws, a1, a2, a3, a4, a5, a6⟩ => ⟨ds.length - (i + 1), by omega, rfl, hlt, acc, ws, a1, a2, a3, a4, a5, a6⟩, fun x H3 y => ?_⟩
      obtain ⟨r, e3, hp3⟩ := S.yields M.2 i H2 x H3 ds[i] (List.getElem?_eq_getElem hlt) okH I2.pool y
      obtain ⟨ρ2, lg, Pb, ht, hf, hT⟩ := hs ds i ds[i] acc p (List.getElem?_eq_getElem hlt) inv
      have I3 := I2.step e3 hp3
      refine lg B G' H3 σ x I3 r _ fun σ2 ew I3b => ⟨ew, ht B G' H3 σ2 I3b _ fun b H4 pb e4 hp4 => ?_⟩
      have hD4 : H4 D = some (.lst ws) := e4 _ _ (e3 _ _ h2 nm) nm
      have t4 : TpAll K H4 ws acc := (t2.le I2.pool e3).le hp3 e4
      have I4 := I3.step e4 hp4
      cases b with
      | false =>
        rw [if_neg Bool.false_ne_true]
        exact ⟨acc, ws, hf pb, Nat.le_succ_of_le hacc, hD4, t4, I4, (e2.trans e3).trans e4⟩
      | true =>
        rw [if_pos rfl]
        refine hT pb B G' H4 σ2 (I3b.step e4 hp4) _ fun v H5 z ⟨e, ez, inv5⟩ e5 hp5 r5 => ?_
        subst ez
        have hD5 : H5 D = some (.lst ws) := e5 _ _ hD4 nm
        have t5 := t4.le hp4 e5
        have hz : ws.length < sizeLine := by
          rw [t5.length]
          have := hl ds p
          exact sz_lt (by omega)
        refine ⟨ws, hD5, hz, acc ++ [e], ws ++ [v], inv5, by rw [List.length_append]; exact Nat.succ_le_succ hacc, upd_same, (t5.app (.cons r5 .nil)).mut hD5, (I4.step e5 hp5).other hD5 hB hG nm hne, fun a o z n => ?_⟩
        have ne : a ≠ D := fun e => by rw [e, hD] at z; cases z
        rw [upd_ne ne]
        exact e5 _ _ (e4 _ _ (e3 _ _ (e2 a o z n) n) n) n
    · have e : i = ds.length := by omega
      subst e
      exact .inl ⟨S.stops H2 okH, q _ H2 _ ⟨acc, rfl, ds, p, inv, hacc⟩ (e1.trans e2) I2.pool ⟨D, ws, rfl, h2, t2, e1.back I1.pool hD⟩⟩
theorem ext_yes : EVT K M tYes ρ true := fun B G H σ I Q q => q true H rfl (Le.refl H) I.pool
/-- [te for x in ..], each item by a function -/
theorem ev_lcMap {α : Type} {xs : List α} {enc h : α → TD} {j : Nat} {Side : List TD → Ev0 → Prop} (hi : IX K M wi ρ (fun y => y = xs.map enc) Side) (hside : Side (xs.map enc) ρ) (hl : xs.length ≤ 1000)
    (he : ∀ x, x ∈ xs → EV K M te (ρ.set j (some (.p (enc x)))) (.p (h x))) : EV K M (tLc wi (gName j) tYes te [j]) ρ (.f (xs.map h)) := by
  refine (ex_lc hi (fun _ i acc => acc = (xs.take i).map h) (fun _ _ => rfl) (fun ds e => by rw [e, List.length_map]; exact hl) (fun ds e => by rw [e]; exact hside) fun ds i d acc e hd ea => ?_).mono fun y hy => ?_
  · rw [e, List.getElem?_map] at hd
    cases hx : xs[i]? with
    | none => rw [hx] at hd; cases hd
    | some x =>
      rw [hx] at hd
      have ed : enc x = d := Option.some.inj hd
      refine ⟨_, lg_name, fun b => b = true, ext_yes, (fun z => nomatch z), fun _ => ?_⟩
      rw [← ed]
      refine (he x (List.mem_of_getElem? hx)).mono fun y ey => ⟨h x, ey, ?_⟩
      rw [ea, List.take_add_one, hx, List.map_append]
      rfl
  · obtain ⟨acc, e1, ds, e2, e3, _⟩ := hy
    rw [e1, e3, e2, List.length_map, List.take_length]
/-- .. with a test -/
theorem ev_lcFM {α : Type} {xs : List α} {enc h : α → TD} {f : α → Bool} {j : Nat} {Side : List TD → Ev0 → Prop} (hi : IX K M wi ρ (fun y => y = xs.map enc) Side) (hside : Side (xs.map enc) ρ) (hl : xs.length ≤ 1000)
    (ht : ∀ x, x ∈ xs → EVT K M tt (ρ.set j (some (.p (enc x)))) (f x)) (he : ∀ x, x ∈ xs → f x = true → EV K M te (ρ.set j (some (.p (enc x)))) (.p (h x))) : EV K M (tLc wi (gName j) tt te [j]) ρ (.f ((xs.filter f).map h)) := by
  refine (ex_lc hi (fun _ i acc => acc = ((xs.take i).filter f).map h) (fun _ _ => rfl) (fun ds e => by rw [e, List.length_map]; exact hl) (fun ds e => by rw [e]; exact hside) fun ds i d acc e hd ea => ?_).mono fun y hy => ?_
  · rw [e, List.getElem?_map] at hd
    cases hx : xs[i]? with
    | none => rw [hx] at hd; cases hd
    | some x =>
      rw [hx] at hd
      have ed : enc x = d := Option.some.inj hd
      refine ⟨_, lg_name, fun b => b = f x, by rw [← ed]; exact ht x (List.mem_of_getElem? hx), fun z => ?_, fun z => ?_⟩
      · rw [ea, List.take_add_one, hx, List.filter_append, List.map_append]
        have : ([x].filter f) = [] := by rw [List.filter_cons, if_neg (by rw [← z]; decide)]; rfl
        show _ = _ ++ List.map h ([x].filter f)
        rw [this]
        simp
      · rw [← ed]
        refine (he x (List.mem_of_getElem? hx) z.symm).mono fun y ey => ⟨h x, ey, ?_⟩
        rw [ea, List.take_add_one, hx, List.filter_append, List.map_append]
        have : ([x].filter f) = [x] := by rw [List.filter_cons, if_pos z.symm]; rfl
        show _ = _ ++ List.map h ([x].filter f)
        rw [this]
        rfl
  · obtain ⟨acc, e1, ds, e2, e3, _⟩ := hy
    rw [e1, e3, e2, List.length_map, List.take_length]
/-- [te for a, b in ..] -/
theorem ev_lcFM2 {α : Type} {xs : List α} {ea eb h : α → TD} {f : α → Bool} {j k : Nat} {Side : List TD → Ev0 → Prop} (hi : IX K M wi ρ (fun y => y = xs.map fun x => TD.tup [ea x, eb x]) Side) (hside : Side (xs.map fun x => TD.tup [ea x, eb x]) ρ) (hl : xs.length ≤ 1000)
    (ht : ∀ x, x ∈ xs → EVT K M tt ((ρ.set j (some (.p (ea x)))).set k (some (.p (eb x)))) (f x)) (he : ∀ x, x ∈ xs → f x = true → EV K M te ((ρ.set j (some (.p (ea x)))).set k (some (.p (eb x)))) (.p (h x))) (n : j ≠ k := by decide) :
    EV K M (tLc wi (gTup K 2 (gCons (gName j) (gCons (gName k) gNil))) tt te [j, k]) ρ (.f ((xs.filter f).map h)) := by
  refine (ex_lc hi (fun _ i acc => acc = ((xs.take i).filter f).map h) (fun _ _ => rfl) (fun ds e => by rw [e, List.length_map]; exact hl) (fun ds e => by rw [e]; exact hside) fun ds i d acc e hd ea' => ?_).mono fun y hy => ?_
  · rw [e, List.getElem?_map] at hd
    cases hx : xs[i]? with
    | none => rw [hx] at hd; cases hd
    | some x =>
      rw [hx] at hd
      have ed : TD.tup [ea x, eb x] = d := Option.some.inj hd
      refine ⟨_, by rw [← ed]; exact lg_tup2 n, fun b => b = f x, ht x (List.mem_of_getElem? hx), fun z => ?_, fun z => ?_⟩
      · rw [ea', List.take_add_one, hx, List.filter_append, List.map_append]
        have : ([x].filter f) = [] := by rw [List.filter_cons, if_neg (by rw [← z]; decide)]; rfl
        show _ = _ ++ List.map h ([x].filter f)
        rw [this]
        simp
      · refine (he x (List.mem_of_getElem? hx) z.symm).mono fun y ey => ⟨h x, ey, ?_⟩
        rw [ea', List.take_add_one, hx, List.filter_append, List.map_append]
        have : ([x].filter f) = [x] := by rw [List.filter_cons, if_pos z.symm]; rfl
        show _ = _ ++ List.map h ([x].filter f)
        rw [this]
        rfl
  · obtain ⟨acc, e1, ds, e2, e3, _⟩ := hy
    rw [e1, e3, e2, List.length_map, List.take_length]
theorem ev_lcMap2 {α : Type} {xs : List α} {ea eb h : α → TD} {j k : Nat} {Side : List TD → Ev0 → Prop} (hi : IX K M wi ρ (fun y => y = xs.map fun x => TD.tup [ea x, eb x]) Side) (hside : Side (xs.map fun x => TD.tup [ea x, eb x]) ρ) (hl : xs.length ≤ 1000)
    (he : ∀ x, x ∈ xs → EV K M te ((ρ.set j (some (.p (ea x)))).set k (some (.p (eb x)))) (.p (h x))) (n : j ≠ k := by decide) :
    EV K M (tLc wi (gTup K 2 (gCons (gName j) (gCons (gName k) gNil))) tYes te [j, k]) ρ (.f (xs.map h)) := by
  have := ev_lcFM2 (f := fun _ => true) hi hside hl (fun x _ => ext_yes) (fun x hx _ => he x hx) n
  rw [List.filter_eq_self.mpr (fun _ _ => rfl)] at this
  exact this
end
end K37
end
section
set_option Elab.async false
set_option linter.all false
set_option maxRecDepth 100000
set_option maxHeartbeats 4000000
/-! KD: rules that the layer lacks (max of three, enumerate of a tuple, `in` a tuple of data, list.remove of data, sorted of int tuples, three comparisons in a chain), a def's promise. -/
namespace K37
open PySem PySem.Spec PyProof.Rows L2
/-! ### built-in names -/
theorem bb_len : bootBuiltins "len" = some (.builtin "len") := by decide +kernel
theorem bb_all : bootBuiltins "all" = some (.builtin "all") := by decide +kernel
theorem bb_any : bootBuiltins "any" = some (.builtin "any") := by decide +kernel
theorem bb_abs : bootBuiltins "abs" = some (.builtin "abs") := by decide +kernel
theorem bb_sum : bootBuiltins "sum" = some (.builtin "sum") := by decide +kernel
theorem bb_sorted : bootBuiltins "sorted" = some (.builtin "sorted") := by decide +kernel
theorem bb_max : bootBuiltins "max" = some (.builtin "max") := by decide +kernel
theorem bb_min : bootBuiltins "min" = some (.builtin "min") := by decide +kernel
theorem bb_isinstance : bootBuiltins "isinstance" = some (.builtin "isinstance") := by decide +kernel
theorem bb_int : bootBuiltins "int" = some (.type "int") := by decide +kernel
theorem bb_bool : bootBuiltins "bool" = some (.type "bool") := by decide +kernel
theorem bb_tuple : bootBuiltins "tuple" = some (.type "tuple") := by decide +kernel
theorem bb_list : bootBuiltins "list" = some (.type "list") := by decide +kernel
/-- what the module's names hold: the built-in ones, the constants -/
structure Gp (K : PySem.W.Frag) (mg : Str → Option Value) : Prop where
  n_len : mg "len" = none
  n_all : mg "all" = none
  n_any : mg "any" = none
  n_abs : mg "abs" = none
  n_sum : mg "sum" = none
  n_sorted : mg "sorted" = none
  n_max : mg "max" = none
  n_min : mg "min" = none
  n_isinstance : mg "isinstance" = none
  n_int : mg "int" = none
  n_bool : mg "bool" = none
  n_tuple : mg "tuple" = none
  n_list : mg "list" = none
  n_range : mg "range" = none
  n_enumerate : mg "enumerate" = none
  n_zip : mg "zip" = none
  MOST_THRESHOLDS : ∃ t, mg "MOST_THRESHOLDS" = some (.int 6 t)
  MOST_TOP : ∃ t, mg "MOST_TOP" = some (.int 1000000 t)
  MOST_BOTTOM : ∃ t, mg "MOST_BOTTOM" = some (.int 144 t)
  MOST_WIDTH : ∃ t, mg "MOST_WIDTH" = some (.int 12 t)
  MOST_SORTS : ∃ t, mg "MOST_SORTS" = some (.int 4 t)
  MOST_KINDS : ∃ t, mg "MOST_KINDS" = some (.int 5 t)
  MOST_CAP : ∃ t, mg "MOST_CAP" = some (.int 6 t)
  MOST_VESSELS : ∃ t, mg "MOST_VESSELS" = some (.int 12 t)
  MOST_PIPES : ∃ t, mg "MOST_PIPES" = some (.int 36 t)
  NOUGHT : ∃ a, mg "NOUGHT" = some (.ref a) ∧ ∀ H, SqT K H a [.int 0, .int 1]
/-! ### rules of the layer's kind -/
section
variable {X : Cx}
theorem hu65 {A : Around} {k : Nat} (hr : Room k A) : A.units + 65 < cLine := by have := hr.un; omega
/-- max of three ints -/
def rMax3 : List V → Hp → VK → Prop := fun xs H Q => ∃ i j k, xs = [.int i, .int j, .int k] ∧ Q (.int (max (max i j) k)) H
theorem call_max3 (hc : X.calm = true) : CallR X (.builtin "max") rMax3 := by
  intro pins s σ H xs us Q I r h
  obtain ⟨i, j, k, rfl, q⟩ := h
  cases r with
  | cons r1 r =>
    cases r with
    | cons r2 r =>
      cases r with
      | cons r3 r =>
        cases r
        obtain ⟨t1, rfl⟩ := r1
        obtain ⟨t2, rfl⟩ := r2
        obtain ⟨t3, rfl⟩ := r3
        refine max_three_ints (I.ok.hd hc) fun h' tk hk => ⟨.int (max (max i j) k), H, I.kept hk, ?_, q⟩
        show ∃ t, _ = Value.int (max (max i j) k) t
        by_cases h1 : j > i
        · by_cases h2 : k > j
          · exact ⟨t3, by rw [if_pos h1, if_pos h2, show max (max i j) k = k by omega]⟩
          · exact ⟨t2, by rw [if_pos h1, if_neg h2, show max (max i j) k = j by omega]⟩
        · by_cases h2 : k > i
          · exact ⟨t3, by rw [if_neg h1, if_pos h2, show max (max i j) k = k by omega]⟩
          · exact ⟨t1, by rw [if_neg h1, if_neg h2, show max (max i j) k = i by omega]⟩
/-- x in t, t a tuple of data -/
def rInDT (K : PySem.W.Frag) : R2 := fun x y H Q => ∃ d ds, Dp K H x d ∧ Dp K H y (.tuple ds) ∧ SeqAt.shaped d = true ∧ SeqAt.shaped (.tuple ds) = true ∧ Q (.bl (ds.any fun z => PyData.eqv z d)) H
theorem op_inT (hu : X.A.units + 65 < cLine) : OpR X (compareOp .In) (rInDT X.K) := by
  intro pins s σ H x y v u Q I rx ry h
  obtain ⟨d, ds, hd, he, sd, se, q⟩ := h
  obtain ⟨as, r1⟩ := Dp.reads I d x v hd rx
  obtain ⟨bs, r2⟩ := Dp.reads I (.tuple ds) y u he ry
  exact SeqAt.in_tuple_reads r2 r1 (SeqAt.canLay_of_shaped se) (SeqAt.canLay_of_shaped sd) (by
    have h1 := SeqAt.depth_of_shaped sd
    have h2 : min (PyData.depthAll ds) d.depth ≤ d.depth := Nat.min_le_right _ _
    omega) ⟨.bl _, H, I, rfl, q⟩
/-- l.remove(x), x in the list -/
def rRemD (K : PySem.W.Frag) : V → List V → Hp → VK → Prop := fun x vs H Q => ∃ (l : Addr) (xs : List V) (y : V) (d : PyData) (ds : List PyData) (j : Nat), x = .ref l ∧ vs = [y] ∧ H l = some (.lst xs) ∧ DpAll K H xs ds ∧ Dp K H y d ∧
  SeqAt.shaped d = true ∧ SeqAt.shaped (.list ds) = true ∧ SeqAt.dataPlace ds d = some j ∧ Q .non (upd H l (.lst (xs.eraseIdx j)))
theorem mt_removeD (hu : X.A.units + 65 < cLine) : MtM X "list.remove" (rRemD X.K) := by
  intro pins s σ H x vs v us Q I rx rxs h
  obtain ⟨l, xs, y, d, ds, j, rfl, rfl, hH, hds, hy, sd, sl, hp, q⟩ := h
  cases rx
  cases rxs with
  | cons ry rt =>
    rename_i uy ut
    cases rt
    obtain ⟨bs, r1⟩ := Dp.reads I d y uy hy ry
    obtain ⟨z, its, n, r, hl, e0⟩ := I.lstM hH
    obtain ⟨as, r2⟩ := Dp.readsAll I ds xs its hds r
    have hxs : PyData.canLayAll0 ds = true := SeqAt.canLay_of_shaped sl
    refine SeqAt.remove_list_data (vs := its.toArray) (as := as) (bs := bs) ⟨_, e0, rfl, n, rfl⟩ (by simpa using r2) r1 (PyData.plainAll_of_canLay0 ds hxs) (PyData.plain_of_canLay0 d (SeqAt.canLay_of_shaped sd)) ?_ hp (by rw [List.size_toArray, ← hl]; exact z) ?_
    · have h1 := SeqAt.depth_of_shaped sd
      have h2 : min (PyData.depthAll ds) d.depth ≤ d.depth := Nat.min_le_right _ _
      omega
    · refine ⟨.non, _, I.lset (its' := its.eraseIdx j) hH e0 ?_ (r.eraseIdx j) ?_, rfl, q⟩
      · show its.toArray.eraseIdxIfInBounds j = (its.eraseIdx j).toArray
        rw [List.eraseIdxIfInBounds_toArray]
      · have := len_erase xs j
        omega
/-- o[i] of a list, for o[i] op= e -/
theorem get_list : PGet X (fun x y H Q => ∃ p xs i v, x = .ref p ∧ y = .int i ∧ SqL X.K H p xs ∧ 0 ≤ i ∧ atI xs i = some v ∧ Q v H) := by
  intro pins s σ H o i ov iv Q I ro ri h
  obtain ⟨p, xs, k, v, rfl, rfl, hq, h0, ha, q⟩ := h
  cases ro
  obtain ⟨t, rfl⟩ := ri
  obtain ⟨its, r, pl, hz⟩ := I.list hq
  obtain ⟨j, h1, h2, h3, h4, h5⟩ := atI_get ha
  obtain ⟨w, ew, rw'⟩ := r.get h2
  have hn := line63
  have hj : k.toNat = j := by
    rw [seqIndex_of h0 h5] at h1
    exact Option.some.inj h1
  exact wpAny_getItem_list pl.isList h0 (by omega) (by rw [hj]; simpa using ew) ⟨v, H, I, rw', q⟩
/-- a op b op c op d, as a test -/
def tCh3 (r1 r2 r3 : R2) (ta tb tc td : TE) : TT := fun σ H Q => ta σ H fun x H1 => tb σ H1 fun y H2 => r1 x y H2 fun z H3 => ∃ k, z = .bl k ∧
  (if k = true then tc σ H3 fun x3 H4 => r2 y x3 H4 fun z2 H5 => ∃ k2, z2 = .bl k2 ∧ (if k2 = true then td σ H5 fun x4 H6 => r3 x3 x4 H6 fun z3 H7 => ∃ k3, z3 = .bl k3 ∧ Q k3 H7 else Q false H5) else Q false H3)
theorem pt_chain3 {o1 o2 o3 : CmpOp} {r1 r2 r3 : R2} {a b c d : Expr} {ta tb tc td : TE} {pos : Pos} (h1 : OpR X (compareOp o1) r1) (h2 : OpR X (compareOp o2) r2) (h3 : OpR X (compareOp o3) r3) (ha : PE X a ta) (hb : PE X b tb) (hc : PE X c tc) (hd : PE X d td)
    (hm : lastMarks [o1, o2, o3] [b, c, d] = false := by with_unfolding_all rfl) : PT X (.Compare a [o1, o2, o3] [b, c, d] pos) (tCh3 r1 r2 r3 ta tb tc td) := by
  refine ⟨fun pins s σ H Q I h => ?_⟩
  refine isTrue_chain (thn (ha.run pins s σ H _ I h) fun v s1 ⟨x, H1, I1, rx, q1⟩ => test_link (thn (hb.run pins s1 σ H1 _ I1 q1) fun u s2 ⟨y, H2, I2, ry, q2⟩ =>
    thn (h1 pins s2 σ H2 x y v u _ I2 rx ry q2) fun e1 s3 ⟨z, H3, I3, r3', k, e, q3⟩ => ?_)) hm
  subst e
  cases r3'
  refine wpAny_truthy_bool ?_
  cases k with
  | false => exact ite_ff ⟨H3, I3, q3⟩
  | true =>
    refine ite_tt (test_link (thn (hc.run pins s3 σ H3 _ I3 q3) fun w' s4 ⟨x3, H4, I4, r4, q4⟩ => thn (h2 pins s4 σ H4 y x3 u w' _ I4 ry r4 q4) fun d' s5 ⟨z2, H5, I5, r5, k2, e2, q5⟩ => ?_))
    subst e2
    cases r5
    refine wpAny_truthy_bool ?_
    cases k2 with
    | false => exact ite_ff ⟨H5, I5, q5⟩
    | true =>
      refine ite_tt (test_last (thn (hd.run pins s5 σ H5 _ I5 q5) fun w2 s6 ⟨x4, H6, I6, r6, q6⟩ => thn (h3 pins s6 σ H6 x3 x4 w' w2 _ I6 r4 r6 q6) fun d2 s7 ⟨z3, H7, I7, r7, k3, e3, q7⟩ => ?_))
      subst e3
      cases r7
      exact wpAny_truthy_bool ⟨H7, I7, q7⟩
end
/-! ### enumerate of a tuple -/
set_option maxHeartbeats 4000000 in
theorem meets_enumerate_newT (l : Addr) (items : Array Value) :
    Meets (Builtin.«enumerate.__new__» ⟨[.type "enumerate", .ref l], []⟩) (fun _ R s => s.heap.IsTuple l items ∧
      R (.ok (.ret (.ref (s.heap.push { cls := .type "tuple_iterator", data := .fields #[.ref l, .int 0 0] }).objs.size)))
        { s with heap := (s.heap.push { cls := .type "tuple_iterator", data := .fields #[.ref l, .int 0 0] }).push { cls := .type "enumerate", data := .fields #[.none, .bool false, .ref s.heap.objs.size, rawInt 0, .none, .none] } }) :=
  .of_wp fun prog w A R s h => by
    obtain ⟨hp, g, d, tk, os⟩ := s; obtain ⟨h1, h⟩ := h
    have hsub := sub_enumerate
    have q1 : ∀ {A' : Around} {E : Value → Shared → Prop} {Q : Value → Shared → Prop}, Q (.ref hp.objs.size) ⟨hp.push { cls := .type "tuple_iterator", data := .fields #[.ref l, .int 0 0] }, g, d, tk, os⟩ → wpAny (model prog w) A' (pyIter (.ref l)) Q E ⟨hp, g, d, tk, os⟩ :=
      fun q => wpAny_pyIter_tuple (s := ⟨hp, g, d, tk, os⟩) h1 q
    wp_walk using q1
    refine wpAny_stack_any fun st => wpAny_pure ?_
    split
    · rename_i c _ _ _ _ _
      cases (c == Value.type "enumerate")
      · wp_walk using q1
        exact ⟨_, rfl, h⟩
      · wp_walk using q1
        exact ⟨_, rfl, h⟩
    · wp_walk using q1
      exact ⟨_, rfl, h⟩
section
variable {prog : Program} {w : World} {A : Around} {E : Value → Shared → Prop} {s : Shared}
theorem call_enumerate_tuple {l : Addr} {items : Array Value} {Q : Value → Shared → Prop} (hL : s.heap.IsTuple l items)
    (h : ∀ h', IsEnum h' (s.heap.objs.size + 1) s.heap.objs.size 0 .none → h'.IsTupleIter s.heap.objs.size l 0 → h'.objs.size = s.heap.objs.size + 2 →
      (∀ b o, s.heap.get? b = some o → h'.get? b = some o) → Q (.ref (s.heap.objs.size + 1)) { s with heap := h' }) :
    wpAny (model prog w) A (call (.type "enumerate") [.ref l]) Q E s := by
  refine callType_new F.called_enumerate (by decide) (F.typeCall_enumerate_1 _) (F.newCall_enumerate_1 _) (fun obj => F.args_object_init_2 obj _) F.entry_enumerate_new
    (meets_enumerate_newT l items) ⟨hL, ?_⟩
  have hz : (s.heap.push { cls := .type "tuple_iterator", data := .fields #[.ref l, .int 0 0] }).objs.size = s.heap.objs.size + 1 := Heap.size_push ..
  show _ ∧ _
  rw [hz]
  have he : IsEnum ((s.heap.push { cls := .type "tuple_iterator", data := .fields #[.ref l, .int 0 0] }).push
      { cls := .type "enumerate", data := .fields #[.none, .bool false, .ref s.heap.objs.size, rawInt 0, .none, .none] }) (s.heap.objs.size + 1) s.heap.objs.size 0 .none := by
    have := Heap.get?_push_size (s.heap.push { cls := .type "tuple_iterator", data := .fields #[.ref l, .int 0 0] })
      (o := { cls := .type "enumerate", data := .fields #[.none, .bool false, .ref s.heap.objs.size, rawInt 0, .none, .none] }) rfl
    rw [hz] at this; exact this
  refine ⟨⟨_, he, rfl⟩, h _ he ⟨_, Heap.get?_push_of_some _ (Heap.get?_push_size _ rfl), rfl, rfl⟩ (by rw [Heap.size_push, hz]) fun b o x => Heap.get?_push_of_some _ (Heap.get?_push_of_some _ x)⟩
end
/-- the tuple at a, each item in a new pair -/
def IteT (K : PySem.W.Frag) (a : Addr) : It :=
  ⟨fun i H => ∃ (xs : List V) (x : V), SqT K H a xs ∧ xs[i]? = some x, fun i H v H' => ∃ T x, v = .ref T ∧ H T = none ∧ H' = upd H T (.tup [.int (i : Nat), x]) ∧ ∀ xs, SqT K H a xs → xs[i]? = some x, fun i H => ∃ xs : List V, SqT K H a xs ∧ xs.length = i⟩
theorem turn_enumT {P : Program} {w : World} {K : PySem.W.Frag} {elts : List Expr} {kk : Nat} {tpos : Pos} (a e it : Addr) :
    Turn P w K (.Tuple elts kk tpos) (IteT K a) [e, it] e (fun i h => (∃ old, IsEnum h e it ((i : Nat) : Int) old) ∧ h.IsTupleIter it a i ∧ e ≠ it) where
  mem := by simp
  obj := fun i h st b hb => by
    obtain ⟨⟨old, he⟩, ⟨o, ho, hc, hd⟩, _⟩ := st
    have e' : b = e ∨ b = it := by simpa using hb
    rcases e' with z | z
    · rw [z]; exact ⟨_, he, fun v q => nomatch q⟩
    · rw [z]; exact ⟨o, ho, fun v q => by rw [hd] at q; cases q⟩
  keep := fun i h h' st k => let ⟨⟨old, he⟩, hi, hne⟩ := st; ⟨⟨old, k e (by simp) _ he⟩, hi.at fun o q => k it (by simp) o q, hne⟩
  item := by
    intro X hP hw hK hc i pins s σ H E I hf st hg
    subst hP hw hK
    obtain ⟨⟨old, he⟩, hit, hne⟩ := st
    obtain ⟨xs, x, hq, hx⟩ := hg
    obtain ⟨its, rv, p, hz⟩ := I.tuple hq
    obtain ⟨u, hu, ru⟩ := rv.get hx
    have hel : e < s.heap.objs.size := Heap.lt_size he
    have hil : it < s.heap.objs.size := by obtain ⟨_, q, _⟩ := hit; exact Heap.lt_size q
    have hti : s.heap.IsTuple a its.toArray := p
    have hai : a ≠ it := fun z => by
      obtain ⟨o1, g1, g2, _⟩ := hti
      obtain ⟨o2, g3, g4, _⟩ := hit
      rw [z, g3] at g1
      cases g1
      rw [g2] at g4
      injection g4 with g5
      exact absurd g5 (by decide)
    have hae : a ≠ e := fun z => by
      obtain ⟨o1, g1, g2, _⟩ := hti
      rw [z] at g1
      have he2 : s.heap.get? e = some _ := he
      rw [he2] at g1
      cases g1
      injection g2 with g5
      exact absurd g5 (by decide)
    have D := Draws.tuple (prog := X.prog) (w := X.w) (A := X.A.in1) (I.ok.hd hc) it a hai its.toArray
    have hlt : i < its.toArray.size := by
      rw [List.size_toArray]
      exact (List.getElem?_eq_some_iff.mp hu).1
    refine wpAny_pyNext_enum_itemD D he ⟨hit, hti⟩ hlt hne (by
      intro z
      have z' : e = it ∨ e = a := by simpa using z
      rcases z' with z | z
      · exact hne z
      · exact hae z.symm) fun x1 h' tk hx1 ho hit' hT hsz hk => ?_
    have ex : x1 = u := by
      have hx2 : its.toArray[i]? = some u := by simpa using hu
      rw [hx1] at hx2
      exact Option.some.inj hx2
    subst ex
    refine ⟨_, rfl, wpAny_letOwnedTupleGo_enum (s := { s with heap := h', toks := tk + 1 }) ho fun h'' he' sb => ?_⟩
    have hT2 : h''.get? s.heap.objs.size = some { cls := .type "tuple", data := .seq #[.int i tk, x1] } := (sb.2 _ (Nat.ne_of_gt hel)).trans hT
    have new : ObjOk X.prog X.w (upd H s.heap.objs.size (.tup [.int (i : Nat), x])) h'' s.heap.objs.size (.tup [.int (i : Nat), x]) :=
      ⟨by show 2 ≤ sizeLine; decide, [.int i tk, x1], .cons ⟨_, rfl⟩ (.cons ru .nil), ⟨_, hT2, rfl, _, rfl⟩⟩
    have I1 : Inv X pins σ (upd H s.heap.objs.size (.tup [.int (i : Nat), x])) { s with heap := h'', toks := tk + 1 } :=
      I.turnedNew (ch := [e, it]) (fun b ob hb q => (sb.2 b (fun z => hb (by simp [z]))).trans (hk b ob (fun z => hb (by simp [z])) (fun z => hb (by simp [z])) q)) hf (Nat.le_refl _) new
    refine ⟨.ref s.heap.objs.size, _, I1, rfl, ⟨_, x, rfl, I.hok.fresh (Nat.le_refl _), rfl, fun ys hy => by rw [I.tuple_inj hy hq]; exact hx⟩, ⟨⟨x1, ?_⟩, hit'.1.at fun o q => (sb.2 it (Ne.symm hne)).trans q, hne⟩, fun b hb => ?_⟩
    · have e1 : ((i + 1 : Nat) : Int) = (i : Int) + 1 := by omega
      rw [e1]; exact he'
    · have hb' : b < s.heap.objs.size := by
        have e' : b = e ∨ b = it := by simpa using hb
        rcases e' with z | z
        · rw [z]; exact hel
        · rw [z]; exact hil
      rw [upd_ne (Nat.ne_of_lt hb')]
      exact (hf b hb).1
  done := by
    intro X hP hw hK hc i pins s σ H E I hf st hg
    subst hP hw hK
    obtain ⟨⟨old, he⟩, hit, hne⟩ := st
    obtain ⟨xs, hq, hx⟩ := hg
    obtain ⟨its, rv, p, hz⟩ := I.tuple hq
    obtain ⟨f0, f1, f2, f3, f4, f5⟩ := hf it (by simp)
    have hl := rv.length
    have hti : s.heap.IsTuple a its.toArray := p
    have hai : a ≠ it := fun z => by
      obtain ⟨o1, g1, g2, _⟩ := hti
      obtain ⟨o2, g3, g4, _⟩ := hit
      rw [z, g3] at g1
      cases g1
      rw [g2] at g4
      injection g4 with g5
      exact absurd g5 (by decide)
    have D := Draws.tuple (prog := X.prog) (w := X.w) (A := X.A.in1) (I.ok.hd hc) it a hai its.toArray
    have hsz : i = its.toArray.size := by rw [List.size_toArray, ← hl, hx]
    exact wpAny_pyNext_enum_endD (i := ((i : Nat) : Int)) D he (by rw [← hsz]; exact ⟨hit, hti⟩) fun h' eb => ⟨rfl, I.turned (t' := s.toks) (fun b o hb q => eb b o hb q) f0 f1 f3 f4 f5⟩
  self := fun A i s Q E st h => let ⟨⟨_, he⟩, _⟩ := st; wpAny_pyIter_enum he h
def iEnumT (K : PySem.W.Frag) (ta : TA) : TI := fun σ H R => ta σ H fun vs H1 => ∃ a xs, vs = [.ref a] ∧ SqT K H1 a xs ∧ R (IteT K a) H1
theorem pi_enumT {X : Cx} {e : Expr} {ta : TA} {p pos tpos : Pos} {elts : List Expr} {kk : Nat} (hg : Gl X "enumerate") (hm : X.mg "enumerate" = none) (ha : PA X [e] ta) (hs : starEach [e] X.env = [(false, eval e X.env)] := by rfl) :
    PI X (.Tuple elts kk tpos) (.Call (.Name "enumerate" p) [e] [] pos) (iEnumT X.K ta) := by
  refine ⟨fun pins s σ H R I h => ?_⟩
  refine Call_ (ld_blt I hg hm boot_enumerate (PyProof.Rows.callWith_type1 (thn (ha.run pos pins s σ H _ I h) fun us s1 ⟨vs, H1, I1, r1, q1⟩ => ?_) hs rfl))
  obtain ⟨a, xs, ex, hq, q⟩ := q1
  subst ex
  cases r1 with
  | cons r rr =>
    cases rr
    cases r
    obtain ⟨its, rv, p', hz⟩ := I1.tuple hq
    refine call_enumerate_tuple (show s1.heap.IsTuple a its.toArray from p') fun h' he hit hsz hk => wpAny_pyIter_enum he ?_
    have I2 : Inv X pins σ H1 { s1 with heap := h' } := I1.kept (t' := s1.toks) hk
    refine ⟨s1.heap.objs.size + 1, [s1.heap.objs.size + 1, s1.heap.objs.size], _, _, H1, rfl, I2, turn_enumT a (s1.heap.objs.size + 1) s1.heap.objs.size, ⟨⟨.none, he⟩, hit, Nat.succ_ne_self _⟩, fun b hb => ?_, q⟩
    have e' : b = s1.heap.objs.size + 1 ∨ b = s1.heap.objs.size := by simpa using hb
    have hle : s1.heap.objs.size ≤ b := by
      rcases e' with z | z
      · rw [z]; exact Nat.le_add_right _ _
      · rw [z]; exact Nat.le_refl _
    exact I1.fpOk hle (I1.hok.fresh hle)
/-! ### sorted of a list of tuples of ints (each with an item at least) -/
def encI (b : List Int) : PyData := .tuple (b.map PyData.int)
def TupB (K : PySem.W.Frag) (H : Hp) (v : V) (b : List Int) : Prop := ∃ t, v = .ref t ∧ SqT K H t (b.map V.int)
def leI (a b : List Int) : Bool := PySem.W.dataLe false encI a b
def rSortD (K : PySem.W.Frag) : List V → Hp → VK → Prop := fun vs H Q => ∃ (a : Addr) (bs : List (List Int)) (xs : List V), vs = [.ref a] ∧ SqL K H a xs ∧ Paired (TupB K H) xs bs ∧ (∀ b ∈ bs, b ≠ []) ∧ bs.length ≤ 1000 ∧
  ∀ p ys, H p = none → Paired (TupB K H) ys (bs.mergeSort leI) → Q (.ref p) (upd H p (.lst ys))
theorem depthAll_ints : ∀ b : List Int, PyData.depthAll (b.map PyData.int) = 0 := PySem.W.depth_ints
theorem cr_sortedD {X : Cx} {k : Nat} (hr : Room k X.A) : CallR X (.builtin "sorted") (rSortD X.K) := by
  intro pins s σ H vs us Q I r h
  obtain ⟨a, bs, xs, rfl, hs, hx, hne, hz, q⟩ := h
  obtain ⟨its, rv, hl, hzz⟩ := I.list hs
  rw [Vals.ref1 r]
  have each : ∀ {xs : List V} {its : List Value} {bs : List (List Int)}, Vals xs its → Paired (TupB X.K H) xs bs → PySem.W.EachIs (fun (v : Value) (b : List Int) => ∃ x : V, RelV x v ∧ TupB X.K H x b) its bs := by
    intro xs its bs rv hx
    induction hx generalizing its with
    | nil => cases rv; exact .nil
    | cons h1 h2 ih =>
      cases rv with
      | cons r1 r2 => exact .cons ⟨_, r1, h1⟩ (ih r2)
  have E := each rv hx
  have toVals : ∀ {out : List Value} {bs : List (List Int)}, PySem.W.EachIs (fun (v : Value) (b : List Int) => ∃ x : V, RelV x v ∧ TupB X.K H x b) out bs → ∃ ys, Vals ys out ∧ Paired (TupB X.K H) ys bs := by
    intro out bs e
    induction e with
    | nil => exact ⟨[], .nil, .nil⟩
    | cons h1 h2 ih =>
      obtain ⟨x, r1, t1⟩ := h1
      obtain ⟨ys, r2, t2⟩ := ih
      exact ⟨x :: ys, .cons r1 r2, .cons t1 t2⟩
  have g1 : PySem.W.EachIs (fun (v : Value) (b : List Int) => ∃ as, Reads s.heap v (encI b) as) its bs := by
    refine E.mono fun v b hb => ?_
    obtain ⟨x, rx, t, ex, ht⟩ := hb
    have hd : Dp X.K H x (encI b) := by
      rw [ex]
      refine .tup ht ?_
      clear ht
      induction b with
      | nil => exact .nil
      | cons n b ih => exact .cons (.int n) ih
    exact Dp.reads I _ _ _ hd rx
  have g2 : PySem.W.Sortable (bs.map encI) := by
    refine .inl fun d hd => ?_
    obtain ⟨b, hb, rfl⟩ := List.mem_map.mp hd
    have := hne b hb
    cases b with
    | nil => exact absurd rfl this
    | cons n b => exact ⟨_, _, rfl⟩
  have g3 : ∀ b, b ∈ bs → X.A.units + 2 + (encI b).depth < cLine := fun b _ => by
    have := hr.un
    unfold encI
    simp only [PyData.depth, depthAll_ints]
    omega
  refine PySem.W.sorted_data (enc := encI) hl.isList E g1 (PySem.W.AllAlike.of fun b b' => PySem.W.alike_ints b b') g2 (Nat.le_trans hz (by decide)) g3 fun out h1 h2 => ?_
  obtain ⟨ys, rv2, hy⟩ := toVals h2
  obtain ⟨ep, he'⟩ := PyProof.Rows.sortedAll_at s.heap its (List.toArray out)
  have hl2 : ys.length ≤ sizeLine := by
    rw [rv2.length, h1]
    exact Nat.le_trans hz (by decide)
  exact ⟨.ref _, upd H (s.heap.objs.size + 1) (.lst ys), I.laid (t' := s.toks) (fun _ _ => PyProof.Rows.sortedAll_old) (Nat.le_succ _) ⟨hl2, out, ep, rv2, he'⟩, rfl, q _ ys (I.hok.fresh (Nat.le_succ _)) hy⟩
end K37
end
section
set_option Elab.async false
set_option linter.all false
set_option maxRecDepth 100000
set_option maxHeartbeats 4000000
/-! KF: data as the library's data, the rules for == and in, sorts, index, pop, remove; a def's promise from its body. -/
namespace K37
open PySem PySem.Spec PyProof.Rows L2
/-! ### the library's data -/
mutual
def toPD : TD → PyData
  | .non => .none
  | .bl b => .bool b
  | .int i => .int i
  | .tup ds => .tuple (toPDs ds)
def toPDs : List TD → List PyData
  | [] => []
  | d :: ds => toPD d :: toPDs ds
end
mutual
theorem Tp.dp {K : PySem.W.Frag} {H : Hp} : ∀ {d : TD} {v : V}, Tp K H v d → Dp K H v (toPD d)
  | .non, _, h => by cases h; exact .non
  | .bl b, _, h => by cases h; exact .bl b
  | .int i, _, h => by cases h; exact .int i
  | .tup ds, _, h => by
    cases h with
    | tup hs ha => exact .tup hs (TpAll.dp ha)
theorem TpAll.dp {K : PySem.W.Frag} {H : Hp} : ∀ {ds : List TD} {vs : List V}, TpAll K H vs ds → DpAll K H vs (toPDs ds)
  | [], _, h => by cases h; exact .nil
  | d :: ds, _, h => by
    cases h with
    | cons h1 h2 => exact .cons (Tp.dp h1) (TpAll.dp h2)
end
theorem toPDs_map : ∀ ds : List TD, toPDs ds = ds.map toPD
  | [] => rfl
  | d :: ds => by rw [toPDs, toPDs_map ds]; rfl
mutual
theorem canLay_td : ∀ d : TD, (toPD d).canLay0 = true
  | .non => rfl
  | .bl _ => rfl
  | .int _ => rfl
  | .tup ds => by
    show PyData.canLayAll0 (toPDs ds) = true
    exact canLays_td ds
theorem canLays_td : ∀ ds : List TD, PyData.canLayAll0 (toPDs ds) = true
  | [] => rfl
  | d :: ds => by
    show ((toPD d).canLay0 && PyData.canLayAll0 (toPDs ds)) = true
    rw [canLay_td d, canLays_td ds]
    rfl
end
mutual
def dep : TD → Nat
  | .tup ds => deps ds + 1
  | _ => 0
def deps : List TD → Nat
  | [] => 0
  | d :: ds => max (dep d) (deps ds)
end
mutual
theorem depth_td : ∀ d : TD, (toPD d).depth = dep d
  | .non => rfl
  | .bl _ => rfl
  | .int _ => rfl
  | .tup ds => by
    show PyData.depthAll (toPDs ds) + 1 = deps ds + 1
    rw [depths_td ds]
theorem depths_td : ∀ ds : List TD, PyData.depthAll (toPDs ds) = deps ds
  | [] => rfl
  | d :: ds => by
    show max (toPD d).depth (PyData.depthAll (toPDs ds)) = max (dep d) (deps ds)
    rw [depth_td d, depths_td ds]
end
theorem shaped_td {d : TD} (h : dep d ≤ 64) : SeqAt.shaped (toPD d) = true := by
  unfold SeqAt.shaped
  rw [canLay_td d, depth_td d, decide_eq_true h]
  rfl
theorem deps_le {α : Type} {enc : α → TD} {k : Nat} (h : ∀ x, dep (enc x) ≤ k) : ∀ xs : List α, deps (xs.map enc) ≤ k
  | [] => Nat.zero_le _
  | x :: xs => by
    show max (dep (enc x)) (deps (xs.map enc)) ≤ k
    have := h x
    have := deps_le h xs
    omega
/-- == of two pieces of data -/
def eqT (a b : TD) : Bool := PyData.eqv (toPD a) (toPD b)
/-- a way to write things as data, told apart by == -/
structure Enc {α : Type} (enc : α → TD) (k : Nat) : Prop where
  dep : ∀ x, dep (enc x) ≤ k
  eq : ∀ x y, eqT (enc x) (enc y) = true ↔ x = y
theorem enc_int : Enc TD.int 0 := ⟨fun _ => Nat.le_refl _, fun x y => by show (x == y) = true ↔ _; exact beq_iff_eq⟩
theorem enc_nat : Enc (fun n : Nat => TD.int (n : Int)) 0 := ⟨fun _ => Nat.le_refl _, fun x y => by
  show ((x : Int) == (y : Int)) = true ↔ _
  rw [beq_iff_eq]
  omega⟩
theorem eqT_tup2 {a b c d : TD} : eqT (.tup [a, b]) (.tup [c, d]) = (eqT a c && eqT b d) := by
  show (PyData.eqv (toPD a) (toPD c) && (PyData.eqv (toPD b) (toPD d) && true)) = _
  rw [Bool.and_true]
  rfl
theorem enc_pair {α β : Type} {ea : α → TD} {eb : β → TD} {k l : Nat} (ha : Enc ea k) (hb : Enc eb l) : Enc (fun p : α × β => TD.tup [ea p.1, eb p.2]) (max k l + 1) :=
  ⟨fun p => by
    show max (K37.dep (ea p.1)) (max (K37.dep (eb p.2)) 0) + 1 ≤ _
    have := ha.dep p.1
    have := hb.dep p.2
    omega, fun p q => by
    rw [eqT_tup2, Bool.and_eq_true, ha.eq, hb.eq]
    constructor
    · rintro ⟨h1, h2⟩; exact Prod.ext h1 h2
    · rintro rfl; exact ⟨rfl, rfl⟩⟩
theorem eqT_list {α : Type} {ea : α → TD} {k : Nat} (ha : Enc ea k) : ∀ xs ys : List α, PyData.eqvAll (toPDs (xs.map ea)) (toPDs (ys.map ea)) = true ↔ xs = ys
  | [], [] => by simp [toPDs, PyData.eqvAll]
  | [], y :: ys => by simp [toPDs, PyData.eqvAll]
  | x :: xs, [] => by simp [toPDs, PyData.eqvAll]
  | x :: xs, y :: ys => by
    show (PyData.eqv (toPD (ea x)) (toPD (ea y)) && PyData.eqvAll (toPDs (xs.map ea)) (toPDs (ys.map ea))) = true ↔ _
    rw [Bool.and_eq_true, eqT_list ha xs ys]
    have := ha.eq x y
    unfold eqT at this
    rw [this]
    constructor
    · rintro ⟨h1, h2⟩; rw [h1, h2]
    · intro h; cases h; exact ⟨rfl, rfl⟩
theorem enc_list {α : Type} {ea : α → TD} {k : Nat} (ha : Enc ea k) : Enc (fun xs : List α => TD.tup (xs.map ea)) (k + 1) :=
  ⟨fun xs => Nat.succ_le_succ (deps_le ha.dep xs), fun xs ys => eqT_list ha xs ys⟩
theorem Enc.dec {α : Type} [DecidableEq α] {ea : α → TD} {k : Nat} (ha : Enc ea k) (x y : α) : eqT (ea x) (ea y) = decide (x = y) := by
  by_cases h : x = y
  · rw [decide_eq_true h]; exact (ha.eq x y).mpr h
  · rw [decide_eq_false h, Bool.eq_false_iff]
    exact fun z => h ((ha.eq x y).mp z)
section
variable {K : PySem.W.Frag} {M : PM} {ρ : Ev0} {ta tb tc td te tl : TE} {tt : TT} {tr : TA} {t u : TS} {Po : Res → Prop} {g : TG}
theorem ev_eqD {a b : TD} (ha : EV K M ta ρ (.p a)) (hb : EV K M tb ρ (.p b)) (h1 : dep a ≤ 64) (h2 : dep b ≤ 64) : EV K M (tOp (rEqD K) ta tb) ρ (bD (eqT a b)) :=
  ev_opP ha hb fun H v u hp r1 r2 Q q => ⟨_, _, r1.dp, r2.dp, shaped_td h1, shaped_td h2, q _ H (Le.refl H) hp (Tp.bl _)⟩
theorem ev_neD {a b : TD} (ha : EV K M ta ρ (.p a)) (hb : EV K M tb ρ (.p b)) (h1 : dep a ≤ 64) (h2 : dep b ≤ 64) : EV K M (tOp (rNeD K) ta tb) ρ (bD (!eqT a b)) :=
  ev_opP ha hb fun H v u hp r1 r2 Q q => ⟨_, _, r1.dp, r2.dp, shaped_td h1, shaped_td h2, q _ H (Le.refl H) hp (Tp.bl _)⟩
theorem ev_inT {a : TD} {ds : List TD} (ha : EV K M ta ρ (.p a)) (hb : EV K M tb ρ (.p (.tup ds))) (h1 : dep a ≤ 64) (h2 : deps ds < 64) : EV K M (tOp (rInDT K) ta tb) ρ (bD (ds.any fun z => eqT z a)) :=
  ev_opP ha hb fun H v u hp r1 r2 Q q => ⟨toPD a, toPDs ds, r1.dp, r2.dp, shaped_td h1, shaped_td (d := .tup ds) h2, by
    have e : ((toPDs ds).any fun z => PyData.eqv z (toPD a)) = ds.any fun z => eqT z a := by
      rw [toPDs_map, List.any_map]
      rfl
    rw [e]
    exact q _ H (Le.refl H) hp (Tp.bl _)⟩
theorem any_enc {α : Type} [DecidableEq α] {ea : α → TD} {k : Nat} (ha : Enc ea k) (xs : List α) (x : α) : ((xs.map ea).any fun z => eqT z (ea x)) = decide (x ∈ xs) := by
  rw [List.any_map]
  by_cases h : x ∈ xs
  · rw [decide_eq_true h, List.any_eq_true]
    exact ⟨x, h, (ha.eq x x).mpr rfl⟩
  · rw [decide_eq_false h, List.any_eq_false]
    intro y hy z
    have : y = x := (ha.eq y x).mp z
    exact h (this ▸ hy)
theorem ev_ltT2 {a b c d : Int} (ha : EV K M ta ρ (.p (.tup [.int a, .int b]))) (hb : EV K M tb ρ (.p (.tup [.int c, .int d]))) : EV K M (tOp (rLtT K) ta tb) ρ (bD (decide (a < c ∨ (a = c ∧ b < d)))) :=
  ev_opP ha hb fun H v u hp r1 r2 Q q => by
    obtain ⟨p, xs, rfl, h1, h2⟩ := r1.tup_inv
    obtain ⟨p', ys, rfl, h3, h4⟩ := r2.tup_inv
    have e1 := TpAll.ints (ns := [a, b]) h2
    have e2 := TpAll.ints (ns := [c, d]) h4
    subst e1; subst e2
    refine ⟨p, p', [a, b], [c, d], rfl, rfl, h1, h3, ?_⟩
    have e : HT.lexLt [a, b] [c, d] = decide (a < c ∨ (a = c ∧ b < d)) := by
      rw [HT.lexLt_cons]
      by_cases h : a = c
      · rw [if_pos h, HT.lexLt_cons]
        by_cases h' : b = d
        · rw [if_pos h', HT.lexLt_nil_nil]
          symm
          rw [decide_eq_false_iff_not]
          omega
        · rw [if_neg h']
          by_cases h3 : b < d
          · rw [decide_eq_true h3, decide_eq_true (.inr ⟨h, h3⟩)]
          · rw [decide_eq_false h3]
            symm
            rw [decide_eq_false_iff_not]
            omega
      · rw [if_neg h]
        by_cases h3 : a < c
        · rw [decide_eq_true h3, decide_eq_true (.inl h3)]
        · rw [decide_eq_false h3]
          symm
          rw [decide_eq_false_iff_not]
          omega
    rw [e]
    exact q _ H (Le.refl H) hp (Tp.bl _)
theorem ev_b3 {r : List V → Hp → VK → Prop} {a b c : TD} {z : Dt} (ha : EV K M ta ρ (.p a)) (hb : EV K M tb ρ (.p b)) (hc : EV K M tc ρ (.p c))
    (hr : ∀ H v u w, Pool M H → Tp K H v a → Tp K H u b → Tp K H w c → ∀ Q : VK, (∀ w H', Le M H H' → Pool M H' → Rp K M H H' w z → Q w H') → r [v, u, w] H Q) : EV K M (tCB r (tCons ta (tCons tb (tCons tc tNil)))) ρ z := fun B G H σ I Q q =>
  ha B G H σ I _ fun v H1 x ex e1 hp1 r1 => by
    subst ex
    refine hb B G H1 σ (I.step e1 hp1) _ fun u H2 y ey e2 hp2 r2 => ?_
    subst ey
    refine hc B G H2 σ ((I.step e1 hp1).step e2 hp2) _ fun w H3 y ey e3 hp3 r3 => ?_
    subst ey
    exact hr H3 v u w hp3 (Tp.le hp2 e3 (Tp.le hp1 e2 r1)) (Tp.le hp2 e3 r2) r3 Q fun w H4 e4 hp4 r4 => q w H4 z rfl (((e1.trans e2).trans e3).trans e4) hp4 (r4.back hp3 ((e1.trans e2).trans e3))
theorem ev_max3 {a b c : Int} (ha : EV K M ta ρ (iD a)) (hb : EV K M tb ρ (iD b)) (hc : EV K M tc ρ (iD c)) : EV K M (tCB rMax3 (tCons ta (tCons tb (tCons tc tNil)))) ρ (iD (max (max a b) c)) :=
  ev_b3 ha hb hc fun H v u w hp h1 h2 h3 Q q => ⟨a, b, c, by rw [h1.int_inv, h2.int_inv, h3.int_inv], q _ H (Le.refl H) hp (Tp.int _)⟩
/-- 0 <= a <= b < c -/
theorem et_chain3 {g1 g2 g3 : Int → Int → Bool} {a b c d : Int} (ha : EV K M ta ρ (iD a)) (hb : EV K M tb ρ (iD b)) (hc : EV K M tc ρ (iD c)) (hd : EV K M td ρ (iD d)) (h1 : g1 a b = true) (h2 : g2 b c = true) (h3 : g3 c d = true) :
    EVT K M (tCh3 (rI0 fun i j => .bl (g1 i j)) (rI0 fun i j => .bl (g2 i j)) (rI0 fun i j => .bl (g3 i j)) ta tb tc td) ρ true := fun B G H σ I Q q =>
  ha B G H σ I _ fun v H1 x1 ex e1 hp1 r1 => by
    subst ex
    refine hb B G H1 σ (I.step e1 hp1) _ fun u H2 y1 ey e2 hp2 r2 => ?_
    subst ey
    refine ⟨a, b, Tp.int_inv r1, Tp.int_inv r2, g1 a b, rfl, ?_⟩
    rw [h1, if_pos rfl]
    refine hc B G H2 σ ((I.step e1 hp1).step e2 hp2) _ fun w H3 y1 ey e3 hp3 r3 => ?_
    subst ey
    refine ⟨b, c, Tp.int_inv r2, Tp.int_inv r3, g2 b c, rfl, ?_⟩
    rw [h2, if_pos rfl]
    refine hd B G H3 σ (((I.step e1 hp1).step e2 hp2).step e3 hp3) _ fun w H4 y1 ey e4 hp4 r4 => ?_
    subst ey
    exact ⟨c, d, Tp.int_inv r3, Tp.int_inv r4, g3 c d, rfl, q _ H4 h3 (((e1.trans e2).trans e3).trans e4) hp4⟩
/-- list(range(n)) -/
theorem ev_listRg {n : Nat} (h : EV K M te ρ (iD (n : Int))) (hn : n ≤ 1000) : EV K M (tLstRg (tRg1 te)) ρ (.f ((List.range n).map fun k => TD.int ((k : Nat) : Int))) := fun B G H σ I Q q =>
  h B G H σ I _ fun v H1 x ex e1 hp1 r1 => by
    subst ex
    refine ⟨(n : Int), Tp.int_inv r1, .of_le (Int.le_refl _) (by omega) (by decide) (by omega), fun l hl => q _ _ _ rfl (e1.trans (Le.new hl)) (hp1.new hl) ⟨l, _, rfl, upd_same, ?_, e1.back hp1 hl⟩⟩
    have e : rgV 0 (n : Int) = (((List.range n).map fun k => ((k : Nat) : Int)).map V.int) := by
      unfold rgV
      rw [List.map_map]
      have : ((n : Int) - 0).toNat = n := by omega
      rw [this]
      refine List.map_congr_left fun k _ => ?_
      show V.int (0 + (k : Int)) = V.int (k : Int)
      rw [Int.zero_add]
    rw [e, show ((List.range n).map fun k => TD.int ((k : Nat) : Int)) = (((List.range n).map fun k => ((k : Nat) : Int)).map TD.int) by rw [List.map_map]; rfl]
    exact TpAll.ofInts _
/-- sorted of ints -/
theorem ex_sortedI {ns : List Int} (h : EV K M te ρ (.l (ns.map TD.int))) (hn : ns.length < 64) : EX K M (tCB (rSorted K) (tCons te tNil)) ρ (fun x => ∃ ms : List Int, x = .f (ms.map TD.int) ∧ ms.Perm ns ∧ ms.Pairwise (· ≤ ·)) :=
  ex_b1 h fun H0 H v _ hp _ r Q q => by
    obtain ⟨a, xs, rfl, hs, hx, _⟩ := r
    exact ⟨a, ns, rfl, by rw [← hx.ints]; exact hs, hn, fun ms p h1 h2 hpn => q _ _ _ ⟨ms, rfl, h1, h2⟩ (Le.new hpn) (hp.new hpn) ⟨p, _, rfl, upd_same, TpAll.ofInts ms, hpn⟩⟩
/-- sorted of tuples of ints -/
theorem ev_sortedDL {bs : List (List Int)} (h : EV K M te ρ (.l (bs.map fun b => TD.tup (b.map TD.int)))) (hne : ∀ b ∈ bs, b ≠ []) (hz : bs.length ≤ 1000) : EV K M (tCB (rSortD K) (tCons te tNil)) ρ (.f ((bs.mergeSort leI).map fun b => TD.tup (b.map TD.int))) :=
  ex_b1 h fun H0 H v _ hp _ r Q q => by
    obtain ⟨a, xs, rfl, hs, hx, _⟩ := r
    have conv : ∀ {bs : List (List Int)} {xs : List V}, TpAll K H xs (bs.map fun b => TD.tup (b.map TD.int)) → Paired (TupB K H) xs bs := by
      intro bs
      induction bs with
      | nil => intro xs h; cases h; exact .nil
      | cons b bs ih =>
        intro xs h
        cases h with
        | cons h1 h2 =>
          obtain ⟨t, ys, rfl, g1, g2⟩ := h1.tup_inv
          exact .cons ⟨t, rfl, by rw [← g2.ints]; exact g1⟩ (ih h2)
    have back : ∀ {bs : List (List Int)} {xs : List V}, Paired (TupB K H) xs bs → TpAll K H xs (bs.map fun b => TD.tup (b.map TD.int)) := by
      intro bs xs h
      induction h with
      | nil => exact .nil
      | cons h1 h2 ih =>
        obtain ⟨t, e, g⟩ := h1
        rw [e]
        exact .cons (.tup g (TpAll.ofInts _)) ih
    exact ⟨a, bs, xs, rfl, hs, conv hx, hne, hz, fun p ys hpn hy => q _ _ _ rfl (Le.new hpn) (hp.new hpn) ⟨p, ys, rfl, upd_same, (back hy).le hp (Le.new hpn), hpn⟩⟩
theorem ev_sortedD {bs : List (List Int)} (h : EV K M te ρ (.f (bs.map fun b => TD.tup (b.map TD.int)))) (hne : ∀ b ∈ bs, b ≠ []) (hz : bs.length ≤ 1000) : EV K M (tCB (rSortD K) (tCons te tNil)) ρ (.f ((bs.mergeSort leI).map fun b => TD.tup (b.map TD.int))) := ev_sortedDL h.fl hne hz
/-- xs.index(k) of ints -/
theorem ev_index {ns : List Int} {k : Int} {j : Nat} (h : EV K M tl ρ (.l (ns.map TD.int))) (he : EV K M te ρ (iD k)) (hj : ns[j]? = some k) (hm : ∀ m, m < j → ns[m]? ≠ some k) : EV K M (tBM K "list" (rIndex K) tl (tCons te tNil)) ρ (iD (j : Int)) := fun B G H σ I Q q =>
  h B G H σ I _ fun v H1 x ex e1 hp1 r1 => by
    subst ex
    obtain ⟨a, xs, rfl, hs, hx, nm⟩ := r1
    have ty : tyV K "list" (.ref a) H1 := .inl ⟨rfl, xs, hs⟩
    refine ⟨ty, he B G H1 σ (I.step e1 hp1) _ fun w H2 y ey e2 hp2 r2 => ?_⟩
    subst ey
    have ew := Tp.int_inv r2
    have ex := hx.ints
    subst ew; subst ex
    refine ⟨a, _, _, j, .int k, rfl, rfl, sqL_le e2 nm hs, rfl, ?_, by rw [List.getElem?_map, hj]; rfl, by show (k == k) = true; exact beq_self_eq_true k, fun m z hlt hz => ?_, q _ H2 _ rfl (e1.trans e2) hp2 (Tp.int _)⟩
    · rw [List.all_eq_true]
      intro z hz
      obtain ⟨n, _, rfl⟩ := List.mem_map.mp hz
      rfl
    · rw [List.getElem?_map] at hz
      cases e : ns[m]? with
      | none => rw [e] at hz; cases hz
      | some n =>
        rw [e] at hz
        have ez : V.int n = z := Option.some.inj hz
        rw [← ez]
        show (n == k) = false
        rw [beq_eq_false_iff_ne]
        intro z
        exact hm m hlt (by rw [e, z])
/-- out.append(left.pop(e)) -/
theorem sx_appendPop {i j : Nat} {a b : Addr} {ds es : List TD} {P : Int → Prop} (hi : ρ[i]? = some (some (.m a ds))) (hj : ρ[j]? = some (some (.m b es))) (ne : i ≠ j) (h : EX K M te ρ (fun x => ∃ k, x = iD k ∧ P k)) (hz : ds.length ≤ 1000) (hz2 : es.length ≤ 1000)
    (k : ∀ z, P z → ∃ (n : Nat) (d : TD), z = (n : Int) ∧ es[n]? = some d ∧ Po (.nx ((ρ.set j (some (.m b (es.eraseIdx n)))).set i (some (.m a (ds ++ [d])))))) :
    SX K M (tDrop (tBM K "list" rAppend (tVar i) (tCons (tBM K "list" rPopAt (tVar j) (tCons te tNil)) tNil))) ρ Po := fun B G H σ I D q => by
  obtain ⟨v, hv, vs, rfl, h2, h3, h4, _, h5⟩ := I.sl i _ hi
  obtain ⟨v', hv', ws, rfl, g2, g3, g4, _, g5⟩ := I.sl j _ hj
  refine ⟨_, hv, .inl ⟨rfl, vs, SqL.of h2⟩, _, hv', .inl ⟨rfl, ws, SqL.of g2⟩, h B G H σ I _ fun w H1 x ⟨z, ex, p⟩ e1 hp1 r1 => ?_⟩
  subst ex
  obtain ⟨n, d, ez, hd, k⟩ := k z p
  have J := I.step e1 hp1
  have hx := g3.le I.pool e1
  obtain ⟨y, hy, ry⟩ := hx.get hd
  have hn : n < es.length := (List.getElem?_eq_some_iff.mp hd).1
  have J2 := J.mut hj (hx.erase n)
  have hi2 : (ρ.set j (some (Dt.m b (es.eraseIdx n))))[i]? = some (some (.m a ds)) := by rw [List.getElem?_set_ne (Ne.symm ne)]; exact hi
  obtain ⟨v2, hv2, vs2, e2, k2, k3, k4, _, k5⟩ := J2.sl i _ hi2
  refine ⟨b, ws, z, n, y, rfl, by rw [Tp.int_inv r1], e1 _ _ g2 g5, by omega, by omega, (ixN_seq (by rw [ez, hx.length]; exact ixN_nat hn)).1, hy, ?_⟩
  refine ⟨a, vs2, y, rfl, rfl, k2, by rw [k3.length]; exact sz_lt hz, ?_⟩
  have hq : H1 b = some (.lst ws) := e1 _ _ g2 g5
  exact q _ k σ _ (J2.mut hi2 (k3.app (.cons (ry.mut hq) .nil)))
/-- left.remove(x) -/
theorem sx_remove {i : Nat} {a : Addr} {ds : List TD} {d : TD} {j : Nat} (hi : ρ[i]? = some (some (.m a ds))) (h : EV K M te ρ (.p d)) (h1 : dep d ≤ 64) (h2 : deps ds < 64) (hj : ds.findIdx? (fun z => eqT z d) = some j) (k : Po (.nx (ρ.set i (some (.m a (ds.eraseIdx j)))))) :
    SX K M (tDrop (tBM K "list" (rRemD K) (tVar i) (tCons te tNil))) ρ Po := fun B G H σ I D q => by
  obtain ⟨v, hv, vs, rfl, g2, g3, h4, _, h5⟩ := I.sl i _ hi
  refine ⟨_, hv, .inl ⟨rfl, vs, SqL.of g2⟩, h B G H σ I _ fun w H1 x ex e1 hp1 r1 => ?_⟩
  subst ex
  have J := I.step e1 hp1
  have hx := g3.le I.pool e1
  refine ⟨a, vs, w, toPD d, toPDs ds, j, rfl, rfl, e1 _ _ g2 h5, hx.dp, Tp.dp r1, shaped_td h1, ?_, ?_, q _ k σ _ (J.mut hi (hx.erase j))⟩
  · unfold SeqAt.shaped
    show (PyData.canLayAll0 (toPDs ds) && decide (PyData.depthAll (toPDs ds) + 1 ≤ 64)) = true
    rw [canLays_td, depths_td, decide_eq_true (by omega)]
    rfl
  · unfold SeqAt.dataPlace
    rw [toPDs_map, List.findIdx?_map]
    exact hj
/-- xs[a:b] of a tuple; of a list -/
theorem tpAll_cut {H : Hp} {vs : List V} {ds : List TD} (h : TpAll K H vs ds) (lo hi : Option Int) : TpAll K H (cutV vs lo hi) ((ds.drop (HT.sIx ds.length 0 lo)).take (HT.sIx ds.length ds.length hi - HT.sIx ds.length 0 lo)) := by
  unfold cutV
  rw [h.length]
  exact (h.drop _).take _
theorem ev_tail {ds : List TD} (h : EV K M te ρ (.p (.tup ds))) : EV K M (tSl (rSlA K) te (tPart (tC (.int 1))) tNoPart) ρ (.p (.tup (ds.drop 1))) := fun B G H σ I Q q =>
  h B G H σ I _ fun v H1 x ex e1 hp1 r1 => by
    subst ex
    obtain ⟨a, xs, rfl, hs, hx⟩ := Tp.tup_inv r1
    have e0 : HT.sIx xs.length 0 (some 1) = min 1 xs.length := HT.sIx_nat xs.length 0 1
    have ecut : cutV xs (some 1) none = xs.drop 1 := by
      unfold cutV
      rw [e0, HT.sIx_none]
      cases xs with
      | nil => rfl
      | cons y ys =>
        have e2 : min 1 (y :: ys).length = 1 := by rw [List.length_cons]; omega
        rw [e2]
        show List.take ((y :: ys).length - 1) ys = ys
        rw [List.length_cons, Nat.add_sub_cancel, List.take_length]
    refine ⟨1, rfl, a, xs, rfl, hs, fun hw => ?_, fun hw p hp => ?_⟩
    · have hl : xs.length = 0 := by
        have := hw.1
        rw [e0] at this
        omega
      have hd : ds.drop 1 = ds := by
        have : ds.length = 0 := by rw [← hx.length]; exact hl
        cases ds with
        | nil => rfl
        | cons _ _ => cases this
      exact q _ H1 _ rfl e1 hp1 (by rw [hd]; exact r1)
    · rw [ecut]
      exact q _ _ _ rfl (e1.trans (Le.new hp)) (hp1.new hp) (Tp.tup (SqT.of upd_same) ((hx.drop 1).le hp1 (Le.new hp)))
theorem ev_headL {ds : List TD} (h : EV K M te ρ (.l ds)) (n : Nat) (hn : ds.length ≤ n) : EV K M (tSl (rSlL K) te tNoPart (tPart (tC (.int (n : Int))))) ρ (.f ds) := fun B G H σ I Q q =>
  h B G H σ I _ fun v H1 x ex e1 hp1 r1 => by
    subst ex
    obtain ⟨a, xs, rfl, hs, hx, nm⟩ := r1
    have ecut : cutV xs none (some (n : Int)) = xs := by
      unfold cutV
      rw [HT.sIx_none, HT.sIx_nat]
      have : min n xs.length = xs.length := by have := hx.length; omega
      rw [this, Nat.sub_zero, List.drop_zero, List.take_length]
    refine ⟨(n : Int), rfl, a, xs, rfl, hs, fun p hp => ?_⟩
    rw [ecut]
    exact q _ _ _ rfl (e1.trans (Le.new hp)) (hp1.new hp) ⟨p, xs, rfl, upd_same, hx.le hp1 (Le.new hp), e1.back hp1 hp⟩
theorem tpAll_rep {H : Hp} {v : V} {d : TD} (h : Tp K H v d) : ∀ n : Nat, TpAll K H (List.replicate n [v]).flatten (List.replicate n d)
  | 0 => .nil
  | n + 1 => .cons h (tpAll_rep h n)
/-- [x] * n -/
theorem ev_rep1 {d : TD} {n : Nat} (h : EV K M ta ρ (.f [d])) (hb : EV K M tb ρ (iD (n : Int))) (hn : n ≤ 1000) : EV K M (tOp rRep ta tb) ρ (.f (List.replicate n d)) := fun B G H σ I Q q =>
  h B G H σ I _ fun v H1 x ex e1 hp1 r1 => by
    subst ex
    obtain ⟨a, xs, rfl, hs, hx, hn0⟩ := r1
    refine hb B G H1 σ (I.step e1 hp1) _ fun u H2 y ey e2 hp2 r2 => ?_
    subst ey
    have hs2 := e2 _ _ hs (I.pool.free hn0)
    have hx2 := hx.le hp1 e2
    cases hx2 with
    | @cons v1 _ _ _ k1 k2 =>
      cases k2
      refine ⟨a, (n : Int), [v1], rfl, Tp.int_inv r2, hs2, by omega, by omega, ?_, fun p hp => q _ _ _ rfl ((e1.trans e2).trans (Le.new hp)) (hp2.new hp) ⟨p, _, rfl, upd_same, ?_, (e1.trans e2).back hp2 hp⟩⟩
      · show 1 * ((n : Int)).toNat ≤ sizeLine
        rw [Int.toNat_natCast, Nat.one_mul]
        exact sz1000 hn
      · rw [Int.toNat_natCast]
        exact tpAll_rep (k1.le hp2 (Le.new hp)) n
end
theorem kit_ii : kitB "int" "int" = some true := by decide +kernel
theorem kit_ib : kitB "int" "bool" = some false := by decide +kernel
theorem kit_tt : kitB "tuple" "tuple" = some true := by decide +kernel
section
variable {K : PySem.W.Frag} {M : PM} {ρ : Ev0} {ta : TE}
theorem ev_isiI {i : Int} (ha : EV K M ta ρ (iD i)) : EV K M (tCB (rIsi K) (tCons ta (tCons (tC (.ty "int")) tNil))) ρ (bD true) := ev_isi ha kit_ii
theorem ev_isiB {i : Int} (ha : EV K M ta ρ (iD i)) : EV K M (tCB (rIsi K) (tCons ta (tCons (tC (.ty "bool")) tNil))) ρ (bD false) := ev_isi ha kit_ib
theorem ev_ix0 {a : TD} {ds : List TD} (ha : EV K M ta ρ (.p (.tup (a :: ds)))) : EV K M (tOp (rIxT K) ta (tC (.int 0))) ρ (.p a) := ev_ixT ha ev_int 0 rfl rfl
theorem ev_ix1 {a b : TD} {ds : List TD} (ha : EV K M ta ρ (.p (.tup (a :: b :: ds)))) : EV K M (tOp (rIxT K) ta (tC (.int 1))) ρ (.p b) := ev_ixT ha ev_int 1 rfl rfl
theorem ev_ix2 {a b c : TD} {ds : List TD} (ha : EV K M ta ρ (.p (.tup (a :: b :: c :: ds)))) : EV K M (tOp (rIxT K) ta (tC (.int 2))) ρ (.p c) := ev_ixT ha ev_int 2 rfl rfl
theorem ev_allM {α : Type} {xs : List α} {f : α → Bool} (ha : EV K M ta ρ (.f (xs.map fun x => TD.bl (f x)))) : EV K M (tCB (rAll K) (tCons ta tNil)) ρ (bD (xs.all f)) := by
  have h := ev_all (bs := xs.map f) (by rw [List.map_map]; exact ha)
  rw [List.all_map] at h
  exact h
theorem ev_anyM {α : Type} {xs : List α} {f : α → Bool} (ha : EV K M ta ρ (.f (xs.map fun x => TD.bl (f x)))) : EV K M (tCB (rAny K) (tCons ta tNil)) ρ (bD (xs.any f)) := by
  have h := ev_any (bs := xs.map f) (by rw [List.map_map]; exact ha)
  rw [List.any_map] at h
  exact h
theorem ev_sumM {α : Type} {xs : List α} {f : α → Int} (ha : EV K M ta ρ (.f (xs.map fun x => TD.int (f x)))) : EV K M (tCB (rSum K) (tCons ta tNil)) ρ (iD (xs.map f).sum) :=
  ev_sum (ns := xs.map f) (by rw [List.map_map]; exact ha)
theorem ev_isiT {ds : List TD} (ha : EV K M ta ρ (.p (.tup ds))) : EV K M (tCB (rIsi K) (tCons ta (tCons (tC (.ty "tuple")) tNil))) ρ (bD true) := ev_isi ha kit_tt
end
/-! ### a def of the text, its promise from its body -/
def topS (i : Nat) : Stmt := PySem.Challenge.pw_twotides_k37_whole_books_renumbered.main.body.getD i (.Pass ⟨0, 0, 0, 0⟩)
/-- where a def stands: the module's name for it -/
structure Fu (K : PySem.W.Frag) (mg : Str → Option Value) (x nm qual : Str) (st : Stmt) (ps : List Str) : Prop where
  ex : ∃ f fd, Fun K nm qual st f fd ∧ mg x = some (.ref f) ∧ Binds K fd ps []
/-- a def and its promise -/
structure Df (P : Program) (w : World) (K : PySem.W.Frag) (mg : Str → Option Value) (base : Heap) (k : Nat) (x : Str) (ps : List Str) (sp : Sp) : Prop where
  ex : ∃ f fd, FnOk P w K mg base CX0 k f fd ps sp ∧ mg x = some (.ref f) ∧ PySem.W.keepIn K (.ref f) = true ∧ Binds K fd ps []
theorem pe_callD {X : Cx} {j k : Nat} {x : Str} {ps : List Str} {sp : Sp} {e : Expr} {es : List Expr} {t : TA} {p pos : Pos} (D : Df X.prog X.w X.K X.mg X.base j x ps sp) (hr : Room k X.A) (hj : j ≤ k) (hg : Gl X x) (ha : PA X (e :: es) t)
    (hdb : (x == ("__debug__" : Str)) = false := by decide) (he : starEach (e :: es) X.env = (false, eval e X.env) :: starEach es X.env := by rfl) (hpl : (backTo pos (starEach es X.env)).any (·.1) = false := by rfl) :
    PE X (.Call (.Name x p) (e :: es) [] pos) (tCall sp [] E0 t) := by
  obtain ⟨f, fd, F, hm, kp, b⟩ := D.ex
  exact pe_call F (hr.mono hj) hg hm kp b .nil pass0 ha hdb he hpl
abbrev slots (N : List Str) (xs : List Dt) : Ev0 := xs.map some ++ List.replicate (N.length - xs.length) none
abbrev fin (R : Dt → Prop) : Res → Prop
  | .rt x => R x
  | .nx _ => R nD
  | _ => False
theorem RpAll.get {K : PySem.W.Frag} {M : PM} {H0 H : Hp} : ∀ {xs : List Dt} {vs : List V} {i : Nat} {x : Dt}, RpAll K M H0 H vs xs → xs[i]? = some x → ∃ v, vs[i]? = some v ∧ Rp K M H0 H v x
  | [], _, _, _, _, e => by simp at e
  | y :: xs, _, 0, x, h, e => by
    cases h with
    | cons h1 h2 =>
      have e1 : y = x := Option.some.inj e
      exact ⟨_, rfl, e1 ▸ h1⟩
  | y :: xs, _, i + 1, x, h, e => by
    cases h with
    | cons h1 h2 =>
      obtain ⟨v, e1, r⟩ := RpAll.get (i := i) (x := x) h2 (by simpa using e)
      exact ⟨v, by simpa using e1, r⟩
theorem RpAll.length {K : PySem.W.Frag} {M : PM} {H0 H : Hp} : ∀ {xs : List Dt} {vs : List V}, RpAll K M H0 H vs xs → vs.length = xs.length
  | [], _, h => by cases h; rfl
  | y :: xs, _, h => by
    cases h with
    | cons h1 h2 => rw [List.length_cons, List.length_cons, RpAll.length h2]
theorem slots_get {N : List Str} {xs : List Dt} {i : Nat} {x : Dt} (h : (slots N xs)[i]? = some (some x)) : xs[i]? = some x := by
  unfold slots at h
  by_cases hl : i < xs.length
  · rw [List.getElem?_append_left (by rw [List.length_map]; exact hl), List.getElem?_map] at h
    cases e : xs[i]? with
    | none => rw [e] at h; cases h
    | some y =>
      rw [e] at h
      have e2 := Option.some.inj (Option.some.inj h)
      rw [e2]
  · rw [List.getElem?_append_right (by rw [List.length_map]; omega)] at h
    rw [List.getElem?_replicate] at h
    split at h <;> cases h
theorem en_start {K : PySem.W.Frag} {M : PM} {H : Hp} {N : List Str} {xs : List Dt} {vs : List V} (hp : Pool M H) (r : RpAll K M H H vs xs) : En K M H (fun _ => none) H (L2.start N vs) (slots N xs) := by
  have hl := r.length
  refine ⟨?_, hp, Le.refl H, fun a o h => (nomatch h), fun i x h => ?_, fun i j q a b hi hj => ?_⟩
  · unfold L2.start slots
    rw [List.length_append, List.length_append, List.length_map, List.length_map, List.length_replicate, List.length_replicate, hl]
  · have hx := slots_get h
    obtain ⟨v, hv, rv⟩ := r.get hx
    refine ⟨v, ?_, ?_⟩
    · unfold L2.start
      have hi : i < vs.length := (List.getElem?_eq_some_iff.mp hv).1
      rw [List.getElem?_append_left (by rw [List.length_map]; exact hi), List.getElem?_map, hv]
      rfl
    · cases x with
      | p d => exact rv
      | l ds => exact rv
      | f ds =>
        obtain ⟨q, ws, _, h2, _, h4⟩ := rv
        rw [h2] at h4; cases h4
      | m q ds => exact rv.elim
      | o fs => exact rv
      | pool => exact rv
      | fix u => exact rv
  · obtain ⟨v, _, rv⟩ := r.get (slots_get hi)
    exact rv.elim
section
variable {P : Program} {w : World} {K : PySem.W.Frag} {mg : Str → Option Value} {base : Heap}
/-- THE RULE: a def's promise from what its body does upon data -/
theorem df_mk {x nm qual : Str} {st : Stmt} {N ps : List Str} {k : Nat} {A : Type} {args : A → List Dt} {pre : A → Prop} {res : A → Dt → Prop} (F : Fu K mg x nm qual st ps) (S : FnScope N ps (defScope st)) (hl : ∀ a : A, (args a).length = ps.length)
    (body : ∀ (f : Addr) (cdv : Value) (A' : Around) (outer : List Env) (s : Shared) (H : Hp) (E : XK), Room k (A'.deeper (envOfC qual (defScope st) s.heap.objs.size f cdv)) →
      ∃ t, PSs (cxOf CX0 P w K mg base N qual (defScope st) f cdv A' outer s H E).nox (defBody st) t ∧ ∀ (M : PM) (a : A), pre a → SX K M t (slots N (args a)) (fin (res a))) : Df P w K mg base (k + 1) x ps (spX K args pre res) := by
  obtain ⟨f, fd, F1, hm, hb⟩ := F.ex
  refine ⟨f, fd, F1.ok S (fun vs H Q E h => ?_) (fun cdv A' outer s H vs Q E hr h => ?_), hm, F1.kp, hb⟩
  · obtain ⟨a, M, _, r, _⟩ := h
    rw [r.length, hl]
  · obtain ⟨t, ht, hx⟩ := body f cdv A' outer s H E hr
    obtain ⟨a, M, hp, r, hpre, q⟩ := h
    refine ⟨t, ht, hx M a hpre H (fun _ => none) H _ (en_start hp r) _ fun o po => ?_⟩
    cases o with
    | nx ρ' => exact fun σ' H' I' => q .non H' nD po I'.kB I'.pool Tp.non
    | rt x => exact fun v H' e hp' rv => q v H' x po e hp' rv
    | bk _ => exact po.elim
    | ct _ => exact po.elim
/-! ### rules whose frag is named: for the inner part of a comprehension -/
theorem pg_tupK {X : Cx} (KK : PySem.W.Frag) {es : List Expr} {k : Nat} {pos : Pos} {t : TGs} {n : Nat} (hc : X.calm = true) (h : PGs X es t) (hK : X.K = KK := by rfl)
    (hn : (assignEach es X.env).length = n := by rfl) (hst : (assignEach es X.env).findIdx? (·.1) = none := by rfl) : PG X (.Tuple es k pos) (gTup KK n t) := hK ▸ pg_tup hc h hn hst
theorem ix_tupK {X : Cx} (KK : PySem.W.Frag) (hK : X.K = KK := by rfl) : IxR X (rIxT KK) := hK ▸ ix_tup
theorem ix_listK {X : Cx} (KK : PySem.W.Frag) (hK : X.K = KK := by rfl) : IxR X (rIxL KK) := hK ▸ ix_list
theorem ix_LTK {X : Cx} (KK : PySem.W.Frag) (hK : X.K = KK := by rfl) : IxR X (rIxLT KK) := hK ▸ ix_LT
theorem pe_fldK {X : Cx} (KK : PySem.W.Frag) {e : Expr} {f : Str} {pos : Pos} {ta : TE} (he : PE X e ta) (hb : attributeBase e f X.env (eval e X.env) = eval e X.env) (hK : X.K = KK := by rfl) : PE X (.Attribute e f pos) (tFld KK ta f) := hK ▸ pe_fld he hb
theorem op_eqDK {X : Cx} (KK : PySem.W.Frag) (hu : X.A.units + 64 < cLine) (hK : X.K = KK := by rfl) : OpR X (compareOp .Eq) (rEqD KK) := hK ▸ op_eqD hu
theorem op_neDK {X : Cx} (KK : PySem.W.Frag) (hu : X.A.units + 64 < cLine) (hK : X.K = KK := by rfl) : OpR X (compareOp .NotEq) (rNeD KK) := hK ▸ op_neD hu
theorem op_inTK {X : Cx} (KK : PySem.W.Frag) (hu : X.A.units + 65 < cLine) (hK : X.K = KK := by rfl) : OpR X (compareOp .In) (rInDT KK) := hK ▸ op_inT hu
theorem op_ltTK {X : Cx} (KK : PySem.W.Frag) (hu : X.A.units < cLine) (hK : X.K = KK := by rfl) : OpR X (compareOp .Lt) (rLtT KK) := hK ▸ op_ltT hu
theorem mt_indexK {X : Cx} (KK : PySem.W.Frag) (hK : X.K = KK := by rfl) : MtR X "list.index" (rIndex KK) := hK ▸ mt_index
theorem cr_sumK {X : Cx} (KK : PySem.W.Frag) (hc : X.calm = true) (hK : X.K = KK := by rfl) : CallR X (.builtin "sum") (rSum KK) := hK ▸ cr_sum hc
theorem call_len_seqK {X : Cx} (KK : PySem.W.Frag) (hK : X.K = KK := by rfl) : CallR X (.builtin "len") (fun xs H Q => ∃ p ys, xs = [.ref p] ∧ (SqL KK H p ys ∨ SqT KK H p ys) ∧ Q (.int ys.length) H) := hK ▸ call_len_seq
theorem call_tuple_ofK {X : Cx} (KK : PySem.W.Frag) (hK : X.K = KK := by rfl) : CallR X (.type "tuple") (fun xs H Q => ∃ p ys, xs = [.ref p] ∧ ((SqL KK H p ys ∧ ∀ l, H l = none → Q (.ref l) (upd H l (.tup ys))) ∨ (SqT KK H p ys ∧ Q (.ref p) H))) := hK ▸ call_tuple_of
theorem pe_tbmK {X : Cx} (KK : PySem.W.Frag) {e : Expr} {to : TE} {t : TA} {T : String} {r : V → List V → Hp → VK → Prop} (h : PE X e (tBM X.K T r to t)) (hK : X.K = KK := by rfl) : PE X e (tBM KK T r to t) := hK ▸ h
end
end K37
end
section
set_option Elab.async false
set_option linter.all false
set_option maxRecDepth 100000
set_option maxHeartbeats 4000000
/-! KG: enumerate of a tuple, upon data. -/
namespace K37
open PySem L2
section
variable {K : PySem.W.Frag} {M : PM} {ρ : Ev0} {ta tb tc td te tl : TE} {tt : TT} {tr : TA} {t u : TS} {Po : Res → Prop} {g : TG}
theorem wx_enumT {ds : List TD} (h : EV K M tl ρ (.p (.tup ds))) : IX K M (iEnumT K (tCons tl tNil)) ρ (fun es => es = enumD ds) noSide := fun B G H σ I R q =>
  h B G H σ I _ fun v H1 x ex e1 hp1 r1 => by
    subst ex
    obtain ⟨a, xs, rfl, hs, hx⟩ := Tp.tup_inv r1
    have J := I.step e1 hp1
    refine ⟨a, xs, rfl, hs, q _ H1 (enumD ds) (Gd H1 G) (fun H2 => Im H1 H2) rfl J.guard (Gd.sub J.kG) e1 ⟨fun i H2 hi ok => ?_, fun H2 ok => ⟨xs, sqT_im ok hs, by rw [enum_len, hx.length]⟩, fun n i H2 x H3 d hd ok hp y => ?_⟩ fun n2 H2 σ2 ρ2 J2 _ => J2.im⟩
    · rw [enum_len] at hi
      have hl : i < xs.length := by rw [hx.length]; exact hi
      exact ⟨xs, xs[i], sqT_im ok hs, List.getElem?_eq_getElem hl⟩
    · obtain ⟨T, x1, rfl, hT, rfl, y⟩ := y
      obtain ⟨e, he, rfl⟩ := enum_get hd
      obtain ⟨w, hw, rw'⟩ := hx.get he
      have := y xs (sqT_im ok hs)
      rw [hw] at this
      cases this
      exact pair_new hp hT (Tp.int _) (rw'.im ok)
theorem IX.mono {P P' : List TD → Prop} {Side : List TD → Ev0 → Prop} {wi : TI} (h : IX K M wi ρ P Side) (i : ∀ ds, P ds → P' ds) : IX K M wi ρ P' Side := fun B G H σ I R q => h B G H σ I R fun J H1 ds G' Ok p => q J H1 ds G' Ok (i ds p)
theorem wx_enumFV {ds : List TD} (h : EV K M tl ρ (.f ds)) : IX K M (iEnum K (tCons tl tNil)) ρ (fun es => es = enumD ds) noSide := (wx_enumF (P := fun y => y = ds) (h.mono fun x e => ⟨ds, e, rfl⟩)).mono fun es ⟨_, e1, e2⟩ => e1 ▸ e2
end
end K37
end
section
set_option Elab.async false
set_option linter.all false
set_option maxRecDepth 100000
set_option maxHeartbeats 4000000
/-! KP: expressions and statements that may draw. n bounds the pool's count ahead, the postcondition tells the bound behind. -/
namespace K37
open PySem L2
section
variable (K : PySem.W.Frag) (m : Option (Addr × Addr))
def EXp (te : TE) (ρ : Ev0) (n : Nat) (P : Dt → Nat → Prop) : Prop := ∀ B G H σ, En K (m, n) B G H σ ρ → ∀ Q : VK, (∀ v H' x n', P x n' → Le (m, n) H H' → Pool (m, n') H' → Rp K (m, n) H H' v x → Q v H') → te σ H Q
def EXTp (tt : TT) (ρ : Ev0) (n : Nat) (P : Bool → Nat → Prop) : Prop := ∀ B G H σ, En K (m, n) B G H σ ρ → ∀ Q : Bool → Hp → Prop, (∀ b H' n', P b n' → Le (m, n) H H' → Pool (m, n') H' → Q b H') → tt σ H Q
def EXsp (ta : TA) (ρ : Ev0) (n : Nat) (P : List Dt → Nat → Prop) : Prop := ∀ B G H σ, En K (m, n) B G H σ ρ → ∀ Q : List V → Hp → Prop, (∀ vs H' xs n', P xs n' → Le (m, n) H H' → Pool (m, n') H' → RpAll K (m, n) H H' vs xs → Q vs H') → ta σ H Q
def EXtp (ta : TA) (ρ : Ev0) (n : Nat) (P : List TD → Nat → Prop) : Prop := ∀ B G H σ, En K (m, n) B G H σ ρ → ∀ Q : List V → Hp → Prop, (∀ vs H' xs n', P xs n' → Le (m, n) H H' → Pool (m, n') H' → TpAll K H' vs xs → Q vs H') → ta σ H Q
def SXp (t : TS) (ρ : Ev0) (n : Nat) (Po : Res → Nat → Prop) : Prop := ∀ B G H σ, En K (m, n) B G H σ ρ → ∀ D : Ends, (∀ o n', Po o n' → Sat K (m, n') B G D o) → t D σ H
def GXp (g : TG) (d : TD) (ρ : Ev0) (n : Nat) (Po : Ev0 → Prop) : Prop := ∀ B G H σ v, En K (m, n) B G H σ ρ → Tp K H v d → ∀ Q : L2.St → Hp → Prop, (∀ σ' H' ρ', Po ρ' → En K (m, n) B G H' σ' ρ' → Le (m, n) H H' → Q σ' H') → g v σ H Q
def IXp (wi : TI) (ρ : Ev0) (n : Nat) (P : List TD → Nat → Prop) (Side : List TD → Ev0 → Prop) : Prop := ∀ B G H σ, En K (m, n) B G H σ ρ → ∀ R : It → Hp → Prop,
  (∀ J H1 ds n1 G' Ok, P ds n1 → En K (m, n1) B G' H1 σ ρ → (∀ a o, G a = some o → G' a = some o) → Le (m, n) H H1 → Src K (m, n1) J ds Ok → (∀ (n2 : Nat) H2 σ2 ρ2, En K (m, n2) B G' H2 σ2 ρ2 → Side ds ρ2 → Ok H2) → R J H1) → wi σ H R
end
section
variable {K : PySem.W.Frag} {m : Option (Addr × Addr)} {n n' : Nat} {ρ : Ev0} {ta tb tc te tl : TE} {tt uu : TT} {tr : TA} {t u : TS} {g : TG} {wi : TI}
theorem Pool.up {H : Hp} (h : Pool (m, n) H) (l : n ≤ n') : Pool (m, n') H := fun p c e => by
  obtain ⟨h1, ⟨s, t, h2, h3, h4, h5, h6⟩, h7⟩ := h p c e
  have h6 : t ≤ (n : Int) := h6
  exact ⟨h1, ⟨s, t, h2, h3, h4, h5, show t ≤ (n' : Int) by omega⟩, h7⟩
/-- the environment behind a step that may have drawn -/
theorem En.stepP {B G H H' : Hp} {σ : L2.St} (I : En K (m, n) B G H σ ρ) (e : Le (m, n) H H') (hp : Pool (m, n') H') : En K (m, n') B G H' σ ρ :=
  ⟨I.len, hp, I.kB.trans e, fun a o h => ⟨e a o (I.kG a o h).1 (I.kG a o h).2, (I.kG a o h).2⟩, fun i x h => let ⟨v, h1, h2⟩ := I.sl i x h; ⟨v, h1, Sl.step (M := (m, n)) I.pool e h2⟩, I.ds⟩
theorem En.up {B G H : Hp} {σ : L2.St} (I : En K (m, n) B G H σ ρ) (l : n ≤ n') : En K (m, n') B G H σ ρ := I.stepP (Le.refl H) (I.pool.up l)
theorem EX.p {P : Dt → Prop} (h : EX K (m, n) te ρ P) : EXp K m te ρ n (fun x n' => P x ∧ n' = n) := fun B G H σ I Q q => h B G H σ I Q fun v H' x px e hp r => q v H' x n ⟨px, rfl⟩ e hp r
theorem EXT.p {P : Bool → Prop} (h : EXT K (m, n) tt ρ P) : EXTp K m tt ρ n (fun x n' => P x ∧ n' = n) := fun B G H σ I Q q => h B G H σ I Q fun b H' px e hp => q b H' n ⟨px, rfl⟩ e hp
theorem SX.p {Po : Res → Prop} (h : SX K (m, n) t ρ Po) : SXp K m t ρ n (fun o n' => Po o ∧ n' = n) := fun B G H σ I D q => h B G H σ I D fun o po => q o n ⟨po, rfl⟩
theorem EXs.p {P : List Dt → Prop} (h : EXs K (m, n) tr ρ P) : EXsp K m tr ρ n (fun x n' => P x ∧ n' = n) := fun B G H σ I Q q => h B G H σ I Q fun v H' x px e hp r => q v H' x n ⟨px, rfl⟩ e hp r
theorem EXt.p {P : List TD → Prop} (h : EXt K (m, n) tr ρ P) : EXtp K m tr ρ n (fun x n' => P x ∧ n' = n) := fun B G H σ I Q q => h B G H σ I Q fun v H' x px e hp r => q v H' x n ⟨px, rfl⟩ e hp r
theorem IX.p {P : List TD → Prop} {Side : List TD → Ev0 → Prop} (h : IX K (m, n) wi ρ P Side) : IXp K m wi ρ n (fun ds n' => P ds ∧ n' = n) Side := fun B G H σ I R q => h B G H σ I R fun J H1 ds G' Ok p I1 sub e S ok => q J H1 ds n G' Ok ⟨p, rfl⟩ I1 sub e S ok
theorem EXp.mono {P P' : Dt → Nat → Prop} (h : EXp K m te ρ n P) (i : ∀ x n', P x n' → P' x n') : EXp K m te ρ n P' := fun B G H σ I Q q => h B G H σ I Q fun v H' x n' px => q v H' x n' (i x n' px)
theorem EXTp.mono {P P' : Bool → Nat → Prop} (h : EXTp K m tt ρ n P) (i : ∀ x n', P x n' → P' x n') : EXTp K m tt ρ n P' := fun B G H σ I Q q => h B G H σ I Q fun v H' n' px => q v H' n' (i v n' px)
theorem SXp.mono {P P' : Res → Nat → Prop} (h : SXp K m t ρ n P) (i : ∀ x n', P x n' → P' x n') : SXp K m t ρ n P' := fun B G H σ I D q => h B G H σ I D fun o n' po => q o n' (i o n' po)
theorem EXsp.mono' {P P' : List Dt → Nat → Prop} (h : EXsp K m tr ρ n P) (i : ∀ x n', P x n' → P' x n') : EXsp K m tr ρ n P' := fun B G H σ I Q q => h B G H σ I Q fun v H' x n' px => q v H' x n' (i x n' px)
theorem EXtp.mono' {P P' : List TD → Nat → Prop} (h : EXtp K m tr ρ n P) (i : ∀ x n', P x n' → P' x n') : EXtp K m tr ρ n P' := fun B G H σ I Q q => h B G H σ I Q fun v H' x n' px => q v H' x n' (i x n' px)
theorem IXp.mono {P P' : List TD → Nat → Prop} {Side : List TD → Ev0 → Prop} (h : IXp K m wi ρ n P Side) (i : ∀ x n', P x n' → P' x n') : IXp K m wi ρ n P' Side := fun B G H σ I R q => h B G H σ I R fun J H1 ds n1 G' Ok p => q J H1 ds n1 G' Ok (i ds n1 p)
theorem Rp.backP {H0 H1 H : Hp} {v : V} {x : Dt} {a b : Nat} (r : Rp K (m, a) H1 H v x) (hp : Pool (m, a) H1) (e : Le (m, b) H0 H1) : Rp K (m, b) H0 H v x := Rp.back (M := (m, a)) hp e r
theorem Rp.stepP {H0 H H' : Hp} {v : V} {a b c : Nat} (hp : Pool (m, a) H) (e : Le (m, b) H H') (z : Pool (m, c) H0) : ∀ {x : Dt}, Rp K (m, b) H0 H v x → Rp K (m, b) H0 H' v x
  | .p d, h => Tp.le (M := (m, a)) hp e (show Tp K H v d from h)
  | .l ds, h => by
    obtain ⟨q, vs, h1, h2, h3, h4⟩ := h
    exact ⟨q, vs, h1, sqL_le (M := (m, b)) e h4 h2, h3.le (M := (m, a)) hp e, h4⟩
  | .f ds, h => by
    obtain ⟨q, vs, h1, h2, h3, h4⟩ := h
    exact ⟨q, vs, h1, e _ _ h2 (z.free h4), h3.le (M := (m, a)) hp e, h4⟩
  | .m _ _, h => h.elim
  | .o fs, h => Ob.le (M := (m, a)) hp e (show Ob K H v fs from h)
  | .pool, h => h
  | .fix _, h => h
theorem RpAll.cv {H0 H : Hp} {a b : Nat} : ∀ {xs : List Dt} {vs : List V}, RpAll K (m, a) H0 H vs xs → RpAll K (m, b) H0 H vs xs
  | [], _, h => by cases h; exact .nil
  | x :: xs, _, h => by
    cases h with
    | cons h1 h2 => exact .cons h1 h2.cv
/-! expressions -/
theorem exp_op {r : R2} {P1 P2 : TD → Nat → Prop} {P : Dt → Nat → Prop} (ha : EXp K m ta ρ n (fun x n1 => ∃ d, x = .p d ∧ P1 d n1)) (hb : ∀ a n1, P1 a n1 → EXp K m tb ρ n1 (fun x n2 => ∃ d, x = .p d ∧ P2 d n2))
    (hr : ∀ a b n1 n2 H v u, P1 a n1 → P2 b n2 → Pool (m, n2) H → Tp K H v a → Tp K H u b → ∀ Q : VK, (∀ w H' x, P x n2 → Le (m, n2) H H' → Pool (m, n2) H' → Rp K (m, n2) H H' w x → Q w H') → r v u H Q) : EXp K m (tOp r ta tb) ρ n P := fun B G H σ I Q q =>
  ha B G H σ I _ fun v H1 x n1 ⟨a, ex, p1⟩ e1 hp1 r1 => by
    subst ex
    have J := I.stepP e1 hp1
    refine hb a n1 p1 B G H1 σ J _ fun u H2 y n2 ⟨b, ey, p2⟩ e2 hp2 r2 => ?_
    subst ey
    exact hr a b n1 n2 H2 v u p1 p2 hp2 (Tp.le (M := (m, n1)) hp1 e2 r1) r2 Q fun w H3 z pz e3 hp3 r3 => q w H3 z n2 pz (Le.trans (M := (m, n)) (Le.trans (M := (m, n)) e1 e2) e3) hp3 (r3.backP hp2 (Le.trans (M := (m, n)) e1 e2))
theorem exp_I0 {g : Int → Int → Int} {P1 P2 P : Int → Nat → Prop} (ha : EXp K m ta ρ n (fun x n1 => ∃ i, x = iD i ∧ P1 i n1)) (hb : ∀ a n1, P1 a n1 → EXp K m tb ρ n1 (fun x n2 => ∃ i, x = iD i ∧ P2 i n2)) (h : ∀ a b n1 n2, P1 a n1 → P2 b n2 → P (g a b) n2) :
    EXp K m (tOp (rI0 fun i j => .int (g i j)) ta tb) ρ n (fun x n2 => ∃ i, x = iD i ∧ P i n2) :=
  exp_op (P1 := fun d n1 => ∃ i, d = .int i ∧ P1 i n1) (P2 := fun d n1 => ∃ i, d = .int i ∧ P2 i n1) (ha.mono fun x n1 ⟨i, e, p⟩ => ⟨_, e, i, rfl, p⟩) (fun a n1 ⟨i, _, p⟩ => (hb i n1 p).mono fun x n2 ⟨i, e, p⟩ => ⟨_, e, i, rfl, p⟩) fun a b n1 n2 H v u ⟨i, ea, p1⟩ ⟨j, eb, p2⟩ hp h1 h2 Q q => by
    subst ea eb
    exact ⟨i, j, h1.int_inv, h2.int_inv, q _ H _ ⟨_, rfl, h i j n1 n2 p1 p2⟩ (Le.refl H) hp (Tp.int _)⟩
theorem exp_I {C : Int → Int → Prop} {g : Int → Int → Int} {P1 P2 P : Int → Nat → Prop} (ha : EXp K m ta ρ n (fun x n1 => ∃ i, x = iD i ∧ P1 i n1)) (hb : ∀ a n1, P1 a n1 → EXp K m tb ρ n1 (fun x n2 => ∃ i, x = iD i ∧ P2 i n2)) (h : ∀ a b n1 n2, P1 a n1 → P2 b n2 → C a b ∧ P (g a b) n2) :
    EXp K m (tOp (rI C fun i j => .int (g i j)) ta tb) ρ n (fun x n2 => ∃ i, x = iD i ∧ P i n2) :=
  exp_op (P1 := fun d n1 => ∃ i, d = .int i ∧ P1 i n1) (P2 := fun d n1 => ∃ i, d = .int i ∧ P2 i n1) (ha.mono fun x n1 ⟨i, e, p⟩ => ⟨_, e, i, rfl, p⟩) (fun a n1 ⟨i, _, p⟩ => (hb i n1 p).mono fun x n2 ⟨i, e, p⟩ => ⟨_, e, i, rfl, p⟩) fun a b n1 n2 H v u ⟨i, ea, p1⟩ ⟨j, eb, p2⟩ hp h1 h2 Q q => by
    subst ea eb
    exact ⟨i, j, h1.int_inv, h2.int_inv, (h i j n1 n2 p1 p2).1, q _ H _ ⟨_, rfl, (h i j n1 n2 p1 p2).2⟩ (Le.refl H) hp (Tp.int _)⟩
theorem exp_eqI {P1 P2 : Int → Nat → Prop} {P : Bool → Nat → Prop} (ha : EXp K m ta ρ n (fun x n1 => ∃ i, x = iD i ∧ P1 i n1)) (hb : ∀ a n1, P1 a n1 → EXp K m tb ρ n1 (fun x n2 => ∃ i, x = iD i ∧ P2 i n2)) (h : ∀ a b n1 n2, P1 a n1 → P2 b n2 → P (decide (a = b)) n2) :
    EXp K m (tOp rEq ta tb) ρ n (fun x n2 => ∃ i, x = bD i ∧ P i n2) :=
  exp_op (P1 := fun d n1 => ∃ i, d = .int i ∧ P1 i n1) (P2 := fun d n1 => ∃ i, d = .int i ∧ P2 i n1) (ha.mono fun x n1 ⟨i, e, p⟩ => ⟨_, e, i, rfl, p⟩) (fun a n1 ⟨i, _, p⟩ => (hb i n1 p).mono fun x n2 ⟨i, e, p⟩ => ⟨_, e, i, rfl, p⟩) fun a b n1 n2 H v u ⟨i, ea, p1⟩ ⟨j, eb, p2⟩ hp h1 h2 Q q => by
    subst ea eb
    rw [h1.int_inv, h2.int_inv]
    refine ⟨rfl, ?_⟩
    rw [show decide (V.int i = V.int j) = decide (i = j) by rw [dec_int]; exact Bool.beq_eq_decide_eq i j]
    exact q _ H _ ⟨_, rfl, h i j n1 n2 p1 p2⟩ (Le.refl H) hp (Tp.bl _)
theorem exp_ixL {P1 : Int → Nat → Prop} {P : TD → Nat → Prop} {ds : List TD} (ha : EV K (m, n) ta ρ (.l ds)) (hb : EXp K m tb ρ n (fun x n1 => ∃ i, x = iD i ∧ P1 i n1)) (h : ∀ i n1, P1 i n1 → ∃ j : Nat, i = (j : Int) ∧ ∃ d, ds[j]? = some d ∧ P d n1) :
    EXp K m (tOp (rIxL K) ta tb) ρ n (fun x n1 => ∃ d, x = .p d ∧ P d n1) := fun B G H σ I Q q =>
  ha B G H σ I _ fun v H1 x ex e1 hp1 r1 => by
    subst ex
    have J := I.step e1 hp1
    refine hb B G H1 σ J _ fun u H2 y n1 ⟨i, ey, p⟩ e2 hp2 r2 => ?_
    subst ey
    obtain ⟨a, vs, rfl, g2, g3, g4⟩ := r1
    obtain ⟨j, ej, d, hd, pd⟩ := h i n1 p
    obtain ⟨w, hw, rw'⟩ := (g3.le hp1 e2).get hd
    exact ⟨a, vs, i, w, rfl, Tp.int_inv r2, sqL_le e2 g4 g2, atI_of ej hw, q w H2 _ n1 ⟨d, rfl, pd⟩ (Le.trans (M := (m, n)) e1 e2) hp2 rw'⟩
theorem exp_if {P : Bool → Prop} {R : Dt → Nat → Prop} (h : EXT K (m, n) tt ρ P) (h1 : P true → EXp K m ta ρ n R) (h2 : P false → EXp K m tb ρ n R) : EXp K m (tIf tt ta tb) ρ n R := fun B G H σ I Q q =>
  h B G H σ I _ fun b H1 p e1 hp1 => by
    cases b with
    | true =>
      rw [if_pos rfl]
      exact h1 p B G H1 σ (I.step e1 hp1) Q fun v H2 x n' px e2 hp2 r2 => q v H2 x n' px (Le.trans (M := (m, n)) e1 e2) hp2 (r2.back hp1 e1)
    | false =>
      rw [if_neg Bool.false_ne_true]
      exact h2 p B G H1 σ (I.step e1 hp1) Q fun v H2 x n' px e2 hp2 r2 => q v H2 x n' px (Le.trans (M := (m, n)) e1 e2) hp2 (r2.back hp1 e1)
theorem extp_cons {P1 : TD → Nat → Prop} {P2 P : List TD → Nat → Prop} (ha : EXp K m te ρ n (fun x n1 => ∃ d, x = .p d ∧ P1 d n1)) (hr : ∀ d n1, P1 d n1 → EXtp K m tr ρ n1 P2) (h : ∀ d ds n1 n2, P1 d n1 → P2 ds n2 → P (d :: ds) n2) : EXtp K m (tCons te tr) ρ n P := fun B G H σ I Q q =>
  ha B G H σ I _ fun v H1 x n1 ⟨d, ex, p⟩ e1 hp1 r1 => by
    subst ex
    exact hr d n1 p B G H1 σ (I.stepP e1 hp1) _ fun vs H2 xs n2 px e2 hp2 r2 => q _ H2 _ n2 (h d xs n1 n2 p px) (Le.trans (M := (m, n)) e1 e2) hp2 (.cons (Tp.le (M := (m, n1)) hp1 e2 r1) r2)
theorem exp_tup {P : List TD → Nat → Prop} (h : EXtp K m tr ρ n P) (hl : ∀ ds n1, P ds n1 → ds.length ≤ 1000) : EXp K m (tTup tr) ρ n (fun x n1 => ∃ ds, x = .p (.tup ds) ∧ P ds n1) := fun B G H σ I Q q =>
  h B G H σ I _ fun vs H1 xs n1 px e1 hp1 r1 => ⟨by rw [r1.length]; exact sz1000 (hl xs n1 px), fun p hp => q _ _ _ n1 ⟨xs, rfl, px⟩ (Le.trans (M := (m, n)) e1 (Le.new hp)) (hp1.new hp) (Tp.tup (SqT.of upd_same) (r1.le hp1 (Le.new hp)))⟩
theorem exp_lst {P : List TD → Nat → Prop} (h : EXtp K m tr ρ n P) (hl : ∀ ds n1, P ds n1 → ds.length ≤ 1000) : EXp K m (tLst tr) ρ n (fun x n1 => ∃ ds, x = .f ds ∧ P ds n1) := fun B G H σ I Q q =>
  h B G H σ I _ fun vs H1 xs n1 px e1 hp1 r1 => ⟨by rw [r1.length]; exact sz1000 (hl xs n1 px), fun p hp => q _ _ _ n1 ⟨xs, rfl, px⟩ (Le.trans (M := (m, n)) e1 (Le.new hp)) (hp1.new hp) ⟨p, vs, rfl, upd_same, r1.le hp1 (Le.new hp), Le.back (M := (m, n1)) hp1 e1 hp⟩⟩
theorem exsp_cons {P1 : Dt → Nat → Prop} {P2 P : List Dt → Nat → Prop} (ha : EXp K m te ρ n P1) (hr : ∀ d n1, P1 d n1 → EXsp K m tr ρ n1 P2) (h : ∀ d ds n1 n2, P1 d n1 → P2 ds n2 → P (d :: ds) n2) : EXsp K m (tCons te tr) ρ n P := fun B G H σ I Q q =>
  ha B G H σ I _ fun v H1 x n1 px e1 hp1 r1 =>
    hr x n1 px B G H1 σ (I.stepP e1 hp1) _ fun vs H2 xs n2 px2 e2 hp2 r2 => q _ H2 _ n2 (h x xs n1 n2 px px2) (Le.trans (M := (m, n)) e1 e2) hp2 (.cons (Rp.stepP hp1 e2 I.pool r1) (RpAll.back (M := (m, n1)) hp1 e1 r2).cv)
/-! calls -/
abbrev LIM : Nat := 1000000
def spP (K : PySem.W.Frag) {A : Type} (args : A → List Dt) (pre : A → Prop) (c : Nat) (res : A → Dt → Prop) : Sp := fun vs H Q _ => ∃ (a : A) (m : Option (Addr × Addr)) (n : Nat), n + c ≤ LIM ∧ Pool (m, n) H ∧ RpAll K (m, n) H H vs (args a) ∧ pre a ∧ ∀ v H' x n', n' ≤ n + c → res a x → Le (m, n) H H' → Pool (m, n') H' → Rp K (m, n) H H' v x → Q v H'
theorem exp_call {A : Type} {args : A → List Dt} {pre : A → Prop} {c : Nat} {res : A → Dt → Prop} {E : XK} (a : A) (h : EVs K (m, n) tr ρ (args a)) (hp : pre a) (hc : n + c ≤ LIM) (hn : (args a).all nf = true := by rfl) : EXp K m (tCall (spP K args pre c res) [] E tr) ρ n (fun x n' => res a x ∧ n' ≤ n + c) := fun B G H σ I Q q =>
  h B G H σ I _ fun vs H1 xs px e1 hp1 r1 => by
    subst px
    show spP K args pre c res (vs ++ []) H1 Q E
    rw [List.append_nil]
    exact ⟨a, m, n, hc, hp1, r1.here hn, hp, fun v H2 x n' hn' rx e2 hp2 r2 => q v H2 x n' ⟨rx, hn'⟩ (e1.trans e2) hp2 (r2.back hp1 e1)⟩
/-- arguments that draw -/
theorem exp_callA {sp : Sp} {E : XK} {P : List Dt → Nat → Prop} {R : Dt → Nat → Prop} (h : EXsp K m tr ρ n P) (hs : ∀ xs n1, P xs n1 → SpOk K (m, n1) sp xs (fun x => R x n1)) (hn : ∀ xs n1, P xs n1 → xs.all nf = true) : EXp K m (tCall sp [] E tr) ρ n R := fun B G H σ I Q q =>
  h B G H σ I _ fun vs H1 xs n1 px e1 hp1 r1 => by
    show sp (vs ++ []) H1 Q E
    rw [List.append_nil]
    exact hs xs n1 px H1 vs hp1 (RpAll.here (hn xs n1 px) r1.cv) Q E fun v H2 x rx e2 hp2 r2 => q v H2 x n1 rx (Le.trans (M := (m, n)) e1 e2) hp2 (Rp.backP (b := n) r2 hp1 e1)
theorem exp_callAP {A : Type} {args : A → List Dt} {pre : A → Prop} {c : Nat} {res : A → Dt → Prop} {E : XK} {P : List Dt → Nat → Prop} {R : Dt → Nat → Prop} (h : EXsp K m tr ρ n P) (hs : ∀ xs n1, P xs n1 → ∃ a, xs = args a ∧ pre a ∧ n1 + c ≤ LIM ∧ ∀ x n2, res a x → n2 ≤ n1 + c → R x n2) (hn : ∀ xs n1, P xs n1 → xs.all nf = true) : EXp K m (tCall (spP K args pre c res) [] E tr) ρ n R := fun B G H σ I Q q =>
  h B G H σ I _ fun vs H1 xs n1 px e1 hp1 r1 => by
    show spP K args pre c res (vs ++ []) H1 Q E
    rw [List.append_nil]
    obtain ⟨a, ea, hp, hl, hR⟩ := hs xs n1 px
    exact ⟨a, m, n1, hl, hp1, ea ▸ RpAll.here (hn xs n1 px) r1.cv, hp, fun v H2 x n' hn' rx e2 hp2 r2 => q v H2 x n' (hR x n' rx hn') (Le.trans (M := (m, n)) e1 e2) hp2 (Rp.backP (b := n) r2 hp1 e1)⟩
theorem exp_test {P : Bool → Nat → Prop} (h : EXp K m te ρ n (fun x n1 => ∃ b, x = bD b ∧ P b n1)) : EXTp K m (tTest te) ρ n P := fun B G H σ I Q q =>
  h B G H σ I _ fun v H1 x n1 ⟨b, ex, pb⟩ e1 hp1 r1 => by
    subst ex
    exact ⟨b, Tp.bl_inv r1, q _ H1 n1 pb e1 hp1⟩
theorem extp_and {P1 P2 P : Bool → Nat → Prop} (h1 : EXTp K m tt ρ n P1) (h2 : ∀ n1, P1 true n1 → EXTp K m uu ρ n1 P2) (h : ∀ b n2, P2 b n2 → P b n2) (hf : ∀ n1, P1 false n1 → P false n1) : EXTp K m (tAnd tt uu) ρ n P := fun B G H σ I Q q =>
  h1 B G H σ I _ fun b H1 n1 p1 e1 hp1 => by
    cases b with
    | true =>
      rw [if_pos rfl]
      exact h2 n1 p1 B G H1 σ (I.stepP e1 hp1) Q fun b H2 n2 p2 e2 hp2 => q b H2 n2 (h b n2 p2) (Le.trans (M := (m, n)) e1 e2) hp2
    | false =>
      rw [if_neg Bool.false_ne_true]
      exact q false H1 n1 (hf n1 p1) e1 hp1
/-! statements -/
abbrev thenP (u : TS) (K : PySem.W.Frag) (m : Option (Addr × Addr)) (Po : Res → Nat → Prop) : Res → Nat → Prop
  | .nx ρ, n => SXp K m u ρ n Po
  | o, n => Po o n
theorem sxp_seq {Po : Res → Nat → Prop} (h : SXp K m t ρ n (thenP u K m Po)) : SXp K m (tSeq t u) ρ n Po := fun B G H σ I D q =>
  h B G H σ I { D with nx := u D } fun o n1 p => by
    cases o with
    | nx ρ' => exact fun σ' H' I' => (show SXp K m u ρ' n1 Po from p) B G H' σ' I' D q
    | bk ρ' => exact q (.bk ρ') n1 p
    | ct ρ' => exact q (.ct ρ') n1 p
    | rt x => exact q (.rt x) n1 p
theorem sxp_next {Po : Res → Nat → Prop} (h : Po (.nx ρ) n) : SXp K m tNext ρ n Po := fun B G H σ I D q => q (.nx ρ) n h σ H I
/-- a statement that does not draw, ahead of the rest -/
theorem sxp_seqN {Po : Res → Nat → Prop} (h : SX K (m, n) t ρ (fun o => thenP u K m Po o n)) : SXp K m (tSeq t u) ρ n Po := sxp_seq (h.p.mono fun o n' ⟨p, e⟩ => e ▸ p)
theorem sxp_of {Po : Res → Nat → Prop} (h : SX K (m, n) t ρ (fun o => Po o n)) : SXp K m t ρ n Po := h.p.mono fun o n' ⟨p, e⟩ => e ▸ p
theorem sxp_setP {Po : Res → Nat → Prop} {i : Nat} {P : TD → Nat → Prop} (h : EXp K m te ρ n (fun x n1 => ∃ d, x = .p d ∧ P d n1)) (k : ∀ d n1, P d n1 → Po (.nx (ρ.set i (some (.p d)))) n1) : SXp K m (tAsg te (gName i)) ρ n Po := fun B G H σ I D q =>
  h B G H σ I _ fun v H1 x n1 ⟨d, ex, p⟩ e1 hp1 r1 => by
    subst ex
    exact q _ n1 (k d n1 p) _ H1 ((I.stepP e1 hp1).set (x := .p d) r1 trivial)
theorem sxp_setF {Po : Res → Nat → Prop} {i : Nat} {P : List TD → Nat → Prop} (h : EXp K m te ρ n (fun x n1 => ∃ ds, x = .f ds ∧ P ds n1)) (k : ∀ q ds n1, P ds n1 → Po (.nx (ρ.set i (some (.m q ds)))) n1) : SXp K m (tAsg te (gName i)) ρ n Po := fun B G H σ I D q =>
  h B G H σ I _ fun v H1 x n1 ⟨ds, ex, p⟩ e1 hp1 r1 => by
    subst ex
    obtain ⟨a, vs, rfl, g2, g3, g4⟩ := r1
    have J := En.setF (M := (m, max n n1)) (i := i) (I.up (Nat.le_max_left n n1)) e1 (hp1.up (Nat.le_max_right n n1)) g4 g2 g3
    exact q _ n1 (k a ds n1 p) _ H1 ⟨J.len, hp1, J.kB, J.kG, J.sl, J.ds⟩
theorem sxp_ret {Po : Res → Nat → Prop} {R : Dt → Nat → Prop} (h : EXp K m te ρ n R) (k : ∀ x n1, R x n1 → Po (.rt x) n1) : SXp K m (tRet te) ρ n Po := fun B G H σ I D q =>
  h B G H σ I _ fun v H1 x n1 px e1 hp1 r1 => q _ n1 (k x n1 px) v H1 (Le.trans (M := (m, n)) I.kB e1) hp1 (Rp.back (M := (m, n)) I.pool I.kB r1)
theorem sxp_if {Po : Res → Nat → Prop} {P : Bool → Nat → Prop} (h : EXTp K m tt ρ n P) (h1 : ∀ n1, P true n1 → SXp K m t ρ n1 Po) (h2 : ∀ n1, P false n1 → SXp K m u ρ n1 Po) : SXp K m (tIfS tt t u) ρ n Po := fun B G H σ I D q =>
  h B G H σ I _ fun b H1 n1 p e1 hp1 => by
    cases b with
    | true =>
      rw [if_pos rfl]
      exact h1 n1 p B G H1 σ (I.stepP e1 hp1) D q
    | false =>
      rw [if_neg Bool.false_ne_true]
      exact h2 n1 p B G H1 σ (I.stepP e1 hp1) D q
theorem sxp_append {Po : Res → Nat → Prop} {i : Nat} {a : Addr} {ds : List TD} {P : TD → Nat → Prop} (hi : ρ[i]? = some (some (.m a ds))) (h : EXp K m te ρ n (fun x n1 => ∃ d, x = .p d ∧ P d n1)) (hz : ds.length ≤ 1000) (k : ∀ d n1, P d n1 → Po (.nx (ρ.set i (some (.m a (ds ++ [d]))))) n1) :
    SXp K m (tDrop (tBM K "list" rAppend (tVar i) (tCons te tNil))) ρ n Po := fun B G H σ I D q => by
  obtain ⟨v, hv, vs, rfl, h2, h3, h4, _, h5⟩ := I.sl i _ hi
  refine ⟨_, hv, .inl ⟨rfl, vs, SqL.of h2⟩, h B G H σ I _ fun w H1 x n1 ⟨d, ex, p⟩ e1 hp1 r1 => ?_⟩
  subst ex
  have J := I.stepP e1 hp1
  have h2' := e1 _ _ h2 h5
  refine ⟨a, vs, w, rfl, rfl, h2', by rw [h3.length]; exact sz_lt hz, ?_⟩
  exact q _ n1 (k d n1 p) σ _ (J.mut hi (TpAll.app (h3.le I.pool e1) (.cons r1 .nil)))
theorem sxp_setI {Po : Res → Nat → Prop} {i : Nat} {a : Addr} {ds : List TD} {P : TD → Nat → Prop} {P2 : Int → Nat → Prop} (hi : ρ[i]? = some (some (.m a ds))) (h : EXp K m te ρ n (fun x n1 => ∃ d, x = .p d ∧ P d n1)) (hb : ∀ d n1, P d n1 → EXp K m tb ρ n1 (fun x n2 => ∃ k, x = iD k ∧ P2 k n2))
    (k : ∀ z d n1 n2, P d n1 → P2 z n2 → ∃ j : Nat, z = (j : Int) ∧ j < ds.length ∧ Po (.nx (ρ.set i (some (.m a (ds.set j d))))) n2) : SXp K m (tAsg te (gSub (tVar i) tb rSetL)) ρ n Po := fun B G H σ I D q =>
  h B G H σ I _ fun w H1 x n1 ⟨d, ex, p⟩ e1 hp1 r1 => by
    subst ex
    have J := I.stepP e1 hp1
    obtain ⟨v, hv, vs, rfl, h2, h3, h4, _, h5⟩ := J.sl i _ hi
    refine ⟨_, hv, hb d n1 p B G H1 σ J _ fun u H2 y n2 ⟨z, ey, pz⟩ e2 hp2 r2 => ?_⟩
    subst ey
    obtain ⟨j, ez, hj, k⟩ := k z d n1 n2 p pz
    have J2 := J.stepP e2 hp2
    have hx := h3.le (M := (m, n1)) hp1 e2
    refine ⟨a, vs, z, j, rfl, Tp.int_inv r2, e2 _ _ h2 h5, by rw [ez, hx.length]; exact ixN_nat hj, ?_⟩
    exact q _ n2 k σ _ (J2.mut hi (hx.set j (Tp.le (M := (m, n1)) hp1 e2 r1)))
theorem sxp_appendPop {Po : Res → Nat → Prop} {i j : Nat} {a b : Addr} {ds es : List TD} {P : Int → Nat → Prop} (hi : ρ[i]? = some (some (.m a ds))) (hj : ρ[j]? = some (some (.m b es))) (ne : i ≠ j) (h : EXp K m te ρ n (fun x n1 => ∃ k, x = iD k ∧ P k n1)) (hz : ds.length ≤ 1000) (hz2 : es.length ≤ 1000)
    (k : ∀ z n1, P z n1 → ∃ (l : Nat) (d : TD), z = (l : Int) ∧ es[l]? = some d ∧ Po (.nx ((ρ.set j (some (.m b (es.eraseIdx l)))).set i (some (.m a (ds ++ [d]))))) n1) :
    SXp K m (tDrop (tBM K "list" rAppend (tVar i) (tCons (tBM K "list" rPopAt (tVar j) (tCons te tNil)) tNil))) ρ n Po := fun B G H σ I D q => by
  obtain ⟨v, hv, vs, rfl, h2, h3, h4, _, h5⟩ := I.sl i _ hi
  obtain ⟨v', hv', ws, rfl, g2, g3, g4, _, g5⟩ := I.sl j _ hj
  refine ⟨_, hv, .inl ⟨rfl, vs, SqL.of h2⟩, _, hv', .inl ⟨rfl, ws, SqL.of g2⟩, h B G H σ I _ fun w H1 x n1 ⟨z, ex, p⟩ e1 hp1 r1 => ?_⟩
  subst ex
  obtain ⟨l, d, ez, hd, k⟩ := k z n1 p
  have J := I.stepP e1 hp1
  have hx := g3.le I.pool e1
  obtain ⟨y, hy, ry⟩ := hx.get hd
  have hn : l < es.length := (List.getElem?_eq_some_iff.mp hd).1
  have J2 := J.mut hj (hx.erase l)
  have hi2 : (ρ.set j (some (Dt.m b (es.eraseIdx l))))[i]? = some (some (.m a ds)) := by rw [List.getElem?_set_ne (Ne.symm ne)]; exact hi
  obtain ⟨v2, hv2, vs2, e2, k2, k3, k4, _, k5⟩ := J2.sl i _ hi2
  refine ⟨b, ws, z, l, y, rfl, by rw [Tp.int_inv r1], e1 _ _ g2 g5, by omega, by omega, (ixN_seq (by rw [ez, hx.length]; exact ixN_nat hn)).1, hy, ?_⟩
  refine ⟨a, vs2, y, rfl, rfl, k2, by rw [k3.length]; exact sz_lt hz, ?_⟩
  have hq : H1 b = some (.lst ws) := e1 _ _ g2 g5
  exact q _ n1 k σ _ (J2.mut hi2 (k3.app (.cons (ry.mut hq) .nil)))
/-! loops -/
theorem ixp_rng1 {P : Int → Nat → Prop} (h : EXp K m te ρ n (fun x n1 => ∃ z, x = iD z ∧ P z n1)) (hb : ∀ z n1, P z n1 → -100000 ≤ z ∧ z ≤ 100000) : IXp K m (iRng1 (tCons te tNil)) ρ n (fun ds n1 => ∃ z, P z n1 ∧ ds = rng 0 z.toNat) noSide := fun B G H σ I R q =>
  h B G H σ I _ fun v H1 x n1 ⟨z, ex, p⟩ e1 hp1 r1 => by
    subst ex
    have hn := hb z n1 p
    exact ⟨z, by rw [Tp.int_inv r1], by omega, by omega, q _ H1 (rng 0 z.toNat) n1 G (fun _ => True) ⟨z, p, rfl⟩ (I.stepP e1 hp1) (fun _ _ z => z) e1 src_range fun _ _ _ _ _ _ => trivial⟩
theorem ixp_rng2 {k : Int} {P2 : Int → Nat → Prop} (h1 : EV K (m, n) ta ρ (iD k)) (h2 : EXp K m te ρ n (fun x n1 => ∃ z, x = iD z ∧ P2 z n1)) (hk : -100000 ≤ k ∧ k ≤ 100000) (hb : ∀ z n1, P2 z n1 → -100000 ≤ z ∧ z ≤ 100000) :
    IXp K m (iRng2 (tCons ta (tCons te tNil))) ρ n (fun ds n1 => ∃ z, P2 z n1 ∧ ds = rng k (z - k).toNat) noSide := fun B G H σ I R q =>
  h1 B G H σ I _ fun v H1 x ex e1 hp1 r1 => by
    subst ex
    refine h2 B G H1 σ (I.step e1 hp1) _ fun w H2 y n1 ⟨z, ey, p2⟩ e2 hp2 r2 => ?_
    subst ey
    have hn := hb z n1 p2
    exact ⟨k, z, by rw [Tp.int_inv r1, Tp.int_inv r2], ⟨by omega, by omega, by omega, by omega⟩, q _ H2 (rng k (z - k).toNat) n1 G (fun _ => True) ⟨z, p2, rfl⟩ ((I.step e1 hp1).stepP e2 hp2) (fun _ _ z => z) (Le.trans (M := (m, n)) e1 e2) src_range fun _ _ _ _ _ _ => trivial⟩
theorem gxp_name {i : Nat} {d : TD} {Pe : Ev0 → Prop} (h : Pe (ρ.set i (some (.p d)))) : GXp K m (gName i) d ρ n Pe := gx_name (M := (m, n)) h
abbrev loopP (N : Ev0 → Nat → Prop) (Po : Res → Nat → Prop) : Res → Nat → Prop
  | .nx ρ, n => N ρ n
  | .ct ρ, n => N ρ n
  | .bk ρ, n => Po (.nx ρ) n
  | .rt x, n => Po (.rt x) n
theorem sxp_forX {Po : Res → Nat → Prop} {P : List TD → Nat → Prop} {Side : List TD → Ev0 → Prop} (hi : IXp K m wi ρ n P Side) (Inv : List TD → Nat → Ev0 → Nat → Prop) (h0 : ∀ ds n1, P ds n1 → Inv ds 0 ρ n1) (hside : ∀ ds i ρ' n1, Inv ds i ρ' n1 → Side ds ρ')
    (hs : ∀ ds i d ρ' n2, (∃ n1, P ds n1) → ds[i]? = some d → Inv ds i ρ' n2 → GX K (m, n2) g d ρ' (fun ρ2 => SXp K m t ρ2 n2 (loopP (Inv ds (i + 1)) Po))) (hd : ∀ ds ρ' n2, (∃ n1, P ds n1) → Inv ds ds.length ρ' n2 → Po (.nx ρ') n2) : SXp K m (tFor wi g t) ρ n Po := fun B G H σ I D q =>
  hi B G H σ I _ fun J H1 ds n1 G' Ok p I1 sub _ S ok => by
    refine ⟨fun i k σ2 H2 => k = ds.length - i ∧ i ≤ ds.length ∧ ∃ ρ' n2, Inv ds i ρ' n2 ∧ En K (m, n2) B G' H2 σ2 ρ', ⟨ds.length, by simp, Nat.zero_le _, ρ, n1, h0 ds n1 p, I1⟩, ?_⟩
    rintro i k σ2 H2 ⟨rfl, hle, ρ', n2, inv, I2⟩
    have okH := ok n2 H2 σ2 ρ' I2 (hside ds i ρ' n2 inv)
    by_cases hlt : i < ds.length
    · refine .inr ⟨S.goes i H2 hlt okH, fun σ3 H3 => ∃ ρ3 n3, Inv ds (i + 1) ρ3 n3 ∧ En K (m, n3) B G' H3 σ3 ρ3, fun σ3 H3 ⟨ρ3, n3, inv3, I3⟩ => ⟨ds.length - (i + 1), by omega, rfl, hlt, ρ3, n3, inv3, I3⟩, fun x H3 y => ?_⟩
      obtain ⟨r, e, hp⟩ := S.yields n2 i H2 x H3 ds[i] (List.getElem?_eq_getElem hlt) okH I2.pool y
      refine hs ds i ds[i] ρ' n2 ⟨n1, p⟩ (List.getElem?_eq_getElem hlt) inv B G' H3 σ2 x (I2.step e hp) r _ fun σ4 H4 ρ4 s4 I4 _ => ?_
      refine s4 B G' H4 σ4 I4 _ fun o n5 po => ?_
      cases o with
      | nx ρ5 => exact fun σ5 H5 I5 => ⟨ρ5, n5, po, I5⟩
      | ct ρ5 => exact fun σ5 H5 I5 => ⟨ρ5, n5, po, I5⟩
      | bk ρ5 => exact fun σ5 H5 I5 => q (.nx ρ5) n5 po σ5 H5 (I5.unguard sub)
      | rt x => exact q (.rt x) n5 po
    · have e : i = ds.length := by omega
      subst e
      exact .inl ⟨S.stops H2 okH, q (.nx ρ') n2 (hd ds ρ' n2 ⟨n1, p⟩ inv) σ2 H2 (I2.unguard sub)⟩
theorem exp_lc {vs : List Nat} {P : List TD → Nat → Prop} {Side : List TD → Ev0 → Prop} (hi : IXp K m wi ρ n P Side) (Inv : List TD → Nat → List TD → Nat → Prop) (h0 : ∀ ds n1, P ds n1 → Inv ds 0 [] n1) (hl : ∀ ds n1, P ds n1 → ds.length ≤ 1000) (hside : ∀ ds n1, P ds n1 → Side ds ρ)
    (hs : ∀ ds i d acc n2, (∃ n1, P ds n1) → ds[i]? = some d → Inv ds i acc n2 → ∃ ρ2, LG K (m, n2) g vs ρ d ρ2 ∧ ∃ Pb : Bool → Nat → Prop, EXTp K m tt ρ2 n2 Pb ∧ (∀ n3, Pb false n3 → Inv ds (i + 1) acc n3) ∧ (∀ n3, Pb true n3 → EXp K m te ρ2 n3 (fun x n4 => ∃ e, x = .p e ∧ Inv ds (i + 1) (acc ++ [e]) n4))) :
    EXp K m (tLc wi g tt te vs) ρ n (fun x n2 => ∃ acc, x = .f acc ∧ ∃ ds, (∃ n1, P ds n1) ∧ Inv ds ds.length acc n2 ∧ acc.length ≤ ds.length) := fun B G H σ I Q q =>
  hi B G H σ I _ fun J H1 ds n1 G' Ok p I1 sub e1 S ok => fun D hD => by
    have hB : B D = none := I1.kB.back I1.pool hD
    have hG : G' D = none := I1.freshG hD
    have nm : ¬ MA (m, n1) D := I1.pool.free hD
    have hne := I1.freshNe hD
    refine ⟨fun i k H2 => k = ds.length - i ∧ i ≤ ds.length ∧ ∃ acc ws n2, Inv ds i acc n2 ∧ acc.length ≤ i ∧ H2 D = some (.lst ws) ∧ TpAll K H2 ws acc ∧ En K (m, n2) B G' H2 σ ρ ∧ Le (m, n) H1 H2,
      ⟨ds.length, by simp, Nat.zero_le _, [], [], n1, h0 ds n1 p, Nat.le_refl _, upd_same, .nil, I1.new hD, Le.new hD⟩, ?_⟩
    rintro i k H2 ⟨rfl, hle, acc, ws, n2, inv, hacc, h2, t2, I2, e2⟩
    have okH := ok n2 H2 σ ρ I2 (hside ds n1 p)
    by_cases hlt : i < ds.length
    · refine .inr ⟨S.goes i H2 hlt okH, fun H3 => ∃ acc ws n3, Inv ds (i + 1) acc n3 ∧ acc.length ≤ i + 1 ∧ H3 D = some (.lst ws) ∧ TpAll K H3 ws acc ∧ En K (m, n3) B G' H3 σ ρ ∧ Le (m, n) H1 H3, fun H3 ⟨acc, ws, n3, a1, a2, a3, a4, a5, a6⟩ => ⟨ds.length - (i + 1), by omega, rfl, hlt, acc, ws, n3, a1, a2, a3, a4, a5, a6⟩, fun x H3 y => ?_⟩
      obtain ⟨r, e3, hp3⟩ := S.yields n2 i H2 x H3 ds[i] (List.getElem?_eq_getElem hlt) okH I2.pool y
      obtain ⟨ρ2, lg, Pb, ht, hf, hT⟩ := hs ds i ds[i] acc n2 ⟨n1, p⟩ (List.getElem?_eq_getElem hlt) inv
      have I3 := I2.step e3 hp3
      refine lg B G' H3 σ x I3 r _ fun σ2 ew I3b => ⟨ew, ht B G' H3 σ2 I3b _ fun b H4 n4 pb e4 hp4 => ?_⟩
      have hD4 : H4 D = some (.lst ws) := e4 _ _ (e3 _ _ h2 nm) nm
      have t4 : TpAll K H4 ws acc := (t2.le I2.pool e3).le hp3 e4
      have I4 := I3.stepP e4 hp4
      cases b with
      | false =>
        rw [if_neg Bool.false_ne_true]
        exact ⟨acc, ws, n4, hf n4 pb, Nat.le_succ_of_le hacc, hD4, t4, I4, Le.trans (M := (m, n)) (Le.trans (M := (m, n)) e2 e3) e4⟩
      | true =>
        rw [if_pos rfl]
        refine hT n4 pb B G' H4 σ2 (I3b.stepP e4 hp4) _ fun v H5 z n5 ⟨e, ez, inv5⟩ e5 hp5 r5 => ?_
        subst ez
        have hD5 : H5 D = some (.lst ws) := e5 _ _ hD4 nm
        have t5 := t4.le (M := (m, n4)) hp4 e5
        have hz : ws.length < sizeLine := by
          rw [t5.length]
          have := hl ds n1 p
          exact sz_lt (by omega)
        refine ⟨ws, hD5, hz, acc ++ [e], ws ++ [v], n5, inv5, by rw [List.length_append]; exact Nat.succ_le_succ hacc, upd_same, (t5.app (.cons r5 .nil)).mut hD5, (I4.stepP e5 hp5).other hD5 hB hG nm hne, fun a o z nn => ?_⟩
        have ne : a ≠ D := fun e => by rw [e, hD] at z; cases z
        rw [upd_ne ne]
        exact e5 _ _ (e4 _ _ (e3 _ _ (e2 a o z nn) nn) nn) nn
    · have e : i = ds.length := by omega
      subst e
      exact .inl ⟨S.stops H2 okH, q _ H2 _ n2 ⟨acc, rfl, ds, ⟨n1, p⟩, inv, hacc⟩ (Le.trans (M := (m, n)) e1 e2) I2.pool ⟨D, ws, rfl, h2, t2, Le.back (M := (m, n1)) I1.pool e1 hD⟩⟩
end
end K37
end
section
set_option Elab.async false
set_option linter.all false
/-! MA: the plain functions. -/
namespace K37
abbrev Fr := Int × Int
def Sm (x : Int) : Prop := x.natAbs < 2 ^ 1000
def Bg (x : Int) : Prop := x.natAbs < 2 ^ 5000
theorem Sm.of {x : Int} (h : x.natAbs ≤ 1000000000) : Sm x := Nat.lt_of_le_of_lt h (Nat.lt_of_lt_of_le (by decide : 1000000000 < 2 ^ 30) (Nat.pow_le_pow_right (by decide) (by decide)))
theorem Sm.bg {x : Int} (h : Sm x) : Bg x := Nat.lt_trans h (Nat.pow_lt_pow_right (by decide) (by decide))
theorem Sm.mul {x y : Int} (h : Sm x) (g : Sm y) : (x * y).natAbs < 2 ^ 2000 := by
  rw [Int.natAbs_mul]
  exact Nat.lt_of_lt_of_eq (Nat.mul_lt_mul'' h g) (Nat.pow_add 2 1000 1000).symm
theorem Sm.mulBg {x y : Int} (h : Sm x) (g : Sm y) : Bg (x * y) := Nat.lt_trans (h.mul g) (Nat.pow_lt_pow_right (by decide) (by decide))
theorem Sm.mulOk {x y : Int} (h : Sm x) (g : Sm y) : L2.CMulW x y := L2.wide_mul h g (by decide) (by decide) (by decide)
theorem Bg.divOk {x y : Int} (h : 0 < y) (g : Bg y) : L2.CDivW x y := L2.wide_div h g (by decide) (by decide)
/-- in lowest terms -/
def mk (t b : Int) : Fr := (t / (Int.gcd t b : Int), b / (Int.gcd t b : Int))
def addF (x y : Fr) : Fr := mk (x.1 * y.2 + y.1 * x.2) (x.2 * y.2)
def subF (x y : Fr) : Fr := mk (x.1 * y.2 - y.1 * x.2) (x.2 * y.2)
def byF (x y : Fr) : Fr := mk (x.1 * y.2) (x.2 * y.1)
def below (x y : Fr) : Bool := decide (x.1 * y.2 < y.1 * x.2)
def sumF (xs : List Fr) : Fr := xs.foldl addF (0, 1)
def nextW (x : Fr) : Int := -((-x.1) / x.2)
def pog (a b : Int) : Int := if a = 0 ∨ b = 0 then max (max a b) 1 else a / (Int.gcd a b : Int) * b
def units (s : List Fr) (g : Int) : List Int := s.map fun x => nextW (mk (x.1 * g) x.2)
def partF (t w : Int) : Fr := if w = 0 then (0, 1) else mk t w
def FrOk (x : Fr) : Prop := 1 ≤ x.2 ∧ Sm x.2 ∧ Sm x.1 ∧ Int.gcd x.1 x.2 = 1
def ThOk (x : Fr) : Prop := 1 ≤ x.1 ∧ x.1 ≤ 1000000 ∧ 1 ≤ x.2 ∧ x.2 ≤ 144 ∧ Int.gcd x.1 x.2 = 1
theorem ThOk.fr {x : Fr} (h : ThOk x) : FrOk x := ⟨h.2.2.1, .of (by have := h.2.2.1; have := h.2.2.2.1; omega), .of (by have := h.1; have := h.2.1; omega), h.2.2.2.2⟩
def StOk (s : List Fr) : Prop := 1 ≤ s.length ∧ s.length ≤ 6 ∧ (∀ x ∈ s, ThOk x) ∧ ((s.zip (s.drop 1)).any fun p => below p.2 p.1) = false
/-! as data -/
abbrev eFr (x : Fr) : TD := .tup [.int x.1, .int x.2]
abbrev frD (x : Fr) : Dt := .p (eFr x)
abbrev eJ (j : Nat × Nat) : TD := .tup [.int (j.1 : Int), .int (j.2 : Int)]
abbrev eSt (s : List Fr) : TD := .tup (s.map eFr)
theorem gcd_pos {t b : Int} (h : 0 < b) : 0 < (Int.gcd t b : Int) := by
  have := Int.gcd_pos_of_ne_zero_right t (show b ≠ 0 by omega)
  omega
theorem gcd_le {t b : Int} (h : 0 < b) : (Int.gcd t b : Int) ≤ b := Int.gcd_le_right t h
theorem Bg.le {x y : Int} (h : 0 ≤ x) (hl : x ≤ y) (g : Bg y) : Bg x := Nat.lt_of_le_of_lt (by omega) g
end K37
end
section
set_option Elab.async false
set_option linter.all false
set_option maxRecDepth 100000
set_option maxHeartbeats 4000000
set_option exponentiation.threshold 10000
namespace K37
open PySem PySem.Spec PyProof.Rows L2
local macro_rules | `(tactic| walk_at "ev") => `(tactic| (repeat' (first
  | exact ev_p rfl | exact ev_m rfl | exact ev_l rfl | exact ev_o rfl | exact ev_pool rfl | exact ev_int | exact ev_bl | exact ev_non | exact evs_nil | exact evt_nil
  | apply evs_cons | apply evt_cons | apply ev_ix0 | apply ev_ix1 | apply ev_ix2
  | apply ev_I0 | apply ev_IB | apply ev_eqI | apply ev_neI | apply ev_neg | apply ev_abs
  | apply ev_lenT | apply ev_lenL | apply ev_lenF | apply ev_isN | apply ev_notN | apply et_test | apply et_B | apply et_not
  | apply ev_isiI | apply ev_isiB | apply ev_isiT | apply ev_chainI | apply ev_not | apply ev_max2 | apply ev_min2 | apply ev_max3 | apply ev_int1)))
abbrev s_is_integer : Stmt := topS 10
abbrev n_is_integer : List Str := ["thing"]
theorem sc_is_integer : FnScope n_is_integer ["thing"] (defScope s_is_integer) := ⟨rfl, rfl, rfl, by decide +kernel, rfl, by decide +kernel, by decide +kernel⟩

abbrev s_is_between : Stmt := topS 11
abbrev n_is_between : List Str := ["thing", "least", "most"]
theorem sc_is_between : FnScope n_is_between ["thing", "least", "most"] (defScope s_is_between) := ⟨rfl, rfl, rfl, by decide +kernel, rfl, by decide +kernel, by decide +kernel⟩

abbrev s_is_pair : Stmt := topS 12
abbrev n_is_pair : List Str := ["thing"]
theorem sc_is_pair : FnScope n_is_pair ["thing"] (defScope s_is_pair) := ⟨rfl, rfl, rfl, by decide +kernel, rfl, by decide +kernel, by decide +kernel⟩

abbrev s_is_triple : Stmt := topS 13
abbrev n_is_triple : List Str := ["thing"]
theorem sc_is_triple : FnScope n_is_triple ["thing"] (defScope s_is_triple) := ⟨rfl, rfl, rfl, by decide +kernel, rfl, by decide +kernel, by decide +kernel⟩

abbrev s_is_row : Stmt := topS 14
abbrev n_is_row : List Str := ["thing", "many", "item"]
theorem sc_is_row : FnScope n_is_row ["thing", "many"] (defScope s_is_row) := ⟨rfl, rfl, rfl, by decide +kernel, rfl, by decide +kernel, by decide +kernel⟩

abbrev s_divisor : Stmt := topS 17
abbrev n_divisor : List Str := ["one", "other"]
theorem sc_divisor : FnScope n_divisor ["one", "other"] (defScope s_divisor) := ⟨rfl, rfl, rfl, by decide +kernel, rfl, by decide +kernel, by decide +kernel⟩

abbrev s_multiple : Stmt := topS 18
abbrev n_multiple : List Str := ["one", "other"]
theorem sc_multiple : FnScope n_multiple ["one", "other"] (defScope s_multiple) := ⟨rfl, rfl, rfl, by decide +kernel, rfl, by decide +kernel, by decide +kernel⟩

abbrev s_made : Stmt := topS 19
abbrev n_made : List Str := ["top", "bottom", "part"]
theorem sc_made : FnScope n_made ["top", "bottom"] (defScope s_made) := ⟨rfl, rfl, rfl, by decide +kernel, rfl, by decide +kernel, by decide +kernel⟩

abbrev s_is_fraction : Stmt := topS 20
abbrev n_is_fraction : List Str := ["thing"]
theorem sc_is_fraction : FnScope n_is_fraction ["thing"] (defScope s_is_fraction) := ⟨rfl, rfl, rfl, by decide +kernel, rfl, by decide +kernel, by decide +kernel⟩

abbrev s_added : Stmt := topS 21
abbrev n_added : List Str := ["one", "other"]
theorem sc_added : FnScope n_added ["one", "other"] (defScope s_added) := ⟨rfl, rfl, rfl, by decide +kernel, rfl, by decide +kernel, by decide +kernel⟩

abbrev s_less : Stmt := topS 22
abbrev n_less : List Str := ["one", "other"]
theorem sc_less : FnScope n_less ["one", "other"] (defScope s_less) := ⟨rfl, rfl, rfl, by decide +kernel, rfl, by decide +kernel, by decide +kernel⟩

abbrev s_by : Stmt := topS 23
abbrev n_by : List Str := ["one", "other"]
theorem sc_by : FnScope n_by ["one", "other"] (defScope s_by) := ⟨rfl, rfl, rfl, by decide +kernel, rfl, by decide +kernel, by decide +kernel⟩

abbrev s_is_below : Stmt := topS 24
abbrev n_is_below : List Str := ["one", "other"]
theorem sc_is_below : FnScope n_is_below ["one", "other"] (defScope s_is_below) := ⟨rfl, rfl, rfl, by decide +kernel, rfl, by decide +kernel, by decide +kernel⟩

abbrev s_total : Stmt := topS 25
abbrev n_total : List Str := ["rows", "found", "one"]
theorem sc_total : FnScope n_total ["rows"] (defScope s_total) := ⟨rfl, rfl, rfl, by decide +kernel, rfl, by decide +kernel, by decide +kernel⟩

abbrev s_next_whole : Stmt := topS 26
abbrev n_next_whole : List Str := ["one"]
theorem sc_next_whole : FnScope n_next_whole ["one"] (defScope s_next_whole) := ⟨rfl, rfl, rfl, by decide +kernel, rfl, by decide +kernel, by decide +kernel⟩

section
variable {P : Program} {w : World} {K : PySem.W.Frag} {mg : Str → Option Value} {base : Heap}
def sp_is_integer (K : PySem.W.Frag) : Sp := spX K (A := Int) (fun n => [iD n]) (fun _ => True) (fun _ x => x = bD true)
theorem so_is_integer {M : PM} {n : Int} : SpOk K M (sp_is_integer K) [iD n] (fun x => x = bD true) := spX_ok n trivial
theorem ok_is_integer (G : Gp K mg) (F : Fu K mg "is_integer" "is_integer" "is_integer" s_is_integer ["thing"]) : Df P w K mg base 1 "is_integer" ["thing"] (sp_is_integer K) :=
  df_mk F sc_is_integer (fun _ => rfl) fun f cdv A' outer s H E hr => ⟨_, (pss_one (ps_ret (pe_and (pe_callB call_isi (by rfl) G.n_isinstance bb_isinstance (pa_cons (pv 0) (pa_cons (pe_bltn (v := .ty "int") (by rfl) G.n_int bb_int rfl) pa_nil))) (pe_one (pe_not (pe_callB call_isi (by rfl) G.n_isinstance bb_isinstance (pa_cons (pv 0) (pa_cons (pe_bltn (v := .ty "bool") (by rfl) G.n_bool bb_bool rfl) pa_nil)))))))), fun M n _ => by
    refine sx_retV (ev_andT ?_ (ev_not (a := false) ?_)) rfl
    walk_at "ev"
    walk_at "ev"⟩
def sp_is_between (K : PySem.W.Frag) : Sp := spX K (A := Int × Int × Int) (fun a => [iD a.1, iD a.2.1, iD a.2.2]) (fun _ => True) (fun a x => x = bD (decide (a.2.1 ≤ a.1) && decide (a.1 ≤ a.2.2)))
theorem so_is_between {M : PM} {a b c : Int} : SpOk K M (sp_is_between K) [iD a, iD b, iD c] (fun x => x = bD (decide (b ≤ a) && decide (a ≤ c))) := spX_ok (a, b, c) trivial
theorem ok_is_between (G : Gp K mg) (F : Fu K mg "is_between" "is_between" "is_between" s_is_between ["thing", "least", "most"]) (D_is_integer : Df P w K mg base 1 "is_integer" ["thing"] (sp_is_integer K)) :
    Df P w K mg base 2 "is_between" ["thing", "least", "most"] (sp_is_between K) :=
  df_mk F sc_is_between (fun _ => rfl) fun f cdv A' outer s H E hr => ⟨_, (pss_one (ps_ret (pe_and (pe_callD D_is_integer hr (by decide) (by rfl) (pa_cons (pv 0) pa_nil)) (pe_one (pe_chain op_le op_le (pv 1) (pv 0) (pv 2)))))), fun M a _ => by
    refine sx_retV (ev_andT (ex_call (xs := [iD a.1]) ?_ so_is_integer) ?_) rfl
    walk_at "ev"
    walk_at "ev"⟩
def sp_is_pair (K : PySem.W.Frag) : Sp := spX K (A := List TD) (fun ds => [.p (.tup ds)]) (fun ds => ds.length = 2) (fun _ x => x = bD true)
theorem so_is_pair {M : PM} {a b : TD} : SpOk K M (sp_is_pair K) [.p (.tup [a, b])] (fun x => x = bD true) := spX_ok [a, b] rfl
theorem ok_is_pair (G : Gp K mg) (F : Fu K mg "is_pair" "is_pair" "is_pair" s_is_pair ["thing"]) : Df P w K mg base 1 "is_pair" ["thing"] (sp_is_pair K) :=
  df_mk F sc_is_pair (fun _ => rfl) fun f cdv A' outer s H E hr => ⟨_, (pss_one (ps_ret (pe_and (pe_callB call_isi (by rfl) G.n_isinstance bb_isinstance (pa_cons (pv 0) (pa_cons (pe_bltn (v := .ty "tuple") (by rfl) G.n_tuple bb_tuple rfl) pa_nil))) (pe_one (pe_cmpR op_eq (pe_callB call_len_seq (by rfl) G.n_len bb_len (pa_cons (pv 0) pa_nil)) pe_int (nomark _)))))), fun M ds hd => by
    refine sx_retV (ev_andT ?_ ((ev_eqI (a := (ds.length : Int)) (b := 2) ?_ ?_).to (by rw [hd]; rfl))) rfl
    all_goals (walk_at "ev")⟩
def sp_is_triple (K : PySem.W.Frag) : Sp := spX K (A := List TD) (fun ds => [.p (.tup ds)]) (fun ds => ds.length = 3) (fun _ x => x = bD true)
theorem so_is_triple {M : PM} {a b c : TD} : SpOk K M (sp_is_triple K) [.p (.tup [a, b, c])] (fun x => x = bD true) := spX_ok [a, b, c] rfl
theorem ok_is_triple (G : Gp K mg) (F : Fu K mg "is_triple" "is_triple" "is_triple" s_is_triple ["thing"]) : Df P w K mg base 1 "is_triple" ["thing"] (sp_is_triple K) :=
  df_mk F sc_is_triple (fun _ => rfl) fun f cdv A' outer s H E hr => ⟨_, (pss_one (ps_ret (pe_and (pe_callB call_isi (by rfl) G.n_isinstance bb_isinstance (pa_cons (pv 0) (pa_cons (pe_bltn (v := .ty "tuple") (by rfl) G.n_tuple bb_tuple rfl) pa_nil))) (pe_one (pe_cmpR op_eq (pe_callB call_len_seq (by rfl) G.n_len bb_len (pa_cons (pv 0) pa_nil)) pe_int (nomark _)))))), fun M ds hd => by
    refine sx_retV (ev_andT ?_ ((ev_eqI (a := (ds.length : Int)) (b := 3) ?_ ?_).to (by rw [hd]; rfl))) rfl
    all_goals (walk_at "ev")⟩
def sp_is_row (K : PySem.W.Frag) : Sp := spX K (A := List Int × Int) (fun a => [.p (.tup (a.1.map .int)), iD a.2]) (fun a => (a.1.length : Int) = a.2 ∧ a.1.length ≤ 1000) (fun _ x => x = bD true)
theorem so_is_row {M : PM} {ns : List Int} {n : Int} (h : (ns.length : Int) = n) (hl : ns.length ≤ 1000) : SpOk K M (sp_is_row K) [.p (.tup (ns.map .int)), iD n] (fun x => x = bD true) := spX_ok (ns, n) ⟨h, hl⟩
theorem ok_is_row (G : Gp K mg) (F : Fu K mg "is_row" "is_row" "is_row" s_is_row ["thing", "many"]) (D_is_integer : Df P w K mg base 1 "is_integer" ["thing"] (sp_is_integer K)) :
    Df P w K mg base 2 "is_row" ["thing", "many"] (sp_is_row K) :=
  df_mk F sc_is_row (fun _ => rfl) fun f cdv A' outer s H E hr => ⟨_, (pss_one (ps_ret (pe_and (pe_callB call_isi (by rfl) G.n_isinstance bb_isinstance (pa_cons (pv 0) (pa_cons (pe_bltn (v := .ty "tuple") (by rfl) G.n_tuple bb_tuple rfl) pa_nil))) (pe_and (pe_cmpR op_eq (pe_callB call_len_seq (by rfl) G.n_len bb_len (pa_cons (pv 0) pa_nil)) (pv 1) (nomark _)) (pe_one (pe_callB (cr_all rfl) (by rfl) G.n_all bb_all (pa_cons (pe_lc (own := [("item", 2)]) rfl sc_is_row.nd (pi_tup (pv 0)) (blkOk_by (own := [("item", 2)]) (N := n_is_row) (sc := defScope s_is_row) (by decide +kernel)) (fun _ _ _ _ _ => (pg_name (i := 2) sc_is_row.nd rfl (Or.inl rfl))) (fun _ _ _ _ _ => pts_nil) (fun _ _ _ _ _ => (pe_callD D_is_integer hr (by decide) (by rfl) (pa_cons (pv 2) pa_nil)))) pa_nil))))))), fun M a hd => by
    refine sx_retV (ev_andT ?_ (ev_andT ((ev_eqI (a := (a.1.length : Int)) (b := a.2) ((ev_lenT (ds := a.1.map .int) ?_).to (by rw [List.length_map])) ?_).to (by rw [decide_eq_true hd.1])) ((ev_allM (xs := a.1) (f := fun _ => true) (ev_lcMap (enc := TD.int) (wx_tupV (ds := a.1.map .int) ?_) trivial hd.2 fun n hn => ex_call (xs := [iD n]) ?_ so_is_integer)).to (by rw [List.all_eq_true.mpr fun _ _ => rfl])))) rfl
    all_goals (walk_at "ev")⟩
/-! ### fractions -/
def sp_divisor (K : PySem.W.Frag) : Sp := spX K (A := Int × Int) (fun a => [iD a.1, iD a.2]) (fun _ => True) (fun a x => x = iD (Int.gcd a.1 a.2 : Int))
theorem so_divisor {M : PM} {a b : Int} : SpOk K M (sp_divisor K) [iD a, iD b] (fun x => x = iD (Int.gcd a b : Int)) := spX_ok (a, b) trivial
theorem abs_eq (a : Int) : (if a < 0 then -a else a) = (a.natAbs : Int) := by split <;> omega
theorem ok_divisor (G : Gp K mg) (F : Fu K mg "divisor" "divisor" "divisor" s_divisor ["one", "other"]) : Df P w K mg base 1 "divisor" ["one", "other"] (sp_divisor K) :=
  df_mk F sc_divisor (fun _ => rfl) fun f cdv A' outer s H E hr => ⟨_, (pss_cons (ps_par (i := 0) (j := 1) rfl sc_divisor.nd rfl rfl (by decide) rfl rfl (pa_cons (pe_callB call_abs (by rfl) G.n_abs bb_abs (pa_cons (pv 0) pa_nil)) (pa_cons (pe_callB call_abs (by rfl) G.n_abs bb_abs (pa_cons (pv 1) pa_nil)) pa_nil)) (by rfl))
  (pss_cons (ps_while PassesOwn.never (pt_cmpR op_gt (pv 1) pe_int (nomark _))
   (pss_one (ps_par (i := 0) (j := 1) rfl sc_divisor.nd rfl rfl (by decide) rfl rfl (pa_cons (pv 1) (pa_cons (pe_op op_mod (pv 0) (pv 1)) pa_nil)) (by rfl))))
  (pss_one (ps_ret (pv 0))))), fun M a _ => by
    obtain ⟨a, b⟩ := a
    refine sx_seq (sx_par (x := iD (a.natAbs : Int)) (y := iD (b.natAbs : Int)) ((ev_abs (a := a) (ev_p rfl)).to (by rw [abs_eq])) ((ev_abs (a := b) (ev_p rfl)).to (by rw [abs_eq])) ?_)
    refine sx_seq (sx_while (fun m ρ' => ∃ x y : Nat, ρ' = [some (iD x), some (iD y)] ∧ Nat.gcd x y = Int.gcd a b ∧ y = m) b.natAbs ⟨a.natAbs, b.natAbs, rfl, rfl, rfl⟩ fun m ρ' ⟨x, y, e, hg, em⟩ => ?_)
    subst e
    refine ⟨fun c => c = decide (y > 0), ?_, fun hc => ?_, fun hc => ?_⟩
    · refine (et_test (ev_IB (a := (y : Int)) (b := 0) (ev_p rfl) ev_int)).to ?_
      by_cases h : y > 0
      · rw [decide_eq_true h, decide_eq_true (by omega)]
      · rw [decide_eq_false h, decide_eq_false (by omega)]
    · have hy : y > 0 := of_decide_eq_true hc.symm
      refine sx_par (x := iD y) (y := iD ((x : Int) % (y : Int))) (ev_p rfl) (ev_I (a := (x : Int)) (b := (y : Int)) (ev_p rfl) (ev_p rfl) (by omega)) ⟨x % y, by rw [← em]; exact Nat.mod_lt _ hy, y, x % y, rfl, ?_, rfl⟩
      rw [← hg, Nat.gcd_comm x y, Nat.gcd_rec y x, Nat.gcd_comm]
    · have hy : y = 0 := by
        have := of_decide_eq_false hc.symm
        omega
      refine sx_retV (ev_p rfl) ?_
      subst hy
      rw [Nat.gcd_zero_right] at hg
      show iD (x : Int) = iD (Int.gcd a b : Int)
      rw [hg]⟩
def sp_multiple (K : PySem.W.Frag) : Sp := spX K (A := Int × Int) (fun a => [iD a.1, iD a.2]) (fun a => 0 < a.2 ∧ 0 < a.1 ∧ Sm a.1 ∧ Sm a.2) (fun a x => x = iD (a.1 / (Int.gcd a.1 a.2 : Int) * a.2))
theorem so_multiple {M : PM} {a b : Int} (h : 0 < b) (h0 : 0 < a) (h1 : Sm a) (h2 : Sm b) : SpOk K M (sp_multiple K) [iD a, iD b] (fun x => x = iD (a / (Int.gcd a b : Int) * b)) := spX_ok (a, b) ⟨h, h0, h1, h2⟩
theorem div_sm {a g : Int} (h : 0 ≤ a) (hg : 0 < g) (s : Sm a) : Sm (a / g) := by
  have h1 := Int.ediv_nonneg h (Int.le_of_lt hg)
  have h2 := Int.ediv_le_self g h
  exact Nat.lt_of_le_of_lt (by omega) s
theorem ok_multiple (G : Gp K mg) (F : Fu K mg "multiple" "multiple" "multiple" s_multiple ["one", "other"]) (D_divisor : Df P w K mg base 1 "divisor" ["one", "other"] (sp_divisor K)) :
    Df P w K mg base 2 "multiple" ["one", "other"] (sp_multiple K) :=
  df_mk F sc_multiple (fun _ => rfl) fun f cdv A' outer s H E hr => ⟨_, (pss_one (ps_ret (pe_op op_mulW (pe_op op_fdivW (pv 0) (pe_callD D_divisor hr (by decide) (by rfl) (pa_cons (pv 0) (pa_cons (pv 1) pa_nil)))) (pv 1)))), fun M a ⟨h, h0, h1, h2⟩ => by
    obtain ⟨a, b⟩ := a
    exact sx_retV (ev_I (a := a / (Int.gcd a b : Int)) (b := b) (ev_I (a := a) (b := (Int.gcd a b : Int)) (ev_p rfl) (ex_call (xs := [iD a, iD b]) (by walk_at "ev") so_divisor) (Bg.divOk (gcd_pos h) ((h2.bg).le (by omega) (gcd_le h)))) (ev_p rfl) ((div_sm (Int.le_of_lt h0) (gcd_pos h) h1).mulOk h2)) rfl⟩
def sp_made (K : PySem.W.Frag) : Sp := spX K (A := Int × Int) (fun a => [iD a.1, iD a.2]) (fun a => 0 < a.2 ∧ Bg a.2) (fun a x => x = frD (mk a.1 a.2))
theorem so_made {M : PM} {a b : Int} (h : 0 < b) (h2 : Bg b) : SpOk K M (sp_made K) [iD a, iD b] (fun x => x = frD (mk a b)) := spX_ok (a, b) ⟨h, h2⟩
theorem ok_made (G : Gp K mg) (F : Fu K mg "made" "made" "made" s_made ["top", "bottom"]) (D_divisor : Df P w K mg base 1 "divisor" ["one", "other"] (sp_divisor K)) :
    Df P w K mg base 2 "made" ["top", "bottom"] (sp_made K) :=
  df_mk F sc_made (fun _ => rfl) fun f cdv A' outer s H E hr => ⟨_, (pss_cons (ps_set (i := 2) sc_made.nd rfl (Or.inl rfl) (pe_callD D_divisor hr (by decide) (by rfl) (pa_cons (pv 0) (pa_cons (pv 1) pa_nil))))
  (pss_one (ps_ret (pe_tup (pa_cons (pe_op op_fdivW (pv 0) (pv 2)) (pa_cons (pe_op op_fdivW (pv 1) (pv 2)) pa_nil)))))), fun M a ⟨h, h2⟩ => by
    obtain ⟨a, b⟩ := a
    have hd : ∀ x, CDivW x (Int.gcd a b : Int) := fun x => Bg.divOk (gcd_pos h) (h2.le (by omega) (gcd_le h))
    refine sx_seq (sx_set (d := .int (Int.gcd a b : Int)) (ex_call (xs := [iD a, iD b]) (by walk_at "ev") so_divisor) ?_)
    exact sx_retV (ev_tup (evt_cons (ev_I (a := a) (b := (Int.gcd a b : Int)) (ev_p rfl) (ev_p rfl) (hd _)) (evt_cons (ev_I (a := b) (b := (Int.gcd a b : Int)) (ev_p rfl) (ev_p rfl) (hd _)) evt_nil))) rfl⟩
def sp_is_fraction (K : PySem.W.Frag) : Sp := spX K (A := Fr) (fun a => [frD a]) (fun a => 1 ≤ a.2 ∧ Int.gcd a.1 a.2 = 1) (fun _ x => x = bD true)
theorem so_is_fraction {M : PM} {a : Fr} (h : 1 ≤ a.2) (h2 : Int.gcd a.1 a.2 = 1) : SpOk K M (sp_is_fraction K) [frD a] (fun x => x = bD true) := spX_ok a ⟨h, h2⟩
theorem ok_is_fraction (G : Gp K mg) (F : Fu K mg "is_fraction" "is_fraction" "is_fraction" s_is_fraction ["thing"]) (D_is_integer : Df P w K mg base 1 "is_integer" ["thing"] (sp_is_integer K)) (D_is_pair : Df P w K mg base 1 "is_pair" ["thing"] (sp_is_pair K))
    (D_divisor : Df P w K mg base 1 "divisor" ["one", "other"] (sp_divisor K)) : Df P w K mg base 2 "is_fraction" ["thing"] (sp_is_fraction K) :=
  df_mk F sc_is_fraction (fun _ => rfl) fun f cdv A' outer s H E hr => ⟨_, (pss_cons (ps_if (PW.pt (pw_or (pt_not (pt_val (pe_callD D_is_pair hr (by decide) (by rfl) (pa_cons (pv 0) pa_nil)))) (pw_or (pt_not (pt_val (pe_callD D_is_integer hr (by decide) (by rfl) (pa_cons (pe_ix ix_tup (pv 0) pe_int (fun _ _ => rfl)) pa_nil)))) (pw_or (pt_not (pt_val (pe_callD D_is_integer hr (by decide) (by rfl) (pa_cons (pe_ix ix_tup (pv 0) pe_int (fun _ _ => rfl)) pa_nil)))) (pw_or1 (pt_cmpR op_lt (pe_ix ix_tup (pv 0) pe_int (fun _ _ => rfl)) pe_int (nomark _)))))))
   (pss_one (ps_ret pe_bl))
   pss_nil)
  (pss_one (ps_ret (pe_cmpR op_eq (pe_callD D_divisor hr (by decide) (by rfl) (pa_cons (pe_ix ix_tup (pv 0) pe_int (fun _ _ => rfl)) (pa_cons (pe_ix ix_tup (pv 0) pe_int (fun _ _ => rfl)) pa_nil))) pe_int (nomark _))))), fun M a ⟨h, h2⟩ => by
    obtain ⟨a, b⟩ := a
    refine sx_seq (sx_ifF (et_orF (et_not (a := true) (et_B (ex_call (xs := [frD (a, b)]) (by walk_at "ev") so_is_pair))) (et_orF (et_not (a := true) (et_B (ex_call (xs := [iD a]) (by walk_at "ev") so_is_integer))) (et_orF (et_not (a := true) (et_B (ex_call (xs := [iD b]) (by walk_at "ev") so_is_integer)))
      ((et_test (ev_IB (a := b) (b := 1) (by walk_at "ev") (by walk_at "ev"))).to (decide_eq_false (by exact Int.not_lt.mpr h)))))) (sx_next ?_))
    refine sx_retV ((ev_eqI (a := (Int.gcd a b : Int)) (b := 1) (ex_call (xs := [iD a, iD b]) (by walk_at "ev") so_divisor) ev_int).to (by rw [show (Int.gcd a b : Int) = 1 by rw [h2]; rfl]; rfl)) rfl⟩
def sp_F2 (K : PySem.W.Frag) (g : Fr → Fr → Fr) : Sp := spX K (A := Fr × Fr) (fun a => [frD a.1, frD a.2]) (fun a => 0 < a.1.2 ∧ 0 < a.2.2 ∧ Sm a.1.1 ∧ Sm a.1.2 ∧ Sm a.2.1 ∧ Sm a.2.2) (fun a x => x = frD (g a.1 a.2))
theorem so_F2 {M : PM} {g : Fr → Fr → Fr} {a b : Fr} (h1 : 0 < a.2) (h2 : 0 < b.2) (h3 : Sm a.1) (h4 : Sm a.2) (h5 : Sm b.1) (h6 : Sm b.2) : SpOk K M (sp_F2 K g) [frD a, frD b] (fun x => x = frD (g a b)) := spX_ok (a, b) ⟨h1, h2, h3, h4, h5, h6⟩
theorem ok_added (G : Gp K mg) (F : Fu K mg "added" "added" "added" s_added ["one", "other"]) (D_made : Df P w K mg base 2 "made" ["top", "bottom"] (sp_made K)) : Df P w K mg base 3 "added" ["one", "other"] (sp_F2 K addF) :=
  df_mk F sc_added (fun _ => rfl) fun f cdv A' outer s H E hr => ⟨_, (pss_one (ps_ret (pe_callD D_made hr (by decide) (by rfl) (pa_cons (pe_op op_add (pe_op op_mulW (pe_ix ix_tup (pv 0) pe_int (fun _ _ => rfl)) (pe_ix ix_tup (pv 1) pe_int (fun _ _ => rfl))) (pe_op op_mulW (pe_ix ix_tup (pv 1) pe_int (fun _ _ => rfl)) (pe_ix ix_tup (pv 0) pe_int (fun _ _ => rfl)))) (pa_cons (pe_op op_mulW (pe_ix ix_tup (pv 0) pe_int (fun _ _ => rfl)) (pe_ix ix_tup (pv 1) pe_int (fun _ _ => rfl))) pa_nil))))), fun M a ⟨h1, h2, h3, h4, h5, h6⟩ => by
    obtain ⟨⟨a, b⟩, ⟨c, d⟩⟩ := a
    refine sx_ret (ex_call (xs := [iD (a * d + c * b), iD (b * d)]) (evs_cons (ev_I0 (a := a * d) (b := c * b) (ev_I (a := a) (b := d) (by walk_at "ev") (by walk_at "ev") (Sm.mulOk h3 h6)) (ev_I (a := c) (b := b) (by walk_at "ev") (by walk_at "ev") (Sm.mulOk h5 h4))) (evs_cons (ev_I (a := b) (b := d) (by walk_at "ev") (by walk_at "ev") (Sm.mulOk h4 h6)) evs_nil)) (so_made (Int.mul_pos h1 h2) (Sm.mulBg h4 h6))) fun x e => e⟩
theorem ok_less (G : Gp K mg) (F : Fu K mg "less" "less" "less" s_less ["one", "other"]) (D_made : Df P w K mg base 2 "made" ["top", "bottom"] (sp_made K)) : Df P w K mg base 3 "less" ["one", "other"] (sp_F2 K subF) :=
  df_mk F sc_less (fun _ => rfl) fun f cdv A' outer s H E hr => ⟨_, (pss_one (ps_ret (pe_callD D_made hr (by decide) (by rfl) (pa_cons (pe_op op_sub (pe_op op_mulW (pe_ix ix_tup (pv 0) pe_int (fun _ _ => rfl)) (pe_ix ix_tup (pv 1) pe_int (fun _ _ => rfl))) (pe_op op_mulW (pe_ix ix_tup (pv 1) pe_int (fun _ _ => rfl)) (pe_ix ix_tup (pv 0) pe_int (fun _ _ => rfl)))) (pa_cons (pe_op op_mulW (pe_ix ix_tup (pv 0) pe_int (fun _ _ => rfl)) (pe_ix ix_tup (pv 1) pe_int (fun _ _ => rfl))) pa_nil))))), fun M a ⟨h1, h2, h3, h4, h5, h6⟩ => by
    obtain ⟨⟨a, b⟩, ⟨c, d⟩⟩ := a
    refine sx_ret (ex_call (xs := [iD (a * d - c * b), iD (b * d)]) (evs_cons (ev_I0 (a := a * d) (b := c * b) (ev_I (a := a) (b := d) (by walk_at "ev") (by walk_at "ev") (Sm.mulOk h3 h6)) (ev_I (a := c) (b := b) (by walk_at "ev") (by walk_at "ev") (Sm.mulOk h5 h4))) (evs_cons (ev_I (a := b) (b := d) (by walk_at "ev") (by walk_at "ev") (Sm.mulOk h4 h6)) evs_nil)) (so_made (Int.mul_pos h1 h2) (Sm.mulBg h4 h6))) fun x e => e⟩
def sp_by (K : PySem.W.Frag) : Sp := spX K (A := Fr × Fr) (fun a => [frD a.1, frD a.2]) (fun a => 0 < a.1.2 ∧ 0 < a.2.1 ∧ Sm a.1.1 ∧ Sm a.1.2 ∧ Sm a.2.1 ∧ Sm a.2.2) (fun a x => x = frD (byF a.1 a.2))
theorem so_by {M : PM} {a b : Fr} (h1 : 0 < a.2) (h2 : 0 < b.1) (h3 : Sm a.1) (h4 : Sm a.2) (h5 : Sm b.1) (h6 : Sm b.2) : SpOk K M (sp_by K) [frD a, frD b] (fun x => x = frD (byF a b)) := spX_ok (a, b) ⟨h1, h2, h3, h4, h5, h6⟩
theorem ok_by (G : Gp K mg) (F : Fu K mg "by" "by" "by" s_by ["one", "other"]) (D_made : Df P w K mg base 2 "made" ["top", "bottom"] (sp_made K)) : Df P w K mg base 3 "by" ["one", "other"] (sp_by K) :=
  df_mk F sc_by (fun _ => rfl) fun f cdv A' outer s H E hr => ⟨_, (pss_one (ps_ret (pe_callD D_made hr (by decide) (by rfl) (pa_cons (pe_op op_mulW (pe_ix ix_tup (pv 0) pe_int (fun _ _ => rfl)) (pe_ix ix_tup (pv 1) pe_int (fun _ _ => rfl))) (pa_cons (pe_op op_mulW (pe_ix ix_tup (pv 0) pe_int (fun _ _ => rfl)) (pe_ix ix_tup (pv 1) pe_int (fun _ _ => rfl))) pa_nil))))), fun M a ⟨h1, h2, h3, h4, h5, h6⟩ => by
    obtain ⟨⟨a, b⟩, ⟨c, d⟩⟩ := a
    refine sx_ret (ex_call (xs := [iD (a * d), iD (b * c)]) (evs_cons (ev_I (a := a) (b := d) (by walk_at "ev") (by walk_at "ev") (Sm.mulOk h3 h6)) (evs_cons (ev_I (a := b) (b := c) (by walk_at "ev") (by walk_at "ev") (Sm.mulOk h4 h5)) evs_nil)) (so_made (Int.mul_pos h1 h2) (Sm.mulBg h4 h5))) fun x e => e⟩
def sp_is_below (K : PySem.W.Frag) : Sp := spX K (A := Fr × Fr) (fun a => [frD a.1, frD a.2]) (fun a => Sm a.1.1 ∧ Sm a.1.2 ∧ Sm a.2.1 ∧ Sm a.2.2) (fun a x => x = bD (below a.1 a.2))
theorem so_is_below {M : PM} {a b : Fr} (h3 : Sm a.1) (h4 : Sm a.2) (h5 : Sm b.1) (h6 : Sm b.2) : SpOk K M (sp_is_below K) [frD a, frD b] (fun x => x = bD (below a b)) := spX_ok (a, b) ⟨h3, h4, h5, h6⟩
theorem ok_is_below (G : Gp K mg) (F : Fu K mg "is_below" "is_below" "is_below" s_is_below ["one", "other"]) : Df P w K mg base 1 "is_below" ["one", "other"] (sp_is_below K) :=
  df_mk F sc_is_below (fun _ => rfl) fun f cdv A' outer s H E hr => ⟨_, (pss_one (ps_ret (pe_cmpR op_lt (pe_op op_mulW (pe_ix ix_tup (pv 0) pe_int (fun _ _ => rfl)) (pe_ix ix_tup (pv 1) pe_int (fun _ _ => rfl))) (pe_op op_mulW (pe_ix ix_tup (pv 1) pe_int (fun _ _ => rfl)) (pe_ix ix_tup (pv 0) pe_int (fun _ _ => rfl))) (nomark _)))), fun M a ⟨h3, h4, h5, h6⟩ => by
    obtain ⟨⟨a, b⟩, ⟨c, d⟩⟩ := a
    exact sx_retV (ev_IB (a := a * d) (b := c * b) (ev_I (a := a) (b := d) (by walk_at "ev") (by walk_at "ev") (Sm.mulOk h3 h6)) (ev_I (a := c) (b := b) (by walk_at "ev") (by walk_at "ev") (Sm.mulOk h5 h4))) rfl⟩
def sp_next_whole (K : PySem.W.Frag) : Sp := spX K (A := Fr) (fun a => [frD a]) (fun a => 0 < a.2 ∧ Bg a.2) (fun a x => x = iD (nextW a))
theorem so_next_whole {M : PM} {a : Fr} (h1 : 0 < a.2) (h2 : Bg a.2) : SpOk K M (sp_next_whole K) [frD a] (fun x => x = iD (nextW a)) := spX_ok a ⟨h1, h2⟩
theorem ok_next_whole (G : Gp K mg) (F : Fu K mg "next_whole" "next_whole" "next_whole" s_next_whole ["one"]) : Df P w K mg base 1 "next_whole" ["one"] (sp_next_whole K) :=
  df_mk F sc_next_whole (fun _ => rfl) fun f cdv A' outer s H E hr => ⟨_, (pss_one (ps_ret (pe_un un_neg (pe_op op_fdivW (pe_un un_neg (pe_ix ix_tup (pv 0) pe_int (fun _ _ => rfl))) (pe_ix ix_tup (pv 0) pe_int (fun _ _ => rfl)))))), fun M a ⟨h1, h2⟩ => by
    obtain ⟨a, b⟩ := a
    exact sx_retV (ev_neg (ev_I (a := -a) (b := b) (ev_neg (by walk_at "ev")) (by walk_at "ev") (Bg.divOk h1 h2))) rfl⟩
end
end K37
end
section
set_option Elab.async false
set_option linter.all false
set_option maxRecDepth 100000
set_option maxHeartbeats 4000000
set_option exponentiation.threshold 10000
namespace K37
open PySem PySem.Spec PyProof.Rows L2
local macro_rules | `(tactic| walk_at "ev") => `(tactic| (repeat' (first
  | exact ev_p rfl | exact ev_m rfl | exact ev_l rfl | exact ev_o rfl | exact ev_pool rfl | exact ev_int | exact ev_bl | exact ev_non | exact evs_nil | exact evt_nil
  | apply evs_cons | apply evt_cons | apply ev_ix0 | apply ev_ix1 | apply ev_ix2
  | apply ev_I0 | apply ev_IB | apply ev_eqI | apply ev_neI | apply ev_neg | apply ev_abs
  | apply ev_lenT | apply ev_lenL | apply ev_lenF | apply ev_isN | apply ev_notN | apply et_test | apply et_B | apply et_not
  | apply ev_isiI | apply ev_isiB | apply ev_isiT | apply ev_chainI | apply ev_not | apply ev_max2 | apply ev_min2 | apply ev_max3 | apply ev_int1)))
abbrev s_is_threshold : Stmt := topS 32
abbrev n_is_threshold : List Str := ["thing"]
theorem sc_is_threshold : FnScope n_is_threshold ["thing"] (defScope s_is_threshold) := ⟨rfl, rfl, rfl, by decide +kernel, rfl, by decide +kernel, by decide +kernel⟩

abbrev s_is_list : Stmt := topS 33
abbrev n_is_list : List Str := ["thing", "item", "later"]
theorem sc_is_list : FnScope n_is_list ["thing"] (defScope s_is_list) := ⟨rfl, rfl, rfl, by decide +kernel, rfl, by decide +kernel, by decide +kernel⟩

abbrev s_is_width : Stmt := topS 34
abbrev n_is_width : List Str := ["thing"]
theorem sc_is_width : FnScope n_is_width ["thing"] (defScope s_is_width) := ⟨rfl, rfl, rfl, by decide +kernel, rfl, by decide +kernel, by decide +kernel⟩

abbrev s_parts_of_grain : Stmt := topS 35
abbrev n_parts_of_grain : List Str := ["width", "other"]
theorem sc_parts_of_grain : FnScope n_parts_of_grain ["width", "other"] (defScope s_parts_of_grain) := ⟨rfl, rfl, rfl, by decide +kernel, rfl, by decide +kernel, by decide +kernel⟩

abbrev s_in_grains : Stmt := topS 36
abbrev n_in_grains : List Str := ["steps", "grains", "step"]
theorem sc_in_grains : FnScope n_in_grains ["steps", "grains"] (defScope s_in_grains) := ⟨rfl, rfl, rfl, by decide +kernel, rfl, by decide +kernel, by decide +kernel⟩

abbrev s_part_of : Stmt := topS 37
abbrev n_part_of : List Str := ["top", "width"]
theorem sc_part_of : FnScope n_part_of ["top", "width"] (defScope s_part_of) := ⟨rfl, rfl, rfl, by decide +kernel, rfl, by decide +kernel, by decide +kernel⟩

/-- what a sum by and by asks -/
def TotOk (xs : List Fr) : Prop := (∀ i, i ≤ xs.length → 0 < (sumF (xs.take i)).2 ∧ Sm (sumF (xs.take i)).1 ∧ Sm (sumF (xs.take i)).2) ∧ ∀ x ∈ xs, 0 < x.2 ∧ Sm x.1 ∧ Sm x.2
theorem sumF_succ {xs : List Fr} {i : Nat} {x : Fr} (h : xs[i]? = some x) : sumF (xs.take (i + 1)) = addF (sumF (xs.take i)) x := by
  unfold sumF
  rw [List.take_add_one, h, List.foldl_append]
  rfl
theorem map_get {α : Type} {xs : List α} {f : α → TD} {i : Nat} {d : TD} (h : (xs.map f)[i]? = some d) : ∃ x, xs[i]? = some x ∧ d = f x ∧ x ∈ xs := by
  rw [List.getElem?_map] at h
  cases e : xs[i]? with
  | none => rw [e] at h; cases h
  | some x =>
    rw [e] at h
    exact ⟨x, rfl, (Option.some.inj h).symm, List.mem_of_getElem? e⟩
section
variable {P : Program} {w : World} {K : PySem.W.Frag} {mg : Str → Option Value} {base : Heap}
theorem ev_nought {M : PM} {ρ : Ev0} {aN : Addr} (h : ∀ H, SqT K H aN [.int 0, .int 1]) : EV K M (tC (.ref aN)) ρ (frD (0, 1)) := ev_con fun H => .tup (h H) (.cons (.int 0) (.cons (.int 1) .nil))
def sp_total (K : PySem.W.Frag) : Sp := spX K (A := List Fr) (fun xs => [.l (xs.map eFr)]) TotOk (fun xs x => x = frD (sumF xs))
theorem so_total {M : PM} {xs : List Fr} (h : TotOk xs) : SpOk K M (sp_total K) [.l (xs.map eFr)] (fun x => x = frD (sumF xs)) := spX_ok xs h
theorem ok_total (G : Gp K mg) (F : Fu K mg "total" "total" "total" s_total ["rows"]) (D_added : Df P w K mg base 3 "added" ["one", "other"] (sp_F2 K addF)) : Df P w K mg base 4 "total" ["rows"] (sp_total K) := by
  obtain ⟨aN, hNOUGHT⟩ := G.NOUGHT
  exact df_mk F sc_total (fun _ => rfl) fun f cdv A' outer s H E hr => ⟨_, (pss_cons (ps_set (i := 1) sc_total.nd rfl (Or.inl rfl) (pe_glob (v := .ref aN) rfl hNOUGHT.1 rfl))
  (pss_cons (ps_for PassesOwn.never rfl (pi_list (pv 0)) (pg_name (i := 2) sc_total.nd rfl (Or.inl rfl))
   (pss_one (ps_set (i := 1) sc_total.nd rfl (Or.inl rfl) (pe_callD D_added hr (by decide) (by rfl) (pa_cons (pv 1) (pa_cons (pv 2) pa_nil))))))
  (pss_one (ps_ret (pv 1))))), fun M xs h => by
    refine sx_seq (sx_set (ev_nought hNOUGHT.2) ?_)
    refine sx_seq (sx_for (wx_listL (s := 0) (ds := xs.map eFr) rfl) (fun i ρ' => ∃ z, ρ' = [some (.l (xs.map eFr)), some (frD (sumF (xs.take i))), z]) ⟨none, rfl⟩ (fun _ _ _ => trivial) (fun i d ρ' hd ⟨z, e⟩ => ?_) fun ρ' ⟨z, e⟩ => ?_)
    · obtain ⟨x, hx, ed, hm⟩ := map_get hd
      subst e ed
      have hi : i < xs.length := (List.getElem?_eq_some_iff.mp hx).1
      obtain ⟨a1, a2, a3⟩ := h.1 i (Nat.le_of_lt hi)
      obtain ⟨b1, b2, b3⟩ := h.2 x hm
      refine gx_name (sx_set (d := eFr (sumF (xs.take (i + 1)))) ?_ ⟨_, rfl⟩)
      rw [sumF_succ hx]
      exact ex_call (xs := [frD (sumF (xs.take i)), frD x]) (by walk_at "ev") (so_F2 a1 b1 a2 a3 b2 b3)
    · subst e
      rw [List.length_map, List.take_length]
      exact sx_retV (ev_p rfl) rfl⟩
/-! ### lists of thresholds -/
def sp_is_threshold (K : PySem.W.Frag) : Sp := spX K (A := Fr) (fun a => [frD a]) ThOk (fun _ x => x = bD true)
theorem so_is_threshold {M : PM} {a : Fr} (h : ThOk a) : SpOk K M (sp_is_threshold K) [frD a] (fun x => x = bD true) := spX_ok a h
theorem ok_is_threshold (G : Gp K mg) (F : Fu K mg "is_threshold" "is_threshold" "is_threshold" s_is_threshold ["thing"]) (D_is_fraction : Df P w K mg base 2 "is_fraction" ["thing"] (sp_is_fraction K)) : Df P w K mg base 3 "is_threshold" ["thing"] (sp_is_threshold K) :=
  df_mk F sc_is_threshold (fun _ => rfl) fun f cdv A' outer s H E hr => ⟨_, (pss_one (ps_ret (pe_and (pe_callD D_is_fraction hr (by decide) (by rfl) (pa_cons (pv 0) pa_nil)) (pe_and (pe_chain op_le op_le pe_int (pe_ix ix_tup (pv 0) pe_int (fun _ _ => rfl)) (pe_glob (v := .int 1000000) rfl (G.MOST_TOP).choose_spec ⟨_, rfl⟩)) (pe_one (pe_cmpR op_le (pe_ix ix_tup (pv 0) pe_int (fun _ _ => rfl)) (pe_glob (v := .int 144) rfl (G.MOST_BOTTOM).choose_spec ⟨_, rfl⟩) (nomark _))))))), fun M a h => by
    obtain ⟨a, b⟩ := a
    obtain ⟨h1, h2, h3, h4, h5⟩ := h
    refine sx_retV (ev_andT (ex_call (xs := [frD (a, b)]) (by walk_at "ev") (so_is_fraction h3 h5)) (ev_andT ((ev_chainI (a := 1) (b := a) (c := 1000000) ?_ ?_ ?_).to ?_) ((ev_IB (a := b) (b := 144) ?_ ?_).to ?_))) rfl
    · walk_at "ev"
    · walk_at "ev"
    · walk_at "ev"
    · rw [decide_eq_true (show (1 : Int) ≤ a from h1), decide_eq_true (show a ≤ 1000000 from h2)]; rfl
    · walk_at "ev"
    · walk_at "ev"
    · rw [decide_eq_true (show b ≤ 144 from h4)]⟩
theorem zip_map_tail {α : Type} (f : α → TD) (xs : List α) : zipD (xs.map f) ((xs.map f).drop 1) = (xs.zip (xs.drop 1)).map fun p => TD.tup [f p.1, f p.2] := by
  unfold zipD
  rw [← List.map_drop, List.zip_map, List.map_map]
  rfl
def sp_is_list (K : PySem.W.Frag) : Sp := spX K (A := List Fr) (fun s => [.p (eSt s)]) StOk (fun _ x => x = bD true)
theorem so_is_list {M : PM} {s : List Fr} (h : StOk s) : SpOk K M (sp_is_list K) [.p (eSt s)] (fun x => x = bD true) := spX_ok s h
theorem ok_is_list (G : Gp K mg) (F : Fu K mg "is_list" "is_list" "is_list" s_is_list ["thing"]) (D_is_threshold : Df P w K mg base 3 "is_threshold" ["thing"] (sp_is_threshold K)) (D_is_below : Df P w K mg base 1 "is_below" ["one", "other"] (sp_is_below K)) :
    Df P w K mg base 4 "is_list" ["thing"] (sp_is_list K) :=
  df_mk F sc_is_list (fun _ => rfl) fun f cdv A' outer s H E hr => ⟨_, (pss_cons (ps_if (PW.pt (pw_or (pt_not (pt_val (pe_callB call_isi (by rfl) G.n_isinstance bb_isinstance (pa_cons (pv 0) (pa_cons (pe_bltn (v := .ty "tuple") (by rfl) G.n_tuple bb_tuple rfl) pa_nil))))) (pw_or1 (pt_not (pt_chain op_le op_le pe_int (pe_callB call_len_seq (by rfl) G.n_len bb_len (pa_cons (pv 0) pa_nil)) (pe_glob (v := .int 6) rfl (G.MOST_THRESHOLDS).choose_spec ⟨_, rfl⟩))))))
   (pss_one (ps_ret pe_bl))
   pss_nil)
  (pss_cons (ps_if (pt_not (pt_val (pe_callB (cr_all rfl) (by rfl) G.n_all bb_all (pa_cons (pe_lc (own := [("item", 1)]) rfl sc_is_list.nd (pi_tup (pv 0)) (blkOk_by (own := [("item", 1)]) (N := n_is_list) (sc := defScope s_is_list) (by decide +kernel)) (fun _ _ _ _ _ => (pg_name (i := 1) sc_is_list.nd rfl (Or.inl rfl))) (fun _ _ _ _ _ => pts_nil) (fun _ _ _ _ _ => (pe_callD D_is_threshold hr (by decide) (by rfl) (pa_cons (pv 1) pa_nil)))) pa_nil))))
   (pss_one (ps_ret pe_bl))
   pss_nil)
  (pss_one (ps_ret (pe_not (pe_callB (cr_any rfl) (by rfl) G.n_any bb_any (pa_cons (pe_lc (own := [("item", 1), ("later", 2)]) rfl sc_is_list.nd (RZ.pi_zipA (by rfl) G.n_zip (pa_cons (pv 0) (pa_cons (pe_slice sl_tupA (pv 0) (po_some pe_int) po_none) pa_nil))) (blkOk_by (own := [("item", 1), ("later", 2)]) (N := n_is_list) (sc := defScope s_is_list) (by decide +kernel)) (fun _ _ _ _ _ => (pg_tupK K (n := 2) rfl (pgs_cons (pg_name (i := 1) sc_is_list.nd rfl (Or.inl rfl)) (pgs_cons (pg_name (i := 2) sc_is_list.nd rfl (Or.inl rfl)) pgs_nil)))) (fun _ _ _ _ _ => pts_nil) (fun _ _ _ _ _ => (pe_callD D_is_below hr (by decide) (by rfl) (pa_cons (pv 2) (pa_cons (pv 1) pa_nil))))) pa_nil))))))), fun M st h => by
    obtain ⟨h1, h2, h3, h4⟩ := h
    refine sx_seq (sx_ifF (et_orF (et_not (a := true) (et_B ?_)) (et_not (a := true) ((et_test (ev_chainI (a := 1) (b := (st.length : Int)) (c := 6) ?_ ((ev_lenT (ds := st.map eFr) ?_).to (by rw [List.length_map])) ?_)).to ?_))) (sx_next ?_))
    · walk_at "ev"
    · walk_at "ev"
    · walk_at "ev"
    · walk_at "ev"
    · rw [decide_eq_true (show (1 : Int) ≤ (st.length : Int) by omega), decide_eq_true (show (st.length : Int) ≤ 6 by omega)]; rfl
    · refine sx_seq (sx_ifF (et_not (a := true) (et_B ((ev_allM (xs := st) (f := fun _ => true) (ev_lcMap (enc := eFr) (wx_tupV (ds := st.map eFr) ?_) trivial (by omega) fun x hx => ex_call (xs := [frD x]) ?_ (so_is_threshold (h3 x hx)))).to (by rw [List.all_eq_true.mpr fun _ _ => rfl])))) (sx_next ?_))
      · walk_at "ev"
      · walk_at "ev"
      · refine sx_retV (ev_not (a := false) ((ev_anyM (xs := st.zip (st.drop 1)) (f := fun p => below p.2 p.1) ?_).to (by rw [h4]))) rfl
        have hl : (st.zip (st.drop 1)).length ≤ 1000 := by rw [List.length_zip]; omega
        refine ev_lcMap2 (Side := noSide) (xs := st.zip (st.drop 1)) (ea := fun p => eFr p.1) (eb := fun p => eFr p.2) ?_ trivial hl fun p hp => ?_
        · rw [← zip_map_tail]
          exact wx_zipT (by walk_at "ev") (ev_tail (by walk_at "ev"))
        · have m1 := h3 p.1 (List.of_mem_zip hp).1
          have m2 := h3 p.2 (List.mem_of_mem_drop (List.of_mem_zip hp).2)
          exact ex_call (xs := [frD p.2, frD p.1]) (by walk_at "ev") (so_is_below m2.fr.2.2.1 m2.fr.2.1 m1.fr.2.2.1 m1.fr.2.1)⟩
def sp_is_width (K : PySem.W.Frag) : Sp := spX K (A := Int) (fun a => [iD a]) (fun a => 0 ≤ a ∧ a ≤ 12) (fun _ x => x = bD true)
theorem so_is_width {M : PM} {a : Int} (h : 0 ≤ a) (h2 : a ≤ 12) : SpOk K M (sp_is_width K) [iD a] (fun x => x = bD true) := spX_ok a ⟨h, h2⟩
theorem ok_is_width (G : Gp K mg) (F : Fu K mg "is_width" "is_width" "is_width" s_is_width ["thing"]) (D_is_between : Df P w K mg base 2 "is_between" ["thing", "least", "most"] (sp_is_between K)) : Df P w K mg base 3 "is_width" ["thing"] (sp_is_width K) :=
  df_mk F sc_is_width (fun _ => rfl) fun f cdv A' outer s H E hr => ⟨_, (pss_one (ps_ret (pe_callD D_is_between hr (by decide) (by rfl) (pa_cons (pv 0) (pa_cons pe_int (pa_cons (pe_glob (v := .int 12) rfl (G.MOST_WIDTH).choose_spec ⟨_, rfl⟩) pa_nil)))))), fun M a h => by
    obtain ⟨h1, h2⟩ := h
    have h1' : 0 ≤ a := h1
    have h2' : a ≤ 12 := h2
    refine sx_retV (x := bD true) (EV.to (x := bD (decide (0 ≤ a) && decide (a ≤ 12))) (ex_call (xs := [iD a, iD 0, iD 12]) ?_ so_is_between) ?_) rfl
    · walk_at "ev"
    · rw [decide_eq_true h1', decide_eq_true h2']; rfl⟩
def sp_pog (K : PySem.W.Frag) : Sp := spX K (A := Int × Int) (fun a => [iD a.1, iD a.2]) (fun a => 0 ≤ a.1 ∧ a.1 ≤ 12 ∧ 0 ≤ a.2 ∧ a.2 ≤ 12) (fun a x => x = iD (pog a.1 a.2))
theorem so_pog {M : PM} {a b : Int} (h1 : 0 ≤ a) (h2 : a ≤ 12) (h3 : 0 ≤ b) (h4 : b ≤ 12) : SpOk K M (sp_pog K) [iD a, iD b] (fun x => x = iD (pog a b)) := spX_ok (a, b) ⟨h1, h2, h3, h4⟩
theorem ok_parts_of_grain (G : Gp K mg) (F : Fu K mg "parts_of_grain" "parts_of_grain" "parts_of_grain" s_parts_of_grain ["width", "other"]) (D_multiple : Df P w K mg base 2 "multiple" ["one", "other"] (sp_multiple K)) : Df P w K mg base 3 "parts_of_grain" ["width", "other"] (sp_pog K) :=
  df_mk F sc_parts_of_grain (fun _ => rfl) fun f cdv A' outer s H E hr => ⟨_, (pss_cons (ps_if (PW.pt (pw_or (pt_cmpR op_eq (pv 0) pe_int (nomark _)) (pw_or1 (pt_cmpR op_eq (pv 1) pe_int (nomark _)))))
   (pss_one (ps_ret (pe_callB (call_max3 rfl) (by rfl) G.n_max bb_max (pa_cons (pv 0) (pa_cons (pv 1) (pa_cons pe_int pa_nil))))))
   pss_nil)
  (pss_one (ps_ret (pe_callD D_multiple hr (by decide) (by rfl) (pa_cons (pv 0) (pa_cons (pv 1) pa_nil)))))), fun M a ⟨h1, h2, h3, h4⟩ => by
    obtain ⟨a, b⟩ := a
    refine sx_seq (sx_ifB (b := decide (a = 0) || decide (b = 0)) (et_or (by walk_at "ev") fun _ => by walk_at "ev") (fun hb => ?_) fun hb => sx_next ?_)
    · refine sx_retV (x := iD (max (max a b) 1)) (by walk_at "ev") ?_
      show iD _ = iD (pog a b)
      unfold pog
      rw [if_pos (by simpa using hb)]
    · have hn : ¬ (a = 0 ∨ b = 0) := by simpa using hb
      have h1' : 0 ≤ a := h1
      have h3' : 0 ≤ b := h3
      have h2' : a ≤ 12 := h2
      have h4' : b ≤ 12 := h4
      refine sx_retV (ex_call (xs := [iD a, iD b]) (by walk_at "ev") (so_multiple (by omega) (by omega) (.of (by omega)) (.of (by omega)))) ?_
      show iD _ = iD (pog a b)
      unfold pog
      rw [if_neg hn]⟩
def sp_in_grains (K : PySem.W.Frag) : Sp := spX K (A := List Fr × Int) (fun a => [.p (eSt a.1), iD a.2]) (fun a => a.1.length ≤ 1000 ∧ Sm a.2 ∧ ∀ x ∈ a.1, 0 < x.2 ∧ Sm x.1 ∧ Sm x.2) (fun a x => x = .p (.tup ((units a.1 a.2).map .int)))
theorem so_in_grains {M : PM} {s : List Fr} {g : Int} (h1 : s.length ≤ 1000) (h2 : Sm g) (h3 : ∀ x ∈ s, 0 < x.2 ∧ Sm x.1 ∧ Sm x.2) : SpOk K M (sp_in_grains K) [.p (eSt s), iD g] (fun x => x = .p (.tup ((units s g).map .int))) := spX_ok (s, g) ⟨h1, h2, h3⟩
theorem mk_snd {t b : Int} (h : 0 < b) (g : Bg b) : 0 < (mk t b).2 ∧ Bg (mk t b).2 := by
  have hg := gcd_pos (t := t) h
  have hd : (Int.gcd t b : Int) ∣ b := Int.gcd_dvd_right t b
  have h1 : 0 < b / (Int.gcd t b : Int) := Int.ediv_pos_of_pos_of_dvd h (Int.le_of_lt hg) hd
  exact ⟨h1, g.le (Int.le_of_lt h1) (Int.ediv_le_self _ (Int.le_of_lt h))⟩
theorem ok_in_grains (G : Gp K mg) (F : Fu K mg "in_grains" "in_grains" "in_grains" s_in_grains ["steps", "grains"]) (D_next_whole : Df P w K mg base 1 "next_whole" ["one"] (sp_next_whole K)) (D_made : Df P w K mg base 2 "made" ["top", "bottom"] (sp_made K)) :
    Df P w K mg base 3 "in_grains" ["steps", "grains"] (sp_in_grains K) :=
  df_mk F sc_in_grains (fun _ => rfl) fun f cdv A' outer s H E hr => ⟨_, (pss_one (ps_ret (pe_callTy call_tuple_of (by rfl) G.n_tuple bb_tuple (pa_cons (pe_lc (own := [("step", 2)]) rfl sc_in_grains.nd (pi_tup (pv 0)) (blkOk_by (own := [("step", 2)]) (N := n_in_grains) (sc := defScope s_in_grains) (by decide +kernel)) (fun _ _ _ _ _ => (pg_name (i := 2) sc_in_grains.nd rfl (Or.inl rfl))) (fun _ _ _ _ _ => pts_nil) (fun _ _ _ _ _ => (pe_callD D_next_whole hr (by decide) (by rfl) (pa_cons (pe_callD D_made hr (by decide) (by rfl) (pa_cons (pe_op op_mulW (pe_ix (ix_tupK K) (pv 2) pe_int (fun _ _ => rfl)) (pv 1)) (pa_cons (pe_ix (ix_tupK K) (pv 2) pe_int (fun _ _ => rfl)) pa_nil))) pa_nil)))) pa_nil)))), fun M a ⟨h1, h2, h3⟩ => by
    obtain ⟨st, g⟩ := a
    refine sx_retV (ev_tupF (ev_lcMap (xs := st) (enc := eFr) (h := fun x => .int (nextW (mk (x.1 * g) x.2))) (wx_tupV (ds := st.map eFr) (by walk_at "ev")) trivial h1 fun x hx => ?_)) (by show _ = Dt.p (.tup ((units st g).map TD.int)); unfold units; rw [List.map_map]; rfl)
    obtain ⟨k1, k2, k3⟩ := h3 x hx
    have k4 := mk_snd (t := x.1 * g) k1 k3.bg
    refine ex_call (xs := [frD (mk (x.1 * g) x.2)]) (evs_cons (ex_call (xs := [iD (x.1 * g), iD x.2]) (evs_cons (ev_I (a := x.1) (b := g) (by walk_at "ev") (by walk_at "ev") (k2.mulOk h2)) (evs_cons (by walk_at "ev") evs_nil)) (so_made k1 k3.bg)) evs_nil) (so_next_whole k4.1 k4.2)⟩
def sp_part_of (K : PySem.W.Frag) : Sp := spX K (A := Int × Int) (fun a => [iD a.1, iD a.2]) (fun a => 0 ≤ a.2 ∧ Bg a.2) (fun a x => x = frD (partF a.1 a.2))
theorem so_part_of {M : PM} {a b : Int} (h1 : 0 ≤ b) (h2 : Bg b) : SpOk K M (sp_part_of K) [iD a, iD b] (fun x => x = frD (partF a b)) := spX_ok (a, b) ⟨h1, h2⟩
theorem ok_part_of (G : Gp K mg) (F : Fu K mg "part_of" "part_of" "part_of" s_part_of ["top", "width"]) (D_made : Df P w K mg base 2 "made" ["top", "bottom"] (sp_made K)) : Df P w K mg base 3 "part_of" ["top", "width"] (sp_part_of K) := by
  obtain ⟨aN, hNOUGHT⟩ := G.NOUGHT
  exact df_mk F sc_part_of (fun _ => rfl) fun f cdv A' outer s H E hr => ⟨_, (pss_one (ps_ret (pe_ifExp (pt_cmpR op_eq (pv 1) pe_int (nomark _)) (pe_glob (v := .ref aN) rfl hNOUGHT.1 rfl) (pe_callD D_made hr (by decide) (by rfl) (pa_cons (pv 0) (pa_cons (pv 1) pa_nil)))))), fun M a ⟨h1, h2⟩ => by
    obtain ⟨a, b⟩ := a
    refine sx_retV (x := frD (partF a b)) (ev_if (b := decide (b = 0)) (by walk_at "ev") (fun hb => ?_) fun hb => ?_) rfl
    · have : b = 0 := of_decide_eq_true hb
      unfold partF
      rw [if_pos this]
      exact ev_nought hNOUGHT.2
    · have hn : ¬ b = 0 := of_decide_eq_false hb
      have h1' : 0 ≤ b := h1
      unfold partF
      rw [if_neg hn]
      exact ex_call (xs := [iD a, iD b]) (by walk_at "ev") (so_made (by omega) h2)⟩
end
end K37
end
section
set_option Elab.async false
set_option linter.all false
set_option maxRecDepth 100000
set_option maxHeartbeats 4000000
namespace K37
open PySem PySem.Spec PyProof.Rows L2
abbrev Jn := Nat × Nat
abbrev Kind := List Fr × List Jn
abbrev eK (k : Kind) : TD := .tup [eSt k.1, .tup (k.2.map eJ)]
structure Bk where
  ss : List Fr
  ks : List Kind
abbrev Pipe := Jn × List Fr
abbrev eP (p : Pipe) : TD := .tup [.int (p.1.1 : Int), .int (p.1.2 : Int), eSt p.2]
structure Wb where
  ws : List Int
  ps : List Pipe
abbrev bkD (b : Bk) : Dt := .o [("sorts", .tup (b.ss.map eFr)), ("kinds", .tup (b.ks.map eK))]
abbrev wbD (b : Wb) : Dt := .o [("widths", .tup (b.ws.map .int)), ("pipes", .tup (b.ps.map eP))]
abbrev eN (n : Nat) : TD := .int (n : Int)
abbrev eNs (vs : List Nat) : TD := .tup (vs.map eN)
def SortOk (s : Fr) : Prop := 0 ≤ s.1 ∧ s.1 ≤ 12 ∧ 1 ≤ s.2 ∧ s.2 ≤ 6
def SortsOk (ss : List Fr) : Prop := 1 ≤ ss.length ∧ ss.length ≤ 4 ∧ (∀ s ∈ ss, SortOk s) ∧ (ss.filter fun s => decide (s.1 = 0)).length ≤ 1
def JoinOk (ss : List Fr) (j : Jn) : Prop := ∃ a b, ss[j.1]? = some a ∧ ss[j.2]? = some b ∧ j.1 ≤ j.2 ∧ (0 < a.1 ∨ 0 < b.1)
def ltJ (a b : Jn) : Prop := a.1 < b.1 ∨ (a.1 = b.1 ∧ a.2 < b.2)
def KindOk (ss : List Fr) (k : Kind) : Prop := StOk k.1 ∧ k.2 ≠ [] ∧ k.2.length ≤ 16 ∧ (∀ j ∈ k.2, JoinOk ss j) ∧ ∀ p ∈ k.2.zip (k.2.drop 1), ltJ p.1 p.2
structure Bk.Ok (b : Bk) : Prop where
  ss : SortsOk b.ss
  len : b.ks.length ≤ 5
  ks : ∀ k ∈ b.ks, KindOk b.ss k
def mayJoin (b : Bk) (st : List Fr) (i j : Nat) : Bool := (b.ks.filter fun k => decide (k.1 = st)).any fun k => decide ((min i j, max i j) ∈ k.2)
def inc (acc : List Int) (i : Nat) : List Int := acc.set i (acc.getD i 0 + 1)
def pipesAt (n : Nat) (ps : List Pipe) : List Int := ps.foldl (fun acc p => inc (inc acc p.1.1) p.1.2) (List.replicate n 0)
theorem inc_len (acc : List Int) (i : Nat) : (inc acc i).length = acc.length := List.length_set
theorem pipesAt_len (n : Nat) (ps : List Pipe) : (pipesAt n ps).length = n := by
  unfold pipesAt
  have : ∀ (ps : List Pipe) (acc : List Int), (ps.foldl (fun acc p => inc (inc acc p.1.1) p.1.2) acc).length = acc.length := by
    intro ps
    induction ps with
    | nil => intro acc; rfl
    | cons p ps ih => intro acc; rw [List.foldl_cons, ih, inc_len, inc_len]
  rw [this, List.length_replicate]
theorem pipesAt_succ {n i : Nat} {ps : List Pipe} {p : Pipe} (h : ps[i]? = some p) : pipesAt n (ps.take (i + 1)) = inc (inc (pipesAt n (ps.take i)) p.1.1) p.1.2 := by
  unfold pipesAt
  rw [List.take_add_one, h, List.foldl_append]
  rfl
structure Wb.Ok (w : Wb) : Prop where
  len : 1 ≤ w.ws.length ∧ w.ws.length ≤ 12
  ws : ∀ x ∈ w.ws, 0 ≤ x ∧ x ≤ 12
  plen : w.ps.length ≤ 36
  ps : ∀ p ∈ w.ps, p.1.1 < p.1.2 ∧ p.1.2 < w.ws.length ∧ StOk p.2
structure Of (b : Bk) (w : Wb) (vs : List Nat) : Prop where
  len : vs.length = w.ws.length
  ws : ∀ (v s : Nat), vs[v]? = some s → ∃ c : Fr, b.ss[s]? = some c ∧ w.ws[v]? = some c.1
  cap : ∀ (v s : Nat) (c : Fr) (n : Int), vs[v]? = some s → b.ss[s]? = some c → (pipesAt w.ws.length w.ps)[v]? = some n → 0 < c.1 → n ≤ c.2
  ps : ∀ p ∈ w.ps, ∃ i j : Nat, vs[p.1.1]? = some i ∧ vs[p.1.2]? = some j ∧ mayJoin b p.2 i j = true
def FillOk (w : Wb) (fl : List Int) : Prop := fl.length = w.ws.length ∧ ∀ p ∈ fl.zip w.ws, p.1 = 0 ∨ 0 < p.2
def absI (n : Int) : Int := if n < 0 then -n else n
def runsAt (us : List Int) (n : Int) : Int := if 0 < n then ((us.filter fun u => decide (u ≤ absI n)).length : Int) else -((us.filter fun u => decide (u ≤ absI n)).length : Int)
theorem enc_j : Enc eJ 1 := enc_pair enc_nat enc_nat
theorem enc_fr : Enc eFr 1 := enc_pair enc_int enc_int
theorem enc_st : Enc eSt 2 := enc_list enc_fr
theorem enc_js : Enc (fun js : List Jn => TD.tup (js.map eJ)) 2 := enc_list enc_j
theorem zip_map2 {α β : Type} (f : α → TD) (g : β → TD) (xs : List α) (ys : List β) : zipD (xs.map f) (ys.map g) = (xs.zip ys).map fun p => TD.tup [f p.1, g p.2] := by
  unfold zipD
  rw [List.zip_map, List.map_map]
  rfl
theorem get_map {α : Type} {xs : List α} {f : α → TD} {i : Nat} {x : α} (h : xs[i]? = some x) : (xs.map f)[i]? = some (f x) := by rw [List.getElem?_map, h]; rfl
section
variable {K : PySem.W.Frag} {M : PM} {ρ : Ev0} {ta tb : TE} {tt uu : TT}
theorem ev_sorts {b : Bk} (ha : EV K M ta ρ (bkD b)) : EV K M (tFld K ta "sorts") ρ (.p (.tup (b.ss.map eFr))) := ev_fld ha (.head _)
theorem ev_kinds {b : Bk} (ha : EV K M ta ρ (bkD b)) : EV K M (tFld K ta "kinds") ρ (.p (.tup (b.ks.map eK))) := ev_fld ha (.tail _ (.head _))
theorem ev_widths {b : Wb} (ha : EV K M ta ρ (wbD b)) : EV K M (tFld K ta "widths") ρ (.p (.tup (b.ws.map .int))) := ev_fld ha (.head _)
theorem ev_pipes {b : Wb} (ha : EV K M ta ρ (wbD b)) : EV K M (tFld K ta "pipes") ρ (.p (.tup (b.ps.map eP))) := ev_fld ha (.tail _ (.head _))
theorem et_notT (h : EVT K M tt ρ true) : EVT K M (tNot tt) ρ false := et_not h
theorem ev_ixM {α : Type} {xs : List α} {f : α → TD} {n : Nat} {x : α} (ha : EV K M ta ρ (.p (.tup (xs.map f)))) (hb : EV K M tb ρ (iD (n : Int))) (h : xs[n]? = some x) : EV K M (tOp (rIxT K) ta tb) ρ (.p (f x)) := ev_ixT ha hb n rfl (get_map h)
end
local macro_rules | `(tactic| walk_at "ev") => `(tactic| (repeat' (first
  | exact ev_p rfl | exact ev_m rfl | exact ev_l rfl | exact ev_o rfl | exact ev_pool rfl | exact ev_int | exact ev_bl | exact ev_non | exact evs_nil | exact evt_nil
  | apply evs_cons | apply evt_cons | apply ev_ix0 | apply ev_ix1 | apply ev_ix2
  | apply ev_I0 | apply ev_IB | apply ev_eqI | apply ev_neI | apply ev_neg | apply ev_abs
  | apply ev_lenT | apply ev_lenL | apply ev_lenF | apply ev_isN | apply ev_notN | apply et_test | apply et_B | apply et_not
  | apply ev_isiI | apply ev_isiB | apply ev_isiT | apply ev_chainI | apply ev_not | apply ev_max2 | apply ev_min2 | apply ev_max3 | apply ev_int1 | apply ev_sorts | apply ev_kinds | apply ev_widths | apply ev_pipes)))
abbrev s_is_sort : Stmt := topS 42
abbrev n_is_sort : List Str := ["thing"]
theorem sc_is_sort : FnScope n_is_sort ["thing"] (defScope s_is_sort) := ⟨rfl, rfl, rfl, by decide +kernel, rfl, by decide +kernel, by decide +kernel⟩

abbrev s_are_sorts : Stmt := topS 43
abbrev n_are_sorts : List Str := ["thing", "item", "sort"]
theorem sc_are_sorts : FnScope n_are_sorts ["thing"] (defScope s_are_sorts) := ⟨rfl, rfl, rfl, by decide +kernel, rfl, by decide +kernel, by decide +kernel⟩

abbrev s_is_join_books : Stmt := topS 44
abbrev n_is_join_books : List Str := ["thing", "sorts"]
theorem sc_is_join_books : FnScope n_is_join_books ["thing", "sorts"] (defScope s_is_join_books) := ⟨rfl, rfl, rfl, by decide +kernel, rfl, by decide +kernel, by decide +kernel⟩

abbrev s_is_kind : Stmt := topS 46
abbrev n_is_kind : List Str := ["thing", "sorts", "item", "one", "later"]
theorem sc_is_kind : FnScope n_is_kind ["thing", "sorts"] (defScope s_is_kind) := ⟨rfl, rfl, rfl, by decide +kernel, rfl, by decide +kernel, by decide +kernel⟩

abbrev s_may_join : Stmt := topS 48
abbrev n_may_join : List Str := ["book", "steps", "one", "other", "join", "kind"]
theorem sc_may_join : FnScope n_may_join ["book", "steps", "one", "other"] (defScope s_may_join) := ⟨rfl, rfl, rfl, by decide +kernel, rfl, by decide +kernel, by decide +kernel⟩

abbrev s_pipes_at : Stmt := topS 49
abbrev n_pipes_at : List Str := ["web", "found", "one", "other", "steps"]
theorem sc_pipes_at : FnScope n_pipes_at ["web"] (defScope s_pipes_at) := ⟨rfl, rfl, rfl, by decide +kernel, rfl, by decide +kernel, by decide +kernel⟩

abbrev s_vessel_fault : Stmt := topS 50
abbrev n_vessel_fault : List Str := ["book", "web", "sorts", "vessel", "sort", "many"]
theorem sc_vessel_fault : FnScope n_vessel_fault ["book", "web", "sorts"] (defScope s_vessel_fault) := ⟨rfl, rfl, rfl, by decide +kernel, rfl, by decide +kernel, by decide +kernel⟩

abbrev s_fault : Stmt := topS 51
abbrev n_fault : List Str := ["book", "web", "sorts", "sort", "found", "number", "one", "other", "steps"]
theorem sc_fault : FnScope n_fault ["book", "web", "sorts"] (defScope s_fault) := ⟨rfl, rfl, rfl, by decide +kernel, rfl, by decide +kernel, by decide +kernel⟩

abbrev s_is_filling : Stmt := topS 53
abbrev n_is_filling : List Str := ["web", "thing", "water", "width"]
theorem sc_is_filling : FnScope n_is_filling ["web", "thing"] (defScope s_is_filling) := ⟨rfl, rfl, rfl, by decide +kernel, rfl, by decide +kernel, by decide +kernel⟩

abbrev s_check_filling : Stmt := topS 54
abbrev n_check_filling : List Str := ["web", "thing"]
theorem sc_check_filling : FnScope n_check_filling ["web", "thing"] (defScope s_check_filling) := ⟨rfl, rfl, rfl, by decide +kernel, rfl, by decide +kernel, by decide +kernel⟩

abbrev s_runs_at : Stmt := topS 55
abbrev n_runs_at : List Str := ["units", "number", "found", "unit"]
theorem sc_runs_at : FnScope n_runs_at ["units", "number"] (defScope s_runs_at) := ⟨rfl, rfl, rfl, by decide +kernel, rfl, by decide +kernel, by decide +kernel⟩

section
variable {P : Program} {w : World} {K : PySem.W.Frag} {mg : Str → Option Value} {base : Heap}
def sp_is_sort (K : PySem.W.Frag) : Sp := spX K (A := Fr) (fun a => [frD a]) SortOk (fun _ x => x = bD true)
theorem so_is_sort {M : PM} {a : Fr} (h : SortOk a) : SpOk K M (sp_is_sort K) [frD a] (fun x => x = bD true) := spX_ok a h
theorem ok_is_sort (G : Gp K mg) (F : Fu K mg "is_sort" "is_sort" "is_sort" s_is_sort ["thing"])
    (D_is_between : Df P w K mg base 2 "is_between" ["thing", "least", "most"] (sp_is_between K))
    (D_is_width : Df P w K mg base 3 "is_width" ["thing"] (sp_is_width K))
    (D_is_pair : Df P w K mg base 1 "is_pair" ["thing"] (sp_is_pair K)) : Df P w K mg base 4 "is_sort" ["thing"] (sp_is_sort K) := by
  exact df_mk F sc_is_sort (fun _ => rfl) fun f cdv A' outer s H E hr => ⟨_, (pss_one (ps_ret (pe_and (pe_callD D_is_pair hr (by decide) (by rfl) (pa_cons (pv 0) pa_nil)) (pe_and (pe_callD D_is_width hr (by decide) (by rfl) (pa_cons (pe_ix ix_tup (pv 0) pe_int (fun _ _ => rfl)) pa_nil)) (pe_one (pe_callD D_is_between hr (by decide) (by rfl) (pa_cons (pe_ix ix_tup (pv 0) pe_int (fun _ _ => rfl)) (pa_cons pe_int (pa_cons (pe_glob (v := .int 6) rfl (G.MOST_CAP).choose_spec ⟨_, rfl⟩) pa_nil))))))))), fun M a h => by
    obtain ⟨h1, h2, h3, h4⟩ := h
    refine sx_retV (x := bD true) (ev_andT (ex_call (xs := [frD a]) (by walk_at "ev") so_is_pair) (ev_andT (ex_call (xs := [iD a.1]) (by walk_at "ev") (so_is_width h1 h2)) (EV.to (x := bD (decide (1 ≤ a.2) && decide (a.2 ≤ 6))) (ex_call (xs := [iD a.2, iD 1, iD 6]) (by walk_at "ev") so_is_between) ?_))) rfl
    rw [decide_eq_true h3, decide_eq_true h4]; rfl⟩
def sp_are_sorts (K : PySem.W.Frag) : Sp := spX K (A := List Fr) (fun a => [.p (.tup (a.map eFr))]) SortsOk (fun _ x => x = bD true)
theorem so_are_sorts {M : PM} {a : List Fr} (h : SortsOk a) : SpOk K M (sp_are_sorts K) [.p (.tup (a.map eFr))] (fun x => x = bD true) := spX_ok a h
theorem ok_are_sorts (G : Gp K mg) (F : Fu K mg "are_sorts" "are_sorts" "are_sorts" s_are_sorts ["thing"])
    (D_is_sort : Df P w K mg base 4 "is_sort" ["thing"] (sp_is_sort K)) : Df P w K mg base 5 "are_sorts" ["thing"] (sp_are_sorts K) := by
  exact df_mk F sc_are_sorts (fun _ => rfl) fun f cdv A' outer s H E hr => ⟨_, (pss_cons (ps_if (PW.pt (pw_or (pt_not (pt_val (pe_callB call_isi (by rfl) G.n_isinstance bb_isinstance (pa_cons (pv 0) (pa_cons (pe_bltn (v := .ty "tuple") (by rfl) G.n_tuple bb_tuple rfl) pa_nil))))) (pw_or (pt_not (pt_chain op_le op_le pe_int (pe_callB call_len_seq (by rfl) G.n_len bb_len (pa_cons (pv 0) pa_nil)) (pe_glob (v := .int 4) rfl (G.MOST_SORTS).choose_spec ⟨_, rfl⟩))) (pw_or1 (pt_not (pt_val (pe_callB (cr_all rfl) (by rfl) G.n_all bb_all (pa_cons (pe_lc (own := [("item", 1)]) rfl sc_are_sorts.nd (pi_tup (pv 0)) (blkOk_by (own := [("item", 1)]) (N := n_are_sorts) (sc := defScope s_are_sorts) (by decide +kernel)) (fun _ _ _ _ _ => (pg_name (i := 1) sc_are_sorts.nd rfl (Or.inl rfl))) (fun _ _ _ _ _ => pts_nil) (fun _ _ _ _ _ => (pe_callD D_is_sort hr (by decide) (by rfl) (pa_cons (pv 1) pa_nil)))) pa_nil))))))))
   (pss_one (ps_ret pe_bl))
   pss_nil)
  (pss_one (ps_ret (pe_cmpR op_le (pe_callB call_len_seq (by rfl) G.n_len bb_len (pa_cons (pe_lc (own := [("sort", 2)]) rfl sc_are_sorts.nd (pi_tup (pv 0)) (blkOk_by (own := [("sort", 2)]) (N := n_are_sorts) (sc := defScope s_are_sorts) (by decide +kernel)) (fun _ _ _ _ _ => (pg_name (i := 2) sc_are_sorts.nd rfl (Or.inl rfl))) (fun _ _ _ _ _ => pts_one (pt_cmpR op_eq (pe_ix (ix_tupK K) (pv 2) pe_int (fun _ _ => rfl)) pe_int (nomark _))) (fun _ _ _ _ _ => (pv 2))) pa_nil)) pe_int (nomark _))))), fun M a h => by
    obtain ⟨h1, h2, h3, h4⟩ := h
    refine sx_seq (sx_ifF (et_orF (et_notT (et_B (by walk_at "ev"))) (et_orF (et_notT ((et_test (ev_chainI (a := 1) (b := (a.length : Int)) (c := 4) ?_ ((ev_lenT (ds := a.map eFr) ?_).to (by rw [List.length_map])) ?_)).to ?_)) (et_notT (et_B ((ev_allM (xs := a) (f := fun _ => true) (ev_lcMap (enc := eFr) (wx_tupV (ds := a.map eFr) ?_) trivial (by omega) fun x hx => ex_call (xs := [frD x]) ?_ (so_is_sort (h3 x hx)))).to (by rw [List.all_eq_true.mpr fun _ _ => rfl])))))) (sx_next ?_))
    · walk_at "ev"
    · walk_at "ev"
    · walk_at "ev"
    · rw [decide_eq_true (show (1 : Int) ≤ (a.length : Int) by omega), decide_eq_true (show (a.length : Int) ≤ 4 by omega)]; rfl
    · walk_at "ev"
    · walk_at "ev"
    · refine sx_retV (x := bD true) ((ev_IB (a := ((a.filter fun s => decide (s.1 = 0)).length : Int)) (b := 1) ((ev_lenF (ds := (a.filter fun s => decide (s.1 = 0)).map eFr) (ev_lcFM (xs := a) (enc := eFr) (wx_tupV (ds := a.map eFr) (by walk_at "ev")) trivial (by omega) (fun x hx => by walk_at "ev") (fun x hx _ => by walk_at "ev"))).to (by rw [List.length_map])) (by walk_at "ev")).to ?_) rfl
      rw [decide_eq_true (show ((a.filter fun s => decide (s.1 = 0)).length : Int) ≤ 1 by omega)]⟩
def sp_is_join_books (K : PySem.W.Frag) : Sp := spX K (A := Jn × List Fr) (fun a => [.p (eJ a.1), .p (.tup (a.2.map eFr))]) (fun a => JoinOk a.2 a.1) (fun _ x => x = bD true)
theorem so_is_join_books {M : PM} {j : Jn} {ss : List Fr} (h : JoinOk ss j) : SpOk K M (sp_is_join_books K) [.p (eJ j), .p (.tup (ss.map eFr))] (fun x => x = bD true) := spX_ok (j, ss) h
theorem ok_is_join_books (G : Gp K mg) (F : Fu K mg "is_join_books" "is_join" "is_join" s_is_join_books ["thing", "sorts"])
    (D_is_row : Df P w K mg base 2 "is_row" ["thing", "many"] (sp_is_row K)) : Df P w K mg base 3 "is_join_books" ["thing", "sorts"] (sp_is_join_books K) := by
  exact df_mk F sc_is_join_books (fun _ => rfl) fun f cdv A' outer s H E hr => ⟨_, (pss_cons (ps_if (PW.pt (pw_or (pt_not (pt_val (pe_callD D_is_row hr (by decide) (by rfl) (pa_cons (pv 0) (pa_cons pe_int pa_nil))))) (pw_or1 (pt_not (pt_chain3 op_le op_le op_lt pe_int (pe_ix ix_tup (pv 0) pe_int (fun _ _ => rfl)) (pe_ix ix_tup (pv 0) pe_int (fun _ _ => rfl)) (pe_callB call_len_seq (by rfl) G.n_len bb_len (pa_cons (pv 1) pa_nil)))))))
   (pss_one (ps_ret pe_bl))
   pss_nil)
  (pss_one (ps_ret (pe_or (pe_cmpR op_gt (pe_ix ix_tup (pe_ix ix_tup (pv 1) (pe_ix ix_tup (pv 0) pe_int (fun _ _ => rfl)) (fun _ _ => rfl)) pe_int (fun _ _ => rfl)) pe_int (nomark _)) (pe_one (pe_cmpR op_gt (pe_ix ix_tup (pe_ix ix_tup (pv 1) (pe_ix ix_tup (pv 0) pe_int (fun _ _ => rfl)) (fun _ _ => rfl)) pe_int (fun _ _ => rfl)) pe_int (nomark _))))))), fun M a h => by
    obtain ⟨⟨i, j⟩, ss⟩ := a
    obtain ⟨a, b, h1, h2, h3, h4⟩ := h
    have hj : j < ss.length := (List.getElem?_eq_some_iff.mp h2).1
    have h3' : i ≤ j := h3
    refine sx_seq (sx_ifF (et_orF (et_notT (et_B (ex_call (xs := [.p (.tup ([(i : Int), (j : Int)].map .int)), iD 2]) (by walk_at "ev") (so_is_row rfl (by show 2 ≤ 1000; decide))))) (et_notT (et_chain3 (a := 0) (b := (i : Int)) (c := (j : Int)) (d := (ss.length : Int)) (by walk_at "ev") (by walk_at "ev") (by walk_at "ev") ((ev_lenT (ds := ss.map eFr) (by walk_at "ev")).to (by rw [List.length_map])) (decide_eq_true (by omega)) (decide_eq_true (by omega)) (decide_eq_true (by omega))))) (sx_next ?_))
    refine sx_retV (x := bD true) (EV.to (ev_or (a := decide (a.1 > 0)) (b := decide (b.1 > 0)) (ev_IB (a := a.1) (b := 0) (ev_ix0 (ev_ixM (f := eFr) (x := a) (n := i) (by walk_at "ev") (by walk_at "ev") h1)) (by walk_at "ev")) fun _ => ev_IB (a := b.1) (b := 0) (ev_ix0 (ev_ixM (f := eFr) (x := b) (n := j) (by walk_at "ev") (by walk_at "ev") h2)) (by walk_at "ev")) ?_) rfl
    rcases h4 with h4 | h4
    · rw [decide_eq_true (show a.1 > 0 from h4)]; rfl
    · rw [decide_eq_true (show b.1 > 0 from h4), Bool.or_true]⟩
def sp_is_kind (K : PySem.W.Frag) : Sp := spX K (A := Kind × List Fr) (fun a => [.p (eK a.1), .p (.tup (a.2.map eFr))]) (fun a => KindOk a.2 a.1) (fun _ x => x = bD true)
theorem so_is_kind {M : PM} {k : Kind} {ss : List Fr} (h : KindOk ss k) : SpOk K M (sp_is_kind K) [.p (eK k), .p (.tup (ss.map eFr))] (fun x => x = bD true) := spX_ok (k, ss) h
theorem ok_is_kind (G : Gp K mg) (F : Fu K mg "is_kind" "is_kind" "is_kind" s_is_kind ["thing", "sorts"])
    (D_is_list : Df P w K mg base 4 "is_list" ["thing"] (sp_is_list K))
    (D_is_pair : Df P w K mg base 1 "is_pair" ["thing"] (sp_is_pair K))
    (D_is_join_books : Df P w K mg base 3 "is_join_books" ["thing", "sorts"] (sp_is_join_books K)) : Df P w K mg base 5 "is_kind" ["thing", "sorts"] (sp_is_kind K) := by
  exact df_mk F sc_is_kind (fun _ => rfl) fun f cdv A' outer s H E hr => ⟨_, (pss_cons (ps_if (PW.pt (pw_or (pt_not (pt_val (pe_callD D_is_pair hr (by decide) (by rfl) (pa_cons (pv 0) pa_nil)))) (pw_or (pt_not (pt_val (pe_callD D_is_list hr (by decide) (by rfl) (pa_cons (pe_ix ix_tup (pv 0) pe_int (fun _ _ => rfl)) pa_nil)))) (pw_or (pt_not (pt_val (pe_callB call_isi (by rfl) G.n_isinstance bb_isinstance (pa_cons (pe_ix ix_tup (pv 0) pe_int (fun _ _ => rfl)) (pa_cons (pe_bltn (v := .ty "tuple") (by rfl) G.n_tuple bb_tuple rfl) pa_nil))))) (pw_or1 (pt_cmpR (op_eqD hr.units) (pe_ix ix_tup (pv 0) pe_int (fun _ _ => rfl)) (pe_tup pa_nil) (nomark _)))))))
   (pss_one (ps_ret pe_bl))
   pss_nil)
  (pss_cons (ps_if (pt_not (pt_val (pe_callB (cr_all rfl) (by rfl) G.n_all bb_all (pa_cons (pe_lc (own := [("item", 2)]) rfl sc_is_kind.nd (pi_tup (pe_ix ix_tup (pv 0) pe_int (fun _ _ => rfl))) (blkOk_by (own := [("item", 2)]) (N := n_is_kind) (sc := defScope s_is_kind) (by decide +kernel)) (fun _ _ _ _ _ => (pg_name (i := 2) sc_is_kind.nd rfl (Or.inl rfl))) (fun _ _ _ _ _ => pts_nil) (fun _ _ _ _ _ => (pe_callD D_is_join_books hr (by decide) (by rfl) (pa_cons (pv 2) (pa_cons (pv 1) pa_nil))))) pa_nil))))
   (pss_one (ps_ret pe_bl))
   pss_nil)
  (pss_one (ps_ret (pe_callB (cr_all rfl) (by rfl) G.n_all bb_all (pa_cons (pe_lc (own := [("one", 3), ("later", 4)]) rfl sc_is_kind.nd (RZ.pi_zipA (by rfl) G.n_zip (pa_cons (pe_ix ix_tup (pv 0) pe_int (fun _ _ => rfl)) (pa_cons (pe_slice sl_tupA (pe_ix ix_tup (pv 0) pe_int (fun _ _ => rfl)) (po_some pe_int) po_none) pa_nil))) (blkOk_by (own := [("one", 3), ("later", 4)]) (N := n_is_kind) (sc := defScope s_is_kind) (by decide +kernel)) (fun _ _ _ _ _ => (pg_tupK K (n := 2) rfl (pgs_cons (pg_name (i := 3) sc_is_kind.nd rfl (Or.inl rfl)) (pgs_cons (pg_name (i := 4) sc_is_kind.nd rfl (Or.inl rfl)) pgs_nil)))) (fun _ _ _ _ _ => pts_nil) (fun _ _ _ _ _ => (pe_cmpR (op_ltTK K hr.units0) (pv 3) (pv 4) (nomark _)))) pa_nil)))))), fun M a h => by
    obtain ⟨⟨st, js⟩, ss⟩ := a
    obtain ⟨h1, h2, h3, h4, h5⟩ := h
    have hn : ¬ js = [] := h2
    refine sx_seq (sx_ifF (et_orF (et_notT (et_B (ex_call (xs := [.p (eK (st, js))]) (by walk_at "ev") so_is_pair))) (et_orF (et_notT (et_B (ex_call (xs := [.p (eSt st)]) (by walk_at "ev") (so_is_list h1)))) (et_orF (et_notT (et_B (by walk_at "ev"))) ((et_test (ev_eqD (a := .tup (js.map eJ)) (b := .tup []) (by walk_at "ev") (ev_tup evt_nil) (Nat.le_trans (enc_js.dep js) (by decide)) (by decide))).to ?_)))) (sx_next ?_))
    · exact (enc_js.dec js []).trans (decide_eq_false hn)
    · refine sx_seq (sx_ifF (et_notT (et_B ((ev_allM (xs := js) (f := fun _ => true) (ev_lcMap (enc := eJ) (wx_tupV (ds := js.map eJ) (by walk_at "ev")) trivial (Nat.le_trans h3 (by decide)) fun x hx => ex_call (xs := [.p (eJ x), .p (.tup (ss.map eFr))]) (by walk_at "ev") (so_is_join_books (h4 x hx)))).to (by rw [List.all_eq_true.mpr fun _ _ => rfl])))) (sx_next ?_))
      have hl : (js.zip (js.drop 1)).length ≤ 1000 := by
        have h3' : js.length ≤ 16 := h3
        rw [List.length_zip]; omega
      refine sx_retV (x := bD true) ((ev_allM (xs := js.zip (js.drop 1)) (f := fun _ => true) (ev_lcMap2 (Side := noSide) (xs := js.zip (js.drop 1)) (ea := fun p => eJ p.1) (eb := fun p => eJ p.2) ?_ trivial hl fun p hp => ?_)).to (by rw [List.all_eq_true.mpr fun _ _ => rfl])) rfl
      · rw [← zip_map_tail]
        exact wx_zipT (by walk_at "ev") (ev_tail (by walk_at "ev"))
      · refine (ev_ltT2 (a := (p.1.1 : Int)) (b := (p.1.2 : Int)) (c := (p.2.1 : Int)) (d := (p.2.2 : Int)) (by walk_at "ev") (by walk_at "ev")).to ?_
        rw [decide_eq_true]
        rcases h5 p hp with q | ⟨q1, q2⟩
        · left; omega
        · right; omega⟩
def sp_may_join (K : PySem.W.Frag) : Sp := spX K (A := Bk × List Fr × Nat × Nat) (fun a => [bkD a.1, .p (eSt a.2.1), iD (a.2.2.1 : Int), iD (a.2.2.2 : Int)]) (fun a => a.1.ks.length ≤ 5) (fun a x => x = bD (mayJoin a.1 a.2.1 a.2.2.1 a.2.2.2))
theorem so_may_join {M : PM} {b : Bk} {st : List Fr} {i j : Nat} (h : b.ks.length ≤ 5) : SpOk K M (sp_may_join K) [bkD b, .p (eSt st), iD (i : Int), iD (j : Int)] (fun x => x = bD (mayJoin b st i j)) := spX_ok (b, st, i, j) h
theorem ok_may_join (G : Gp K mg) (F : Fu K mg "may_join" "may_join" "may_join" s_may_join ["book", "steps", "one", "other"]) : Df P w K mg base 1 "may_join" ["book", "steps", "one", "other"] (sp_may_join K) := by
  exact df_mk F sc_may_join (fun _ => rfl) fun f cdv A' outer s H E hr => ⟨_, (pss_cons (ps_set (i := 4) sc_may_join.nd rfl (Or.inr rfl) (pe_tup (pa_cons (pe_callB (call_min2 rfl) (by rfl) G.n_min bb_min (pa_cons (pv 2) (pa_cons (pv 3) pa_nil))) (pa_cons (pe_callB (call_max2 rfl) (by rfl) G.n_max bb_max (pa_cons (pv 2) (pa_cons (pv 3) pa_nil))) pa_nil))))
  (pss_one (ps_ret (pe_callB (cr_any rfl) (by rfl) G.n_any bb_any (pa_cons (pe_lc (own := [("kind", 5)]) rfl sc_may_join.nd (pi_tup (pe_fld (pv 0) rfl)) (blkOk_by (own := [("kind", 5)]) (N := n_may_join) (sc := defScope s_may_join) (by decide +kernel)) (fun _ _ _ _ _ => (pg_name (i := 5) sc_may_join.nd rfl (Or.inl rfl))) (fun _ _ _ _ _ => pts_one (pt_cmpR (op_eqDK K hr.units) (pe_ix (ix_tupK K) (pv 5) pe_int (fun _ _ => rfl)) (pv 1) (nomark _))) (fun _ _ _ _ _ => (pe_cmpR (op_inTK K (hu65 hr)) (pv 4) (pe_ix (ix_tupK K) (pv 5) pe_int (fun _ _ => rfl)) (by rfl)))) pa_nil))))), fun M a h => by
    obtain ⟨b, st, i, j⟩ := a
    have h' : b.ks.length ≤ 5 := h
    refine sx_seq (sx_set (d := eJ (min i j, max i j)) ((ev_tup (evt_cons (ev_min2 (a := (i : Int)) (b := (j : Int)) (by walk_at "ev") (by walk_at "ev")) (evt_cons (ev_max2 (a := (i : Int)) (b := (j : Int)) (by walk_at "ev") (by walk_at "ev")) evt_nil))).to ?_) ?_)
    · show Dt.p (.tup [.int (min (i : Int) (j : Int)), .int (max (i : Int) (j : Int))]) = Dt.p (.tup [.int ((min i j : Nat) : Int), .int ((max i j : Nat) : Int)])
      rw [show min (i : Int) (j : Int) = ((min i j : Nat) : Int) by omega, show max (i : Int) (j : Int) = ((max i j : Nat) : Int) by omega]
    · refine sx_retV (ev_anyM (xs := b.ks.filter fun k => decide (k.1 = st)) (f := fun k => decide ((min i j, max i j) ∈ k.2)) (ev_lcFM (xs := b.ks) (enc := eK) (wx_tupV (ds := b.ks.map eK) (by walk_at "ev")) trivial (by omega) (fun x hx => ?_) fun x hx _ => ?_)) rfl
      · refine (et_test (ev_eqD (a := eSt x.1) (b := eSt st) (by walk_at "ev") (by walk_at "ev") (Nat.le_trans (enc_st.dep _) (by decide)) (Nat.le_trans (enc_st.dep _) (by decide)))).to ?_
        exact enc_st.dec x.1 st
      · refine (ev_inT (a := eJ (min i j, max i j)) (ds := x.2.map eJ) (by walk_at "ev") (by walk_at "ev") (Nat.le_trans (enc_j.dep _) (by decide)) (Nat.lt_of_le_of_lt (deps_le enc_j.dep x.2) (by decide))).to ?_
        rw [any_enc enc_j]
        exact congrArg bD (decide_eq_decide.mpr Iff.rfl)⟩
theorem map_set (xs : List Int) (i : Nat) (y : Int) : (xs.map TD.int).set i (.int y) = (xs.set i y).map TD.int := by rw [List.map_set]
def sp_pipes_at (K : PySem.W.Frag) : Sp := spX K (A := Wb) (fun a => [wbD a]) (fun a => a.ws.length ≤ 12 ∧ ∀ p ∈ a.ps, p.1.1 < a.ws.length ∧ p.1.2 < a.ws.length) (fun a x => x = .f ((pipesAt a.ws.length a.ps).map .int))
theorem so_pipes_at {M : PM} {w : Wb} (h : w.Ok) : SpOk K M (sp_pipes_at K) [wbD w] (fun x => x = .f ((pipesAt w.ws.length w.ps).map .int)) := spX_ok w ⟨h.len.2, fun p hp => by have := h.ps p hp; omega⟩
theorem aug_get {xs : List Int} {i : Nat} (h : i < xs.length) : (xs.map TD.int)[i]? = some (.int (xs.getD i 0)) := by
  rw [List.getElem?_map, List.getD_eq_getElem?_getD, List.getElem?_eq_getElem h]; rfl
theorem ok_pipes_at (G : Gp K mg) (F : Fu K mg "pipes_at" "pipes_at" "pipes_at" s_pipes_at ["web"]) : Df P w K mg base 1 "pipes_at" ["web"] (sp_pipes_at K) := by
  exact df_mk F sc_pipes_at (fun _ => rfl) fun f cdv A' outer s H E hr => ⟨_, (pss_cons (ps_set (i := 1) sc_pipes_at.nd rfl (Or.inl rfl) (pe_op op_rep (pe_lst (pa_cons pe_int pa_nil)) (pe_callB call_len_seq (by rfl) G.n_len bb_len (pa_cons (pe_fld (pv 0) rfl) pa_nil))))
  (pss_cons (ps_for PassesOwn.never rfl (pi_tup (pe_fld (pv 0) rfl)) (pg_tup rfl (pgs_cons (pg_name (i := 2) sc_pipes_at.nd rfl (Or.inl rfl)) (pgs_cons (pg_name (i := 3) sc_pipes_at.nd rfl (Or.inl rfl)) (pgs_cons (pg_name (i := 4) sc_pipes_at.nd rfl (Or.inl rfl)) pgs_nil))))
   (pss_cons (ps_augS (pv 1) (pv 2) get_list pe_int ip_add set_list)
  (pss_one (ps_augS (pv 1) (pv 3) get_list pe_int ip_add set_list))))
  (pss_one (ps_ret (pv 1))))), fun M a h => by
    obtain ⟨h1, h2⟩ := h
    refine sx_seq (sx_setf (ev_rep1 (d := .int 0) (n := a.ws.length) (ev_lst (evt_cons ev_int evt_nil)) ((ev_lenT (ds := a.ws.map .int) (by walk_at "ev")).to (by rw [List.length_map])) (by omega)) fun q => ?_)
    refine sx_seq (sx_for (wx_tupV (ds := a.ps.map eP) (by walk_at "ev")) (fun i ρ' => ∃ z1 z2 z3, ρ' = [some (wbD a), some (.m q ((pipesAt a.ws.length (a.ps.take i)).map .int)), z1, z2, z3]) ⟨none, none, none, ?_⟩ (fun _ _ _ => trivial) (fun i d ρ' hd ⟨z1, z2, z3, e⟩ => ?_) fun ρ' ⟨z1, z2, z3, e⟩ => ?_)
    · unfold pipesAt; rw [List.take_zero, List.foldl_nil, List.map_replicate]; rfl
    · obtain ⟨p, hp, ed, hm⟩ := map_get hd
      subst e ed
      obtain ⟨g1, g2⟩ := h2 p hm
      have e1 := pipesAt_len a.ws.length (a.ps.take i)
      refine gx_tup3 (gx_name (gx_name (gx_name ?_)))
      refine sx_seq (sx_augI (a := q) (j := p.1.1) (x := (pipesAt a.ws.length (a.ps.take i)).getD p.1.1 0) (y := 1) rfl (by walk_at "ev") rfl (aug_get (by rw [e1]; exact g1)) ev_int ?_)
      rw [map_set]
      refine sx_augI (a := q) (ds := (inc (pipesAt a.ws.length (a.ps.take i)) p.1.1).map .int) (j := p.1.2) (x := (inc (pipesAt a.ws.length (a.ps.take i)) p.1.1).getD p.1.2 0) (y := 1) rfl (by walk_at "ev") rfl (aug_get (by rw [inc_len, e1]; exact g2)) ev_int ?_
      rw [map_set]
      refine ⟨some (.p (.int (p.1.1 : Int))), some (.p (.int (p.1.2 : Int))), some (.p (eSt p.2)), ?_⟩
      rw [pipesAt_succ hp]
      rfl
    · subst e
      rw [List.length_map, List.take_length]
      exact sx_retM rfl rfl⟩
def sp_vessel_fault (K : PySem.W.Frag) : Sp := spX K (A := Bk × Wb × List Nat) (fun a => [bkD a.1, wbD a.2.1, .p (eNs a.2.2)]) (fun a => a.1.Ok ∧ a.2.1.Ok ∧ Of a.1 a.2.1 a.2.2) (fun _ x => x = nD)
theorem so_vessel_fault {M : PM} {b : Bk} {w : Wb} {vs : List Nat} (h1 : b.Ok) (h2 : w.Ok) (h3 : Of b w vs) : SpOk K M (sp_vessel_fault K) [bkD b, wbD w, .p (eNs vs)] (fun x => x = nD) := spX_ok (b, w, vs) ⟨h1, h2, h3⟩
theorem enumM_get {α : Type} {xs : List α} {f : α → TD} {i : Nat} {d : TD} (h : (enumD (xs.map f))[i]? = some d) : ∃ x, xs[i]? = some x ∧ d = .tup [.int (i : Nat), f x] ∧ x ∈ xs := by
  obtain ⟨e, he, rfl⟩ := enum_get h
  obtain ⟨x, h1, rfl, h2⟩ := map_get he
  exact ⟨x, h1, rfl, h2⟩
theorem ok_vessel_fault (G : Gp K mg) (F : Fu K mg "vessel_fault" "vessel_fault" "vessel_fault" s_vessel_fault ["book", "web", "sorts"])
    (D_pipes_at : Df P w K mg base 1 "pipes_at" ["web"] (sp_pipes_at K)) : Df P w K mg base 2 "vessel_fault" ["book", "web", "sorts"] (sp_vessel_fault K) := by
  exact df_mk F sc_vessel_fault (fun _ => rfl) fun f cdv A' outer s H E hr => ⟨_, (pss_cons (ps_for PassesOwn.never rfl (pi_enumT (by rfl) G.n_enumerate (pa_cons (pv 2) pa_nil)) (pg_tup rfl (pgs_cons (pg_name (i := 3) sc_vessel_fault.nd rfl (Or.inl rfl)) (pgs_cons (pg_name (i := 4) sc_vessel_fault.nd rfl (Or.inl rfl)) pgs_nil)))
   (pss_one (ps_if (pt_cmpR op_ne (pe_ix ix_tup (pe_fld (pv 1) rfl) (pv 3) (fun _ _ => rfl)) (pe_ix ix_tup (pe_ix ix_tup (pe_fld (pv 0) rfl) (pv 4) (fun _ _ => rfl)) pe_int (fun _ _ => rfl)) (nomark _))
   (pss_one (ps_ret (pe_tup (pa_cons pe_str (pa_cons (pv 3) pa_nil)))))
   pss_nil)))
  (pss_cons (ps_for PassesOwn.never rfl (pi_enum (by rfl) G.n_enumerate (pa_cons (pe_callD D_pipes_at hr (by decide) (by rfl) (pa_cons (pv 1) pa_nil)) pa_nil)) (pg_tup rfl (pgs_cons (pg_name (i := 3) sc_vessel_fault.nd rfl (Or.inl rfl)) (pgs_cons (pg_name (i := 5) sc_vessel_fault.nd rfl (Or.inl rfl)) pgs_nil)))
   (pss_one (ps_if (PW.pt (pw_and (pt_cmpR op_gt (pe_ix ix_tup (pe_fld (pv 1) rfl) (pv 3) (fun _ _ => rfl)) pe_int (nomark _)) (pw_and1 (pt_cmpR op_gt (pv 5) (pe_ix ix_tup (pe_ix ix_tup (pe_fld (pv 0) rfl) (pe_ix ix_tup (pv 2) (pv 3) (fun _ _ => rfl)) (fun _ _ => rfl)) pe_int (fun _ _ => rfl)) (nomark _)))))
   (pss_one (ps_ret (pe_tup (pa_cons pe_str (pa_cons (pv 3) pa_nil)))))
   pss_nil)))
  (pss_one (ps_ret pe_non)))), fun M a h => by
    obtain ⟨b, w, vs⟩ := a
    obtain ⟨h1, h2, h3⟩ := h
    refine sx_seq (sx_for (wx_enumT (ds := vs.map eN) (by walk_at "ev")) (fun i ρ' => ∃ z1 z2, ρ' = [some (bkD b), some (wbD w), some (.p (eNs vs)), z1, z2, none]) ⟨none, none, rfl⟩ (fun _ _ _ => trivial) (fun i d ρ' hd ⟨z1, z2, e⟩ => ?_) fun ρ' ⟨z1, z2, e⟩ => ?_)
    · obtain ⟨v, hv, ed, hm⟩ := enumM_get hd
      subst e ed
      obtain ⟨c, hc, hw⟩ := h3.ws i v hv
      refine gx_tup2 (gx_name (gx_name ?_))
      refine sx_ifF ((et_test (ev_neI (a := c.1) (b := c.1) (ev_ixM (f := TD.int) (x := c.1) (n := i) (by walk_at "ev") (by walk_at "ev") hw) (ev_ix0 (ev_ixM (f := eFr) (x := c) (n := v) (by walk_at "ev") (by walk_at "ev") hc)))).to (by simp)) (sx_next ⟨_, _, rfl⟩)
    · subst e
      refine sx_seq (sx_for (wx_enumFV (ds := (pipesAt w.ws.length w.ps).map .int) (ex_call (xs := [wbD w]) (by walk_at "ev") (so_pipes_at h2))) (fun i ρ' => ∃ z1 z2 z3, ρ' = [some (bkD b), some (wbD w), some (.p (eNs vs)), z1, z2, z3]) ⟨z1, z2, none, rfl⟩ (fun _ _ _ => trivial) (fun i d ρ' hd ⟨z1, z2, z3, e⟩ => ?_) fun ρ' ⟨z1, z2, z3, e⟩ => ?_)
      · obtain ⟨v, hv, ed, hm⟩ := enumM_get hd
        subst e ed
        have hlen : i < w.ws.length := by
          have := (List.getElem?_eq_some_iff.mp hv).1
          rwa [pipesAt_len] at this
        obtain ⟨so, hso⟩ : ∃ so, vs[i]? = some so := ⟨_, List.getElem?_eq_getElem (by rw [h3.len]; exact hlen)⟩
        obtain ⟨c, hc, hw⟩ := h3.ws i so hso
        refine gx_tup2 (gx_name (gx_name ?_))
        refine sx_ifF ((et_and (a := decide (c.1 > 0)) (b := decide (v > c.2)) ((et_test (ev_IB (a := c.1) (b := 0) (ev_ixM (f := TD.int) (x := c.1) (n := i) (by walk_at "ev") (by walk_at "ev") hw) ev_int))) fun _ => (et_test (ev_IB (a := v) (b := c.2) (by walk_at "ev") (ev_ix1 (ev_ixM (f := eFr) (x := c) (n := so) (by walk_at "ev") (ev_ixM (f := eN) (x := so) (n := i) (by walk_at "ev") (by walk_at "ev") hso) hc))))).to ?_) (sx_next ⟨_, _, _, rfl⟩)
        by_cases hp : c.1 > 0
        · have := h3.cap i so c v hso hc hv hp
          rw [decide_eq_false (show ¬ v > c.2 by omega), Bool.and_false]
        · rw [decide_eq_false hp, Bool.false_and]
      · subst e
        exact sx_retV ev_non rfl⟩
def sp_fault (K : PySem.W.Frag) : Sp := spX K (A := Bk × Wb × List Nat) (fun a => [bkD a.1, wbD a.2.1, .p (eNs a.2.2)]) (fun a => a.1.Ok ∧ a.2.1.Ok ∧ Of a.1 a.2.1 a.2.2) (fun _ x => x = nD)
theorem so_fault {M : PM} {b : Bk} {w : Wb} {vs : List Nat} (h1 : b.Ok) (h2 : w.Ok) (h3 : Of b w vs) : SpOk K M (sp_fault K) [bkD b, wbD w, .p (eNs vs)] (fun x => x = nD) := spX_ok (b, w, vs) ⟨h1, h2, h3⟩
theorem Of.lt {b : Bk} {w : Wb} {vs : List Nat} (h : Of b w vs) {n : Nat} (hn : n ∈ vs) : n < b.ss.length := by
  obtain ⟨i, hi⟩ := List.mem_iff_getElem?.mp hn
  obtain ⟨c, hc, _⟩ := h.ws i n hi
  exact (List.getElem?_eq_some_iff.mp hc).1
theorem eNs_ints (vs : List Nat) : eNs vs = .tup ((vs.map fun n : Nat => (n : Int)).map TD.int) := by
  show TD.tup (vs.map eN) = _
  rw [List.map_map]; rfl
theorem ok_fault (G : Gp K mg) (F : Fu K mg "fault" "fault" "fault" s_fault ["book", "web", "sorts"])
    (D_is_row : Df P w K mg base 2 "is_row" ["thing", "many"] (sp_is_row K))
    (D_vessel_fault : Df P w K mg base 2 "vessel_fault" ["book", "web", "sorts"] (sp_vessel_fault K))
    (D_may_join : Df P w K mg base 1 "may_join" ["book", "steps", "one", "other"] (sp_may_join K)) : Df P w K mg base 3 "fault" ["book", "web", "sorts"] (sp_fault K) := by
  exact df_mk F sc_fault (fun _ => rfl) fun f cdv A' outer s H E hr => ⟨_, (pss_cons (ps_if (PW.pt (pw_or (pt_not (pt_val (pe_callD D_is_row hr (by decide) (by rfl) (pa_cons (pv 2) (pa_cons (pe_callB call_len_seq (by rfl) G.n_len bb_len (pa_cons (pe_fld (pv 1) rfl) pa_nil)) pa_nil))))) (pw_or1 (pt_not (pt_val (pe_callB (cr_all rfl) (by rfl) G.n_all bb_all (pa_cons (pe_lc (own := [("sort", 3)]) rfl sc_fault.nd (pi_tup (pv 2)) (blkOk_by (own := [("sort", 3)]) (N := n_fault) (sc := defScope s_fault) (by decide +kernel)) (fun _ _ _ _ _ => (pg_name (i := 3) sc_fault.nd rfl (Or.inl rfl))) (fun _ _ _ _ _ => pts_nil) (fun _ _ _ _ _ => (pe_chain op_le op_lt pe_int (pv 3) (pe_callB (call_len_seqK K) (by rfl) G.n_len bb_len (pa_cons (pe_fldK K (pv 0) rfl) pa_nil))))) pa_nil)))))))
   (pss_one ps_never)
   pss_nil)
  (pss_cons (ps_set (i := 4) sc_fault.nd rfl (Or.inl rfl) (pe_callD D_vessel_fault hr (by decide) (by rfl) (pa_cons (pv 0) (pa_cons (pv 1) (pa_cons (pv 2) pa_nil)))))
  (pss_cons (ps_if (pt_cmpR op_notN (pv 4) pe_non (nomark _))
   (pss_one (ps_ret (pv 4)))
   pss_nil)
  (pss_cons (ps_for PassesOwn.never rfl (pi_enumT (by rfl) G.n_enumerate (pa_cons (pe_fld (pv 1) rfl) pa_nil)) (pg_tup rfl (pgs_cons (pg_name (i := 5) sc_fault.nd rfl (Or.inl rfl)) (pgs_cons (pg_tup rfl (pgs_cons (pg_name (i := 6) sc_fault.nd rfl (Or.inl rfl)) (pgs_cons (pg_name (i := 7) sc_fault.nd rfl (Or.inl rfl)) (pgs_cons (pg_name (i := 8) sc_fault.nd rfl (Or.inl rfl)) pgs_nil)))) pgs_nil)))
   (pss_one (ps_if (pt_not (pt_val (pe_callD D_may_join hr (by decide) (by rfl) (pa_cons (pv 0) (pa_cons (pv 8) (pa_cons (pe_ix ix_tup (pv 2) (pv 6) (fun _ _ => rfl)) (pa_cons (pe_ix ix_tup (pv 2) (pv 7) (fun _ _ => rfl)) pa_nil)))))))
   (pss_one (ps_ret (pe_tup (pa_cons pe_str (pa_cons (pv 5) pa_nil)))))
   pss_nil)))
  (pss_one (ps_ret pe_non)))))), fun M a h => by
    obtain ⟨b, w, vs⟩ := a
    obtain ⟨h1, h2, h3⟩ := h
    have hlen : vs.length = w.ws.length := h3.len
    have hw12 : w.ws.length ≤ 12 := h2.len.2
    refine sx_seq (sx_ifF (et_orF (et_notT (et_B (ex_call (xs := [.p (.tup ((vs.map fun n : Nat => (n : Int)).map .int)), iD (vs.length : Int)]) (evs_cons ((ev_p rfl).to (congrArg Dt.p (eNs_ints vs))) (evs_cons ((ev_lenT (ds := w.ws.map .int) (by walk_at "ev")).to (by rw [List.length_map, hlen])) evs_nil)) (so_is_row (by rw [List.length_map]) (by rw [List.length_map]; omega))))) (et_notT (et_B ((ev_allM (xs := vs) (f := fun _ => true) (ev_lcMap (enc := eN) (wx_tupV (ds := vs.map eN) (by walk_at "ev")) trivial (by omega) fun x hx => (ev_chainI (a := 0) (b := (x : Int)) (c := (b.ss.length : Int)) ev_int (by walk_at "ev") ((ev_lenT (ds := b.ss.map eFr) (by walk_at "ev")).to (by rw [List.length_map]))).to ?_)).to (by rw [List.all_eq_true.mpr fun _ _ => rfl]))))) (sx_next ?_))
    · have : x < b.ss.length := h3.lt hx
      rw [decide_eq_true (show (0 : Int) ≤ (x : Int) by omega), decide_eq_true (show (x : Int) < (b.ss.length : Int) by omega)]; rfl
    · refine sx_seq (sx_set (d := .non) (ex_call (xs := [bkD b, wbD w, .p (eNs vs)]) (by walk_at "ev") (so_vessel_fault h1 h2 h3)) ?_)
      refine sx_seq (sx_ifF (et_test (ev_notN (d := .non) (by walk_at "ev"))) (sx_next ?_))
      refine sx_seq (sx_for (wx_enumT (ds := w.ps.map eP) (by walk_at "ev")) (fun i ρ' => ∃ z1 z2 z3 z4, ρ' = [some (bkD b), some (wbD w), some (.p (eNs vs)), none, some nD, z1, z2, z3, z4]) ⟨none, none, none, none, rfl⟩ (fun _ _ _ => trivial) (fun i d ρ' hd ⟨z1, z2, z3, z4, e⟩ => ?_) fun ρ' ⟨z1, z2, z3, z4, e⟩ => ?_)
      · obtain ⟨p, hp, ed, hm⟩ := enumM_get hd
        subst e ed
        obtain ⟨i1, j1, g1, g2, g3⟩ := h3.ps p hm
        refine gx_tup2 (gx_name (gx_tup3 (gx_name (gx_name (gx_name ?_)))))
        exact sx_ifF (et_notT (et_B (EV.to (x := bD (mayJoin b p.2 i1 j1)) (ex_call (xs := [bkD b, .p (eSt p.2), iD (i1 : Int), iD (j1 : Int)]) (evs_cons (by walk_at "ev") (evs_cons (by walk_at "ev") (evs_cons (ev_ixM (f := eN) (x := i1) (n := p.1.1) (by walk_at "ev") (by walk_at "ev") g1) (evs_cons (ev_ixM (f := eN) (x := j1) (n := p.1.2) (by walk_at "ev") (by walk_at "ev") g2) evs_nil)))) (so_may_join h1.len)) (by rw [g3])))) (sx_next ⟨_, _, _, _, rfl⟩)
      · subst e
        exact sx_retV ev_non rfl⟩
def sp_is_filling (K : PySem.W.Frag) : Sp := spX K (A := Wb × List Int) (fun a => [wbD a.1, .p (.tup (a.2.map .int))]) (fun a => a.1.ws.length ≤ 12 ∧ FillOk a.1 a.2) (fun _ x => x = bD true)
theorem so_is_filling {M : PM} {w : Wb} {fl : List Int} (h : w.ws.length ≤ 12) (h2 : FillOk w fl) : SpOk K M (sp_is_filling K) [wbD w, .p (.tup (fl.map .int))] (fun x => x = bD true) := spX_ok (w, fl) ⟨h, h2⟩
theorem ok_is_filling (G : Gp K mg) (F : Fu K mg "is_filling" "is_filling" "is_filling" s_is_filling ["web", "thing"])
    (D_is_row : Df P w K mg base 2 "is_row" ["thing", "many"] (sp_is_row K)) : Df P w K mg base 3 "is_filling" ["web", "thing"] (sp_is_filling K) := by
  exact df_mk F sc_is_filling (fun _ => rfl) fun f cdv A' outer s H E hr => ⟨_, (pss_cons (ps_if (pt_not (pt_val (pe_callD D_is_row hr (by decide) (by rfl) (pa_cons (pv 1) (pa_cons (pe_callB call_len_seq (by rfl) G.n_len bb_len (pa_cons (pe_fld (pv 0) rfl) pa_nil)) pa_nil)))))
   (pss_one (ps_ret pe_bl))
   pss_nil)
  (pss_one (ps_ret (pe_callB (cr_all rfl) (by rfl) G.n_all bb_all (pa_cons (pe_lc (own := [("water", 2), ("width", 3)]) rfl sc_is_filling.nd (RZ.pi_zipA (by rfl) G.n_zip (pa_cons (pv 1) (pa_cons (pe_fld (pv 0) rfl) pa_nil))) (blkOk_by (own := [("water", 2), ("width", 3)]) (N := n_is_filling) (sc := defScope s_is_filling) (by decide +kernel)) (fun _ _ _ _ _ => (pg_tupK K (n := 2) rfl (pgs_cons (pg_name (i := 2) sc_is_filling.nd rfl (Or.inl rfl)) (pgs_cons (pg_name (i := 3) sc_is_filling.nd rfl (Or.inl rfl)) pgs_nil)))) (fun _ _ _ _ _ => pts_nil) (fun _ _ _ _ _ => (pe_or (pe_cmpR op_eq (pv 2) pe_int (nomark _)) (pe_one (pe_cmpR op_gt (pv 3) pe_int (nomark _)))))) pa_nil))))), fun M a h => by
    obtain ⟨w, fl⟩ := a
    obtain ⟨h1, h2, h3⟩ := h
    have h1' : w.ws.length ≤ 12 := h1
    have h2' : fl.length = w.ws.length := h2
    refine sx_seq (sx_ifF (et_notT (et_B (ex_call (xs := [.p (.tup (fl.map .int)), iD (fl.length : Int)]) (evs_cons (by walk_at "ev") (evs_cons ((ev_lenT (ds := w.ws.map .int) (by walk_at "ev")).to (by rw [List.length_map, h2'])) evs_nil)) (so_is_row rfl (by show fl.length ≤ 1000; omega))))) (sx_next ?_))
    have hl : (fl.zip w.ws).length ≤ 1000 := by rw [List.length_zip]; omega
    refine sx_retV (x := bD true) ((ev_allM (xs := fl.zip w.ws) (f := fun _ => true) (ev_lcMap2 (Side := noSide) (xs := fl.zip w.ws) (ea := fun p => .int p.1) (eb := fun p => .int p.2) ?_ trivial hl fun p hp => ?_)).to (by rw [List.all_eq_true.mpr fun _ _ => rfl])) rfl
    · rw [← zip_map2]
      exact wx_zipT (by walk_at "ev") (by walk_at "ev")
    · refine EV.to (ev_or (a := decide (p.1 = 0)) (b := decide (p.2 > 0)) (by walk_at "ev") fun _ => by walk_at "ev") ?_
      rcases h3 p hp with q | q
      · rw [decide_eq_true q]; rfl
      · rw [decide_eq_true (show p.2 > 0 from q), Bool.or_true]⟩
def sp_check_filling (K : PySem.W.Frag) : Sp := spX K (A := Wb × List Int) (fun a => [wbD a.1, .p (.tup (a.2.map .int))]) (fun a => a.1.ws.length ≤ 12 ∧ FillOk a.1 a.2) (fun _ x => x = nD)
theorem so_check_filling {M : PM} {w : Wb} {fl : List Int} (h : w.ws.length ≤ 12) (h2 : FillOk w fl) : SpOk K M (sp_check_filling K) [wbD w, .p (.tup (fl.map .int))] (fun x => x = nD) := spX_ok (w, fl) ⟨h, h2⟩
theorem ok_check_filling (G : Gp K mg) (F : Fu K mg "check_filling" "check_filling" "check_filling" s_check_filling ["web", "thing"])
    (D_is_filling : Df P w K mg base 3 "is_filling" ["web", "thing"] (sp_is_filling K)) : Df P w K mg base 4 "check_filling" ["web", "thing"] (sp_check_filling K) := by
  exact df_mk F sc_check_filling (fun _ => rfl) fun f cdv A' outer s H E hr => ⟨_, (pss_one (ps_if (pt_not (pt_val (pe_callD D_is_filling hr (by decide) (by rfl) (pa_cons (pv 0) (pa_cons (pv 1) pa_nil)))))
   (pss_one ps_never)
   pss_nil)), fun M a h => by
    obtain ⟨w, fl⟩ := a
    exact sx_ifF (et_notT (et_B (ex_call (xs := [wbD w, .p (.tup (fl.map .int))]) (by walk_at "ev") (so_is_filling h.1 h.2)))) (sx_next rfl)⟩
def sp_runs_at (K : PySem.W.Frag) : Sp := spX K (A := List Int × Int) (fun a => [.p (.tup (a.1.map .int)), iD a.2]) (fun a => a.1.length ≤ 1000) (fun a x => x = iD (runsAt a.1 a.2))
theorem so_runs_at {M : PM} {us : List Int} {n : Int} (h : us.length ≤ 1000) : SpOk K M (sp_runs_at K) [.p (.tup (us.map .int)), iD n] (fun x => x = iD (runsAt us n)) := spX_ok (us, n) h
theorem ok_runs_at (G : Gp K mg) (F : Fu K mg "runs_at" "runs_at" "runs_at" s_runs_at ["units", "number"]) : Df P w K mg base 1 "runs_at" ["units", "number"] (sp_runs_at K) := by
  exact df_mk F sc_runs_at (fun _ => rfl) fun f cdv A' outer s H E hr => ⟨_, (pss_cons (ps_set (i := 2) sc_runs_at.nd rfl (Or.inl rfl) (pe_callB call_len_seq (by rfl) G.n_len bb_len (pa_cons (pe_lc (own := [("unit", 3)]) rfl sc_runs_at.nd (pi_tup (pv 0)) (blkOk_by (own := [("unit", 3)]) (N := n_runs_at) (sc := defScope s_runs_at) (by decide +kernel)) (fun _ _ _ _ _ => (pg_name (i := 3) sc_runs_at.nd rfl (Or.inl rfl))) (fun _ _ _ _ _ => pts_one (pt_cmpR op_le (pv 3) (pe_callB call_abs (by rfl) G.n_abs bb_abs (pa_cons (pv 1) pa_nil)) (nomark _))) (fun _ _ _ _ _ => (pv 3))) pa_nil)))
  (pss_one (ps_ret (pe_ifExp (pt_cmpR op_gt (pv 1) pe_int (nomark _)) (pv 2) (pe_un un_neg (pv 2)))))), fun M a h => by
    obtain ⟨us, n⟩ := a
    refine sx_seq (sx_set (d := .int ((us.filter fun u => decide (u ≤ absI n)).length : Int)) ((ev_lenF (ds := (us.filter fun u => decide (u ≤ absI n)).map .int) (ev_lcFM (xs := us) (enc := .int) (wx_tupV (ds := us.map .int) (by walk_at "ev")) trivial h (fun x hx => et_test (ev_IB (a := x) (b := absI n) (by walk_at "ev") (by walk_at "ev"))) (fun x hx _ => by walk_at "ev"))).to (by rw [List.length_map])) ?_)
    refine sx_retV (x := iD (runsAt us n)) (ev_if (b := decide (n > 0)) (by walk_at "ev") (fun hb => ?_) fun hb => ?_) rfl
    · have : 0 < n := of_decide_eq_true hb
      unfold runsAt
      rw [if_pos this]
      walk_at "ev"
    · have : ¬ 0 < n := of_decide_eq_false hb
      unfold runsAt
      rw [if_neg this]
      walk_at "ev"⟩
end
end K37
end
section
set_option Elab.async false
set_option linter.all false
set_option maxRecDepth 100000
set_option maxHeartbeats 4000000
namespace K37
open PySem PySem.Spec PyProof.Rows L2
theorem pog_bd {a b : Int} (h1 : 0 ≤ a) (h2 : a ≤ 12) (h3 : 0 ≤ b) (h4 : b ≤ 12) : 1 ≤ pog a b ∧ pog a b ≤ 144 := by
  unfold pog
  by_cases h : a = 0 ∨ b = 0
  · rw [if_pos h]; omega
  · rw [if_neg h]
    have hg := gcd_pos (t := a) (b := b) (by omega)
    have hd : (Int.gcd a b : Int) ∣ a := Int.gcd_dvd_left a b
    have k1 : 0 < a / (Int.gcd a b : Int) := Int.ediv_pos_of_pos_of_dvd (by omega) (Int.le_of_lt hg) hd
    have k2 : a / (Int.gcd a b : Int) ≤ a := Int.ediv_le_self _ h1
    have k3 : a / (Int.gcd a b : Int) * b ≤ 12 * 12 := Int.mul_le_mul (by omega) (by omega) h3 (by decide)
    have k4 := Int.mul_pos k1 (show 0 < b by omega)
    omega
def facV (g w : Int) : Int := if w = 0 then 0 else g / w
def eGauge (ws : List Int) (p : Pipe) : TD :=
  let a := ws.getD p.1.1 0
  let b := ws.getD p.1.2 0
  .tup [.int (p.1.1 : Int), .int (p.1.2 : Int), .int (facV (pog a b) a), .int (facV (pog a b) b), .tup ((units p.2 (pog a b)).map .int), .int (pog a b)]
def joinedV (ns : List Int) (i j : Nat) : List Int := ns.map fun x => if x = ns.getD j 0 then ns.getD i 0 else x
def lotsV (n : Nat) (ps : List Pipe) : List Int := ps.foldl (fun ns p => joinedV ns p.1.1 p.1.2) ((List.range n).map fun k : Nat => (k : Int))
theorem joinedV_len (ns : List Int) (i j : Nat) : (joinedV ns i j).length = ns.length := List.length_map ..
theorem lotsV_len (n : Nat) (ps : List Pipe) : (lotsV n ps).length = n := by
  unfold lotsV
  have : ∀ (ps : List Pipe) (acc : List Int), (ps.foldl (fun ns p => joinedV ns p.1.1 p.1.2) acc).length = acc.length := by
    intro ps
    induction ps with
    | nil => intro acc; rfl
    | cons p ps ih => intro acc; rw [List.foldl_cons, ih, joinedV_len]
  rw [this, List.length_map, List.length_range]
theorem lotsV_succ {n i : Nat} {ps : List Pipe} {p : Pipe} (h : ps[i]? = some p) : lotsV n (ps.take (i + 1)) = joinedV (lotsV n (ps.take i)) p.1.1 p.1.2 := by
  unfold lotsV
  rw [List.take_add_one, h, List.foldl_append]
  rfl
theorem getD_of {xs : List Int} {i : Nat} (h : i < xs.length) : xs[i]? = some (xs.getD i 0) := by
  rw [List.getD_eq_getElem?_getD, List.getElem?_eq_getElem h]; rfl
theorem getD_mem {xs : List Int} {i : Nat} (h : i < xs.length) : xs.getD i 0 ∈ xs := List.mem_of_getElem? (getD_of h)
theorem StOk.thr {s : List Fr} (h : StOk s) : ∀ x ∈ s, 0 < x.2 ∧ Sm x.1 ∧ Sm x.2 := fun x hx => by
  have k := (h.2.2.1 x hx).fr
  exact ⟨by have := k.1; omega, k.2.2.1, k.2.1⟩
local macro_rules | `(tactic| walk_at "ev") => `(tactic| (repeat' (first
  | exact ev_p rfl | exact ev_m rfl | exact ev_l rfl | exact ev_o rfl | exact ev_pool rfl | exact ev_int | exact ev_bl | exact ev_non | exact evs_nil | exact evt_nil
  | apply evs_cons | apply evt_cons | apply ev_ix0 | apply ev_ix1 | apply ev_ix2
  | apply ev_I0 | apply ev_IB | apply ev_eqI | apply ev_neI | apply ev_neg | apply ev_abs
  | apply ev_lenT | apply ev_lenL | apply ev_lenF | apply ev_isN | apply ev_notN | apply et_test | apply et_B | apply et_not
  | apply ev_isiI | apply ev_isiB | apply ev_isiT | apply ev_chainI | apply ev_not | apply ev_max2 | apply ev_min2 | apply ev_max3 | apply ev_int1 | apply ev_sorts | apply ev_kinds | apply ev_widths | apply ev_pipes)))
abbrev s_are_widths : Stmt := topS 59
abbrev n_are_widths : List Str := ["thing", "item"]
theorem sc_are_widths : FnScope n_are_widths ["thing"] (defScope s_are_widths) := ⟨rfl, rfl, rfl, by decide +kernel, rfl, by decide +kernel, by decide +kernel⟩

abbrev s_is_pipe : Stmt := topS 60
abbrev n_is_pipe : List Str := ["thing", "many"]
theorem sc_is_pipe : FnScope n_is_pipe ["thing", "many"] (defScope s_is_pipe) := ⟨rfl, rfl, rfl, by decide +kernel, rfl, by decide +kernel, by decide +kernel⟩

abbrev s_gauge : Stmt := topS 61
abbrev n_gauge : List Str := ["widths", "pipe", "one", "other", "steps", "grains", "factors", "end"]
theorem sc_gauge : FnScope n_gauge ["widths", "pipe"] (defScope s_gauge) := ⟨rfl, rfl, rfl, by decide +kernel, rfl, by decide +kernel, by decide +kernel⟩

abbrev s_joined : Stmt := topS 63
abbrev n_joined : List Str := ["names", "one", "other", "name"]
theorem sc_joined : FnScope n_joined ["names", "one", "other"] (defScope s_joined) := ⟨rfl, rfl, rfl, by decide +kernel, rfl, by decide +kernel, by decide +kernel⟩

abbrev s_lots_of : Stmt := topS 64
abbrev n_lots_of : List Str := ["web", "names", "one", "other", "steps"]
theorem sc_lots_of : FnScope n_lots_of ["web"] (defScope s_lots_of) := ⟨rfl, rfl, rfl, by decide +kernel, rfl, by decide +kernel, by decide +kernel⟩

section
variable {P : Program} {w : World} {K : PySem.W.Frag} {mg : Str → Option Value} {base : Heap}
def sp_are_widths (K : PySem.W.Frag) : Sp := spX K (A := List Int) (fun a => [.p (.tup (a.map .int))]) (fun a => 1 ≤ a.length ∧ a.length ≤ 12 ∧ ∀ x ∈ a, 0 ≤ x ∧ x ≤ 12) (fun _ x => x = bD true)
theorem so_are_widths {M : PM} {w : Wb} (h : w.Ok) : SpOk K M (sp_are_widths K) [.p (.tup (w.ws.map .int))] (fun x => x = bD true) := spX_ok w.ws ⟨h.len.1, h.len.2, h.ws⟩
theorem ok_are_widths (G : Gp K mg) (F : Fu K mg "are_widths" "are_widths" "are_widths" s_are_widths ["thing"])
    (D_is_width : Df P w K mg base 3 "is_width" ["thing"] (sp_is_width K)) : Df P w K mg base 4 "are_widths" ["thing"] (sp_are_widths K) := by
  exact df_mk F sc_are_widths (fun _ => rfl) fun f cdv A' outer s H E hr => ⟨_, (pss_cons (ps_if (PW.pt (pw_or (pt_not (pt_val (pe_callB call_isi (by rfl) G.n_isinstance bb_isinstance (pa_cons (pv 0) (pa_cons (pe_bltn (v := .ty "tuple") (by rfl) G.n_tuple bb_tuple rfl) pa_nil))))) (pw_or1 (pt_not (pt_chain op_le op_le pe_int (pe_callB call_len_seq (by rfl) G.n_len bb_len (pa_cons (pv 0) pa_nil)) (pe_glob (v := .int 12) rfl (G.MOST_VESSELS).choose_spec ⟨_, rfl⟩))))))
   (pss_one (ps_ret pe_bl))
   pss_nil)
  (pss_one (ps_ret (pe_callB (cr_all rfl) (by rfl) G.n_all bb_all (pa_cons (pe_lc (own := [("item", 1)]) rfl sc_are_widths.nd (pi_tup (pv 0)) (blkOk_by (own := [("item", 1)]) (N := n_are_widths) (sc := defScope s_are_widths) (by decide +kernel)) (fun _ _ _ _ _ => (pg_name (i := 1) sc_are_widths.nd rfl (Or.inl rfl))) (fun _ _ _ _ _ => pts_nil) (fun _ _ _ _ _ => (pe_callD D_is_width hr (by decide) (by rfl) (pa_cons (pv 1) pa_nil)))) pa_nil))))), fun M a h => by
    obtain ⟨h1, h2, h3⟩ := h
    refine sx_seq (sx_ifF (et_orF (et_notT (et_B (by walk_at "ev"))) (et_notT ((et_test (ev_chainI (a := 1) (b := (a.length : Int)) (c := 12) ?_ ((ev_lenT (ds := a.map .int) ?_).to (by rw [List.length_map])) ?_)).to ?_))) (sx_next ?_))
    · walk_at "ev"
    · walk_at "ev"
    · walk_at "ev"
    · rw [decide_eq_true (show (1 : Int) ≤ (a.length : Int) by omega), decide_eq_true (show (a.length : Int) ≤ 12 by omega)]; rfl
    · exact sx_retV (x := bD true) ((ev_allM (xs := a) (f := fun _ => true) (ev_lcMap (enc := .int) (wx_tupV (ds := a.map .int) (by walk_at "ev")) trivial (by omega) fun x hx => ex_call (xs := [iD x]) (by walk_at "ev") (so_is_width (h3 x hx).1 (h3 x hx).2))).to (by rw [List.all_eq_true.mpr fun _ _ => rfl])) rfl⟩
def sp_is_pipe (K : PySem.W.Frag) : Sp := spX K (A := Pipe × Nat) (fun a => [.p (eP a.1), iD (a.2 : Int)]) (fun a => a.1.1.1 < a.1.1.2 ∧ a.1.1.2 < a.2 ∧ StOk a.1.2) (fun _ x => x = bD true)
theorem so_is_pipe {M : PM} {p : Pipe} {n : Nat} (h : p.1.1 < p.1.2 ∧ p.1.2 < n ∧ StOk p.2) : SpOk K M (sp_is_pipe K) [.p (eP p), iD (n : Int)] (fun x => x = bD true) := spX_ok (p, n) h
theorem ok_is_pipe (G : Gp K mg) (F : Fu K mg "is_pipe" "is_pipe" "is_pipe" s_is_pipe ["thing", "many"])
    (D_is_between : Df P w K mg base 2 "is_between" ["thing", "least", "most"] (sp_is_between K))
    (D_is_triple : Df P w K mg base 1 "is_triple" ["thing"] (sp_is_triple K))
    (D_is_list : Df P w K mg base 4 "is_list" ["thing"] (sp_is_list K)) : Df P w K mg base 5 "is_pipe" ["thing", "many"] (sp_is_pipe K) := by
  exact df_mk F sc_is_pipe (fun _ => rfl) fun f cdv A' outer s H E hr => ⟨_, (pss_cons (ps_if (PW.pt (pw_or (pt_not (pt_val (pe_callD D_is_triple hr (by decide) (by rfl) (pa_cons (pv 0) pa_nil)))) (pw_or1 (pt_not (pt_val (pe_callD D_is_between hr (by decide) (by rfl) (pa_cons (pe_ix ix_tup (pv 0) pe_int (fun _ _ => rfl)) (pa_cons pe_int (pa_cons (pe_op op_sub (pv 1) pe_int) pa_nil)))))))))
   (pss_one (ps_ret pe_bl))
   pss_nil)
  (pss_one (ps_ret (pe_and (pe_callD D_is_between hr (by decide) (by rfl) (pa_cons (pe_ix ix_tup (pv 0) pe_int (fun _ _ => rfl)) (pa_cons (pe_op op_add (pe_ix ix_tup (pv 0) pe_int (fun _ _ => rfl)) pe_int) (pa_cons (pe_op op_sub (pv 1) pe_int) pa_nil)))) (pe_one (pe_callD D_is_list hr (by decide) (by rfl) (pa_cons (pe_ix ix_tup (pv 0) pe_int (fun _ _ => rfl)) pa_nil))))))), fun M a h => by
    obtain ⟨⟨⟨i, j⟩, st⟩, n⟩ := a
    obtain ⟨h1, h2, h3⟩ := h
    have h1' : i < j := h1
    have h2' : j < n := h2
    refine sx_seq (sx_ifF (et_orF (et_notT (et_B (ex_call (xs := [.p (eP ((i, j), st))]) (by walk_at "ev") so_is_triple))) (et_notT (et_B (EV.to (x := bD (decide ((0 : Int) ≤ (i : Int)) && decide ((i : Int) ≤ (n : Int) - 1))) (ex_call (xs := [iD (i : Int), iD 0, iD ((n : Int) - 1)]) (by walk_at "ev") so_is_between) ?_)))) (sx_next ?_))
    · rw [decide_eq_true (by omega), decide_eq_true (by omega)]; rfl
    · refine sx_retV (x := bD true) (ev_andT (EV.to (x := bD (decide ((i : Int) + 1 ≤ (j : Int)) && decide ((j : Int) ≤ (n : Int) - 1))) (ex_call (xs := [iD (j : Int), iD ((i : Int) + 1), iD ((n : Int) - 1)]) (by walk_at "ev") so_is_between) ?_) (ex_call (xs := [.p (eSt st)]) (by walk_at "ev") (so_is_list h3))) rfl
      rw [decide_eq_true (by omega), decide_eq_true (by omega)]; rfl⟩
def sp_gauge (K : PySem.W.Frag) : Sp := spX K (A := Wb × Pipe) (fun a => [.p (.tup (a.1.ws.map .int)), .p (eP a.2)]) (fun a => a.1.Ok ∧ a.2 ∈ a.1.ps) (fun a x => x = .p (eGauge a.1.ws a.2))
theorem so_gauge {M : PM} {w : Wb} {p : Pipe} (h : w.Ok) (h2 : p ∈ w.ps) : SpOk K M (sp_gauge K) [.p (.tup (w.ws.map .int)), .p (eP p)] (fun x => x = .p (eGauge w.ws p)) := spX_ok (w, p) ⟨h, h2⟩
theorem ok_gauge (G : Gp K mg) (F : Fu K mg "gauge" "gauge" "gauge" s_gauge ["widths", "pipe"])
    (D_parts_of_grain : Df P w K mg base 3 "parts_of_grain" ["width", "other"] (sp_pog K))
    (D_in_grains : Df P w K mg base 3 "in_grains" ["steps", "grains"] (sp_in_grains K)) : Df P w K mg base 4 "gauge" ["widths", "pipe"] (sp_gauge K) := by
  exact df_mk F sc_gauge (fun _ => rfl) fun f cdv A' outer s H E hr => ⟨_, (pss_cons (ps_asg (pv 1) (pg_tup rfl (pgs_cons (pg_name (i := 2) sc_gauge.nd rfl (Or.inl rfl)) (pgs_cons (pg_name (i := 3) sc_gauge.nd rfl (Or.inl rfl)) (pgs_cons (pg_name (i := 4) sc_gauge.nd rfl (Or.inl rfl)) pgs_nil)))))
  (pss_cons (ps_set (i := 5) sc_gauge.nd rfl (Or.inr rfl) (pe_callD D_parts_of_grain hr (by decide) (by rfl) (pa_cons (pe_ix ix_tup (pv 0) (pv 2) (fun _ _ => rfl)) (pa_cons (pe_ix ix_tup (pv 0) (pv 3) (fun _ _ => rfl)) pa_nil))))
  (pss_cons (ps_setLc (i := 6) (own := [("end", 7)]) rfl sc_gauge.nd rfl rfl (sw_true rfl rfl rfl (by decide +kernel)) (pi_tup (pe_tup (pa_cons (pv 2) (pa_cons (pv 3) pa_nil)))) (blkOk_by (own := [("end", 7)]) (N := n_gauge) (sc := defScope s_gauge) (by decide +kernel)) (fun _ _ _ _ _ => (pg_name (i := 7) sc_gauge.nd rfl (Or.inl rfl))) (fun _ _ _ _ _ => pts_nil) (fun _ _ _ _ _ => (pe_ifExp (pt_cmpR op_eq (pe_ix (ix_tupK K) (pv 0) (pv 7) (fun _ _ => rfl)) pe_int (nomark _)) pe_int (pe_op op_fdivW (pv 5) (pe_ix (ix_tupK K) (pv 0) (pv 7) (fun _ _ => rfl))))))
  (pss_one (ps_ret (pe_tup (pa_cons (pv 2) (pa_cons (pv 3) (pa_cons (pe_ix ix_list (pv 6) pe_int (fun _ _ => rfl)) (pa_cons (pe_ix ix_list (pv 6) pe_int (fun _ _ => rfl)) (pa_cons (pe_callD D_in_grains hr (by decide) (by rfl) (pa_cons (pv 4) (pa_cons (pv 5) pa_nil))) (pa_cons (pv 5) pa_nil)))))))))))), fun M a h => by
    obtain ⟨w, ⟨⟨i, j⟩, st⟩⟩ := a
    obtain ⟨h1, h2⟩ := h
    have h1 : w.Ok := h1
    obtain ⟨k1, k2, k3⟩ := h1.ps _ h2
    have k1 : i < j := k1
    have k2 : j < w.ws.length := k2
    have k3 : StOk st := k3
    have ea := getD_of (xs := w.ws) (i := i) (by omega)
    have eb := getD_of (xs := w.ws) (i := j) k2
    obtain ⟨a1, a2⟩ := h1.ws _ (getD_mem (xs := w.ws) (i := i) (by omega))
    obtain ⟨b1, b2⟩ := h1.ws _ (getD_mem (xs := w.ws) (i := j) k2)
    have hg := pog_bd a1 a2 b1 b2
    unfold eGauge
    generalize w.ws.getD i 0 = wa at *
    generalize w.ws.getD j 0 = wb at *
    have e1 : (w.ws.map TD.int)[i]? = some (.int wa) := get_map ea
    have e2 : (w.ws.map TD.int)[j]? = some (.int wb) := get_map eb
    refine sx_seq (sx_unp3 (a := .int (i : Int)) (b := .int (j : Int)) (c := eSt st) (by walk_at "ev") ?_)
    refine sx_seq (sx_set (d := .int (pog wa wb)) (ex_call (xs := [iD wa, iD wb]) (evs_cons (ev_ixM (f := TD.int) (x := wa) (n := i) (by walk_at "ev") (by walk_at "ev") ea) (evs_cons (ev_ixM (f := TD.int) (x := wb) (n := j) (by walk_at "ev") (by walk_at "ev") eb) evs_nil)) (so_pog a1 a2 b1 b2)) ?_)
    refine sx_seq (sx_setf (ev_lcMap (xs := [(i, wa), (j, wb)]) (enc := fun p => .int (p.1 : Int)) (h := fun p => .int (facV (pog wa wb) p.2)) (wx_tupV (ds := [.int (i : Int), .int (j : Int)]) (by walk_at "ev"; exact ev_tup (by walk_at "ev"))) trivial (by show 2 ≤ 1000; decide) fun p hp => ?_) fun q => ?_)
    · have hp' : w.ws[p.1]? = some p.2 ∧ 0 ≤ p.2 ∧ p.2 ≤ 12 := by
        rcases List.mem_cons.mp hp with e | e
        · subst e; exact ⟨ea, a1, a2⟩
        · have := List.mem_singleton.mp e
          subst this; exact ⟨eb, b1, b2⟩
      obtain ⟨q1, q2, q3⟩ := hp'
      refine ev_if (b := decide (p.2 = 0)) (et_test (ev_eqI (a := p.2) (b := 0) (ev_ixM (f := TD.int) (x := p.2) (n := p.1) (by walk_at "ev") (by walk_at "ev") q1) ev_int)) (fun hb => ?_) fun hb => ?_
      · have : p.2 = 0 := of_decide_eq_true hb
        unfold facV
        rw [if_pos this]
        exact ev_int
      · have : ¬ p.2 = 0 := of_decide_eq_false hb
        unfold facV
        rw [if_neg this]
        exact ev_I (a := pog wa wb) (b := p.2) (by walk_at "ev") (ev_ixM (f := TD.int) (x := p.2) (n := p.1) (by walk_at "ev") (by walk_at "ev") q1) (Bg.divOk (by omega) (Sm.of (by omega)).bg)
    · refine sx_retV (ev_tup (evt_cons (by walk_at "ev") (evt_cons (by walk_at "ev") (evt_cons (ev_ixL (ds := [.int (facV (pog wa wb) wa), .int (facV (pog wa wb) wb)]) (ev_m rfl) ev_int 0 rfl rfl) (evt_cons (ev_ixL (ds := [.int (facV (pog wa wb) wa), .int (facV (pog wa wb) wb)]) (ev_m rfl) ev_int 1 rfl rfl) (evt_cons (ex_call (xs := [.p (eSt st), iD (pog wa wb)]) (by walk_at "ev") (so_in_grains (by have := k3.2.1; omega) (Sm.of (by omega)) k3.thr)) (evt_cons (by walk_at "ev") evt_nil))))))) rfl⟩
def sp_joined (K : PySem.W.Frag) : Sp := spX K (A := List Int × Nat × Nat) (fun a => [.l (a.1.map .int), iD (a.2.1 : Int), iD (a.2.2 : Int)]) (fun a => a.1.length ≤ 1000 ∧ a.2.1 < a.1.length ∧ a.2.2 < a.1.length) (fun a x => x = .f ((joinedV a.1 a.2.1 a.2.2).map .int))
theorem so_joined {M : PM} {ns : List Int} {i j : Nat} (h : ns.length ≤ 1000) (h1 : i < ns.length) (h2 : j < ns.length) : SpOk K M (sp_joined K) [.l (ns.map .int), iD (i : Int), iD (j : Int)] (fun x => x = .f ((joinedV ns i j).map .int)) := spX_ok (ns, i, j) ⟨h, h1, h2⟩
theorem ok_joined (G : Gp K mg) (F : Fu K mg "joined" "joined" "joined" s_joined ["names", "one", "other"]) : Df P w K mg base 1 "joined" ["names", "one", "other"] (sp_joined K) := by
  exact df_mk F sc_joined (fun _ => rfl) fun f cdv A' outer s H E hr => ⟨_, (pss_one (ps_ret (pe_lc (own := [("name", 3)]) rfl sc_joined.nd (pi_list (pv 0)) (blkOk_by (own := [("name", 3)]) (N := n_joined) (sc := defScope s_joined) (by decide +kernel)) (fun _ _ _ _ _ => (pg_name (i := 3) sc_joined.nd rfl (Or.inl rfl))) (fun _ _ _ _ _ => pts_nil) (fun _ _ _ _ _ => (pe_ifExp (pt_cmpR op_eq (pv 3) (pe_ix (ix_listK K) (pv 0) (pv 2) (fun _ _ => rfl)) (nomark _)) (pe_ix (ix_listK K) (pv 0) (pv 1) (fun _ _ => rfl)) (pv 3)))))), fun M a h => by
    obtain ⟨ns, i, j⟩ := a
    obtain ⟨h1, h2, h3⟩ := h
    have ea : (ns.map TD.int)[i]? = _ := get_map (f := TD.int) (getD_of (xs := ns) h2)
    have eb : (ns.map TD.int)[j]? = _ := get_map (f := TD.int) (getD_of (xs := ns) h3)
    unfold joinedV
    rw [List.map_map]
    refine sx_retV (x := .f (ns.map (TD.int ∘ fun x => if x = ns.getD j 0 then ns.getD i 0 else x))) (ev_lcMap (xs := ns) (enc := .int) (wx_listL rfl) trivial h1 fun x hx => ?_) rfl
    refine ev_if (b := decide (x = ns.getD j 0)) (et_test (ev_eqI (a := x) (b := ns.getD j 0) (by walk_at "ev") (ev_ixL (ds := ns.map .int) (by walk_at "ev") (by walk_at "ev") j rfl eb))) (fun hb => ?_) fun hb => ?_
    · have : x = ns.getD j 0 := of_decide_eq_true hb
      show EV K M _ _ (.p (.int (if x = ns.getD j 0 then ns.getD i 0 else x)))
      rw [if_pos this]
      exact ev_ixL (ds := ns.map .int) (by walk_at "ev") (by walk_at "ev") i rfl ea
    · have : ¬ x = ns.getD j 0 := of_decide_eq_false hb
      show EV K M _ _ (.p (.int (if x = ns.getD j 0 then ns.getD i 0 else x)))
      rw [if_neg this]
      walk_at "ev"⟩
def sp_lots_of (K : PySem.W.Frag) : Sp := spX K (A := Wb) (fun a => [wbD a]) Wb.Ok (fun a x => x = .f ((lotsV a.ws.length a.ps).map .int))
theorem so_lots_of {M : PM} {w : Wb} (h : w.Ok) : SpOk K M (sp_lots_of K) [wbD w] (fun x => x = .f ((lotsV w.ws.length w.ps).map .int)) := spX_ok w h
theorem ok_lots_of (G : Gp K mg) (F : Fu K mg "lots_of" "lots_of" "lots_of" s_lots_of ["web"])
    (D_joined : Df P w K mg base 1 "joined" ["names", "one", "other"] (sp_joined K)) : Df P w K mg base 2 "lots_of" ["web"] (sp_lots_of K) := by
  exact df_mk F sc_lots_of (fun _ => rfl) fun f cdv A' outer s H E hr => ⟨_, (pss_cons (ps_set (i := 1) sc_lots_of.nd rfl (Or.inl rfl) (pe_listRg rfl (by rfl) G.n_list (prg_1 (by rfl) G.n_range (pe_callB call_len_seq (by rfl) G.n_len bb_len (pa_cons (pe_fld (pv 0) rfl) pa_nil)))))
  (pss_cons (ps_for PassesOwn.never rfl (pi_tup (pe_fld (pv 0) rfl)) (pg_tup rfl (pgs_cons (pg_name (i := 2) sc_lots_of.nd rfl (Or.inl rfl)) (pgs_cons (pg_name (i := 3) sc_lots_of.nd rfl (Or.inl rfl)) (pgs_cons (pg_name (i := 4) sc_lots_of.nd rfl (Or.inl rfl)) pgs_nil))))
   (pss_one (ps_set (i := 1) sc_lots_of.nd rfl (Or.inl rfl) (pe_callD D_joined hr (by decide) (by rfl) (pa_cons (pv 1) (pa_cons (pv 2) (pa_cons (pv 3) pa_nil)))))))
  (pss_one (ps_ret (pv 1))))), fun M a h => by
    have hl := h.len.2
    refine sx_seq (sx_setf (ev_listRg (n := a.ws.length) ((ev_lenT (ds := a.ws.map .int) (by walk_at "ev")).to (by rw [List.length_map])) (by omega)) fun q => ?_)
    refine sx_seq (sx_for (wx_tupV (ds := a.ps.map eP) (by walk_at "ev")) (fun i ρ' => ∃ q z1 z2 z3, ρ' = [some (wbD a), some (.m q ((lotsV a.ws.length (a.ps.take i)).map .int)), z1, z2, z3]) ⟨q, none, none, none, ?_⟩ (fun _ _ _ => trivial) (fun i d ρ' hd ⟨q, z1, z2, z3, e⟩ => ?_) fun ρ' ⟨q, z1, z2, z3, e⟩ => ?_)
    · unfold lotsV; rw [List.take_zero, List.foldl_nil, List.map_map]; rfl
    · obtain ⟨p, hp, ed, hm⟩ := map_get hd
      subst e ed
      obtain ⟨g1, g2, _⟩ := h.ps p hm
      have e1 := lotsV_len a.ws.length (a.ps.take i)
      refine gx_tup3 (gx_name (gx_name (gx_name ?_)))
      refine sx_setf (ds := (lotsV a.ws.length (a.ps.take (i + 1))).map .int) ?_ fun q => ⟨q, _, _, _, rfl⟩
      rw [lotsV_succ hp]
      exact ex_call (xs := [.l ((lotsV a.ws.length (a.ps.take i)).map .int), iD (p.1.1 : Int), iD (p.1.2 : Int)]) (by walk_at "ev") (so_joined (by omega) (by omega) (by omega))
    · subst e
      rw [List.length_map, List.take_length]
      exact sx_retM rfl rfl⟩
end
end K37
end
section
set_option Elab.async false
set_option linter.all false
set_option maxHeartbeats 4000000
/-! MC: the plain functions of the calm module, their bounds. -/
namespace K37
theorem mk_den {t b : Int} (h : 0 < b) : 1 ≤ (mk t b).2 ∧ (mk t b).2 ≤ b := by
  have hg := gcd_pos (t := t) h
  have h1 : 0 < b / (Int.gcd t b : Int) := Int.ediv_pos_of_pos_of_dvd h (Int.le_of_lt hg) (Int.gcd_dvd_right t b)
  exact ⟨h1, Int.ediv_le_self _ (Int.le_of_lt h)⟩
theorem mk_num {t b : Int} : (mk t b).1.natAbs ≤ t.natAbs := Int.natAbs_ediv_le_natAbs _ _
theorem mk_gcd {t b : Int} (h : 0 < b) : Int.gcd (mk t b).1 (mk t b).2 = 1 := Int.gcd_ediv_gcd_ediv_gcd (by have := gcd_pos (t := t) h; omega)
theorem mk_pos {t b : Int} (ht : 0 < t) (h : 0 < b) : 0 < (mk t b).1 := Int.ediv_pos_of_pos_of_dvd ht (Int.le_of_lt (gcd_pos h)) (Int.gcd_dvd_left t b)
theorem nextW_bd {x : Fr} (h : 1 ≤ x.1) (h2 : 1 ≤ x.2) : 1 ≤ nextW x ∧ nextW x ≤ x.1 := by
  unfold nextW
  have k1 : (-x.1) / x.2 < 0 := Int.ediv_neg_of_neg_of_pos (by omega) (by omega)
  have k2 : -x.1 ≤ (-x.1) / x.2 := Int.le_ediv_of_mul_le (by omega) (by
    have := Int.mul_le_mul_of_nonneg_left (show (1 : Int) ≤ x.2 from h2) (show (0 : Int) ≤ x.1 by omega)
    rw [Int.neg_mul]
    omega)
  omega
theorem units_len (s : List Fr) (g : Int) : (units s g).length = s.length := List.length_map ..
theorem units_bd {s : List Fr} {g : Int} (h : StOk s) (h1 : 1 ≤ g) (h2 : g ≤ 144) : ∀ u ∈ units s g, 1 ≤ u ∧ u ≤ 1000000000 := by
  intro u hu
  obtain ⟨x, hx, rfl⟩ := List.mem_map.mp hu
  obtain ⟨k1, k2, k3, k4, _⟩ := h.2.2.1 x hx
  have t1 : 0 < x.1 * g := Int.mul_pos (by omega) (by omega)
  have t2 : x.1 * g ≤ 1000000 * 144 := Int.mul_le_mul k2 h2 (by omega) (by decide)
  have m1 := mk_pos (b := x.2) t1 (by omega)
  have m2 := mk_den (t := x.1 * g) (b := x.2) (by omega)
  have m3 := mk_num (t := x.1 * g) (b := x.2)
  have := nextW_bd (x := mk (x.1 * g) x.2) (by omega) (by omega)
  omega
theorem runsAt_bd (us : List Int) (n : Int) : (runsAt us n).natAbs ≤ us.length := by
  have := List.length_filter_le (fun u => decide (u ≤ absI n)) us
  unfold runsAt
  split <;> omega
def swingV (a b : Fr) (g : Int) : Int := (([a, b].filter fun s => decide (s.1 > 0)).map fun s => s.2 * g / s.1).sum
theorem swing_bd {a b : Fr} {g : Int} (h1 : SortOk a) (h2 : SortOk b) (h3 : 1 ≤ g) (h4 : g ≤ 144) : 0 ≤ swingV a b g ∧ swingV a b g ≤ 2000 := by
  have one : ∀ s : Fr, SortOk s → s.1 > 0 → 0 ≤ s.2 * g / s.1 ∧ s.2 * g / s.1 ≤ 864 := by
    intro s ⟨k1, k2, k3, k4⟩ k5
    have t1 : 0 < s.2 * g := Int.mul_pos (by omega) (by omega)
    have t2 : s.2 * g ≤ 6 * 144 := Int.mul_le_mul k4 h4 (by omega) (by decide)
    have t3 := Int.ediv_nonneg (a := s.2 * g) (b := s.1) (by omega) (by omega)
    have t4 := Int.ediv_le_self (a := s.2 * g) s.1 (by omega)
    omega
  unfold swingV
  by_cases ha : a.1 > 0 <;> by_cases hb : b.1 > 0
  · have := one a h1 ha; have := one b h2 hb
    simp [ha, hb]; omega
  · have := one a h1 ha
    simp [ha, hb]; omega
  · have := one b h2 hb
    simp [ha, hb]; omega
  · simp [ha, hb]
def gr (a c : Fr) : Int := pog a.1 c.1
theorem gr_bd {a c : Fr} (h1 : SortOk a) (h2 : SortOk c) : 1 ≤ gr a c ∧ gr a c ≤ 144 := pog_bd h1.1 h1.2.1 h2.1 h2.2.1
def hit (us : List Int) (far u : Int) : Bool := decide (runsAt us u * far ≥ 2 * u)
def fb (st : List Fr) (a c : Fr) : Option Int := (units st (gr a c)).find? (hit (units st (gr a c)) (swingV a c (gr a c)))
def lossAt (st : List Fr) (a c : Fr) : List Fr := (units st (gr a c)).map fun u => mk (2 * u - runsAt (units st (gr a c)) u * swingV a c (gr a c)) (gr a c)
def capd (capped : Bool) (s : Fr) : Fr := if capped then s else (s.1, 1)
theorem capd_ok {c : Bool} {s : Fr} (h : SortOk s) : SortOk (capd c s) := by
  cases c
  · exact ⟨h.1, h.2.1, (by decide : (1 : Int) ≤ 1), (by decide : (1 : Int) ≤ 6)⟩
  · exact h
def ssAt (ss : List Fr) (i : Nat) : Fr := ss.getD i (0, 1)
theorem ssAt_of {ss : List Fr} {i : Nat} {a : Fr} (h : ss[i]? = some a) : ssAt ss i = a := by
  unfold ssAt
  rw [List.getD_eq_getElem?_getD, h]; rfl
def lossesK (ss : List Fr) (capped : Bool) (k : Kind) : List Fr := k.2.flatMap fun j => lossAt k.1 (capd capped (ssAt ss j.1)) (capd capped (ssAt ss j.2))
def lossesV (b : Bk) (capped : Bool) : List Fr := b.ks.flatMap (lossesK b.ss capped)
def roomV (b : Bk) (i j : Nat) : Fr := addF (partF (ssAt b.ss i).2 (ssAt b.ss i).1) (partF (ssAt b.ss j).2 (ssAt b.ss j).1)
/-- no breach at all -/
def NoBr (b : Bk) : Prop := ∀ k ∈ b.ks, ∀ j ∈ k.2, fb k.1 (ssAt b.ss j.1) (ssAt b.ss j.2) = none
structure BrAt (b : Bk) (n : Nat) (j : Jn) (u : Int) (k : Kind) : Prop where
  hk : b.ks[n]? = some k
  hj : j ∈ k.2
  hu : fb k.1 (ssAt b.ss j.1) (ssAt b.ss j.2) = some u
def leastF : List Fr → Option Fr
  | [] => none
  | x :: xs => some ((x :: xs).foldl (fun m y => if below y m then y else m) x)
theorem flat_len {α β : Type} {f : α → List β} {n : Nat} : ∀ {xs : List α}, (∀ x ∈ xs, (f x).length ≤ n) → (xs.flatMap f).length ≤ n * xs.length
  | [], _ => by simp
  | x :: xs, h => by
    have h1 := h x (List.mem_cons_self ..)
    have h2 := flat_len (xs := xs) fun y hy => h y (List.mem_cons_of_mem _ hy)
    rw [List.flatMap_cons, List.length_append, List.length_cons, Nat.mul_add]
    omega
theorem flat_take {α β : Type} {f : α → List β} {xs : List α} {i : Nat} {x : α} (h : xs[i]? = some x) : (xs.take (i + 1)).flatMap f = (xs.take i).flatMap f ++ f x := by
  rw [List.take_add_one, h, List.flatMap_append]
  simp
theorem JoinOk.at {ss : List Fr} {j : Jn} (h : JoinOk ss j) : ss[j.1]? = some (ssAt ss j.1) ∧ ss[j.2]? = some (ssAt ss j.2) := by
  obtain ⟨a, b, h1, h2, _⟩ := h
  rw [ssAt_of h1, ssAt_of h2]
  exact ⟨h1, h2⟩
theorem Bk.Ok.so {b : Bk} (h : b.Ok) {i : Nat} {a : Fr} (e : b.ss[i]? = some a) : SortOk a := h.ss.2.2.1 a (List.mem_of_getElem? e)
theorem Bk.Ok.at {b : Bk} (h : b.Ok) {k : Kind} {j : Jn} (hk : k ∈ b.ks) (hj : j ∈ k.2) : b.ss[j.1]? = some (ssAt b.ss j.1) ∧ b.ss[j.2]? = some (ssAt b.ss j.2) ∧ SortOk (ssAt b.ss j.1) ∧ SortOk (ssAt b.ss j.2) := by
  obtain ⟨h1, h2⟩ := ((h.ks k hk).2.2.2.1 j hj).at
  exact ⟨h1, h2, h.so h1, h.so h2⟩
theorem fb_hit {st : List Fr} {a c : Fr} {u : Int} (h : fb st a c = some u) : u ∈ units st (gr a c) ∧ hit (units st (gr a c)) (swingV a c (gr a c)) u = true := ⟨List.mem_of_find?_eq_some h, List.find?_some h⟩
/-- what a loss is, bounded -/
theorem lossAt_ok {st : List Fr} {a c : Fr} (hs : StOk st) (h1 : SortOk a) (h2 : SortOk c) : ∀ x ∈ lossAt st a c, 1 ≤ x.2 ∧ x.2 ≤ 144 ∧ x.1.natAbs ≤ 10000000000 ∧ Int.gcd x.1 x.2 = 1 := by
  intro x hx
  obtain ⟨u, hu, rfl⟩ := List.mem_map.mp hx
  have g := gr_bd h1 h2
  have b1 := units_bd hs g.1 g.2 u hu
  have b2 := runsAt_bd (units st (gr a c)) u
  rw [units_len] at b2
  have b3 := swing_bd h1 h2 g.1 g.2
  have b4 := hs.2.1
  have m := mk_den (t := 2 * u - runsAt (units st (gr a c)) u * swingV a c (gr a c)) (b := gr a c) (by omega)
  have m2 := mk_num (t := 2 * u - runsAt (units st (gr a c)) u * swingV a c (gr a c)) (b := gr a c)
  have p : (runsAt (units st (gr a c)) u * swingV a c (gr a c)).natAbs ≤ 6 * 2000 := by
    rw [Int.natAbs_mul]
    exact Nat.mul_le_mul (by omega) (by omega)
  exact ⟨m.1, by omega, by omega, mk_gcd (by omega)⟩
theorem cross {t b d : Int} (h1 : d ∣ t) (h2 : d ∣ b) : t / d * b = t * (b / d) := by
  by_cases h : d = 0
  · subst h
    rw [Int.ediv_zero, Int.ediv_zero, Int.zero_mul, Int.mul_zero]
  · obtain ⟨q, rfl⟩ := h1
    obtain ⟨r, rfl⟩ := h2
    rw [Int.mul_ediv_cancel_left _ h, Int.mul_ediv_cancel_left _ h, Int.mul_left_comm, Int.mul_assoc]
theorem mk_cross (t b : Int) : (mk t b).1 * b = t * (mk t b).2 := cross (Int.gcd_dvd_left t b) (Int.gcd_dvd_right t b)
theorem dec_t {p : Prop} {i : Decidable p} (h : p) : @decide p i = true := by
  cases i with
  | isTrue _ => rfl
  | isFalse n => exact absurd h n
end K37
end
section
set_option Elab.async false
set_option linter.all false
set_option maxRecDepth 100000
set_option maxHeartbeats 4000000
namespace K37
open PySem PySem.Spec PyProof.Rows L2
local macro_rules | `(tactic| walk_at "ev") => `(tactic| (repeat' (first
  | exact ev_p rfl | exact ev_m rfl | exact ev_l rfl | exact ev_o rfl | exact ev_pool rfl | exact ev_int | exact ev_bl | exact ev_non | exact evs_nil | exact evt_nil
  | apply evs_cons | apply evt_cons | apply ev_ix0 | apply ev_ix1 | apply ev_ix2
  | apply ev_I0 | apply ev_IB | apply ev_eqI | apply ev_neI | apply ev_neg | apply ev_abs
  | apply ev_lenT | apply ev_lenL | apply ev_lenF | apply ev_isN | apply ev_notN | apply et_test | apply et_B | apply et_not
  | apply ev_isiI | apply ev_isiB | apply ev_isiT | apply ev_chainI | apply ev_not | apply ev_max2 | apply ev_min2 | apply ev_max3 | apply ev_int1 | apply ev_sorts | apply ev_kinds | apply ev_widths | apply ev_pipes)))
abbrev s_check_sorts : Stmt := topS 67
abbrev n_check_sorts : List Str := ["book", "i", "j", "last"]
theorem sc_check_sorts : FnScope n_check_sorts ["book", "i", "j"] (defScope s_check_sorts) := ⟨rfl, rfl, rfl, by decide +kernel, rfl, by decide +kernel, by decide +kernel⟩

abbrev s_room_of : Stmt := topS 68
abbrev n_room_of : List Str := ["book", "i", "j"]
theorem sc_room_of : FnScope n_room_of ["book", "i", "j"] (defScope s_room_of) := ⟨rfl, rfl, rfl, by decide +kernel, rfl, by decide +kernel, by decide +kernel⟩

abbrev s_room : Stmt := topS 69
abbrev n_room : List Str := ["book", "i", "j"]
theorem sc_room : FnScope n_room ["book", "i", "j"] (defScope s_room) := ⟨rfl, rfl, rfl, by decide +kernel, rfl, by decide +kernel, by decide +kernel⟩

abbrev s_swing : Stmt := topS 70
abbrev n_swing : List Str := ["one", "other", "grains", "width", "cap"]
theorem sc_swing : FnScope n_swing ["one", "other", "grains"] (defScope s_swing) := ⟨rfl, rfl, rfl, by decide +kernel, rfl, by decide +kernel, by decide +kernel⟩

abbrev s_grains_of : Stmt := topS 71
abbrev n_grains_of : List Str := ["one", "other"]
theorem sc_grains_of : FnScope n_grains_of ["one", "other"] (defScope s_grains_of) := ⟨rfl, rfl, rfl, by decide +kernel, rfl, by decide +kernel, by decide +kernel⟩

abbrev s_first_breach : Stmt := topS 72
abbrev n_first_breach : List Str := ["steps", "one", "other", "grains", "far", "units", "unit"]
theorem sc_first_breach : FnScope n_first_breach ["steps", "one", "other"] (defScope s_first_breach) := ⟨rfl, rfl, rfl, by decide +kernel, rfl, by decide +kernel, by decide +kernel⟩

abbrev s_sorts_at : Stmt := topS 73
abbrev n_sorts_at : List Str := ["book", "pair"]
theorem sc_sorts_at : FnScope n_sorts_at ["book", "pair"] (defScope s_sorts_at) := ⟨rfl, rfl, rfl, by decide +kernel, rfl, by decide +kernel, by decide +kernel⟩

theorem partF_ok {t w : Int} (h : 0 ≤ w) (h2 : w ≤ 1000000) (ht : t.natAbs ≤ 100000000) : 0 < (partF t w).2 ∧ Sm (partF t w).1 ∧ Sm (partF t w).2 := by
  unfold partF
  by_cases e : w = 0
  · rw [if_pos e]; exact ⟨by decide, .of (by decide), .of (by decide)⟩
  · rw [if_neg e]
    have m := mk_den (t := t) (b := w) (by omega)
    have m2 := mk_num (t := t) (b := w)
    exact ⟨by omega, .of (by omega), .of (by omega)⟩
section
variable {P : Program} {w : World} {K : PySem.W.Frag} {mg : Str → Option Value} {base : Heap}
def sp_check_sorts (K : PySem.W.Frag) : Sp := spX K (A := Bk × Nat × Nat) (fun a => [bkD a.1, iD (a.2.1 : Int), iD (a.2.2 : Int)]) (fun a => ∃ x y : Fr, a.1.ss[a.2.1]? = some x ∧ a.1.ss[a.2.2]? = some y ∧ (0 < x.1 ∨ 0 < y.1)) (fun _ x => x = nD)
theorem so_check_sorts {M : PM} {b : Bk} {i j : Nat} {x y : Fr} (h1 : b.ss[i]? = some x) (h2 : b.ss[j]? = some y) (h3 : 0 < x.1 ∨ 0 < y.1) : SpOk K M (sp_check_sorts K) [bkD b, iD (i : Int), iD (j : Int)] (fun x => x = nD) := spX_ok (b, i, j) ⟨x, y, h1, h2, h3⟩
theorem ok_check_sorts (G : Gp K mg) (F : Fu K mg "check_sorts" "check_sorts" "check_sorts" s_check_sorts ["book", "i", "j"])
    (D_is_between : Df P w K mg base 2 "is_between" ["thing", "least", "most"] (sp_is_between K)) : Df P w K mg base 3 "check_sorts" ["book", "i", "j"] (sp_check_sorts K) := by
  exact df_mk F sc_check_sorts (fun _ => rfl) fun f cdv A' outer s H E hr => ⟨_, (pss_cons (ps_set (i := 3) sc_check_sorts.nd rfl (Or.inl rfl) (pe_op op_sub (pe_callB call_len_seq (by rfl) G.n_len bb_len (pa_cons (pe_fld (pv 0) rfl) pa_nil)) pe_int))
  (pss_cons (ps_if (PW.pt (pw_or (pt_not (pt_val (pe_callD D_is_between hr (by decide) (by rfl) (pa_cons (pv 1) (pa_cons pe_int (pa_cons (pv 3) pa_nil)))))) (pw_or1 (pt_not (pt_val (pe_callD D_is_between hr (by decide) (by rfl) (pa_cons (pv 2) (pa_cons pe_int (pa_cons (pv 3) pa_nil)))))))))
   (pss_one ps_never)
   pss_nil)
  (pss_one (ps_if (PW.pt (pw_and (pt_cmpR op_eq (pe_ix ix_tup (pe_ix ix_tup (pe_fld (pv 0) rfl) (pv 1) (fun _ _ => rfl)) pe_int (fun _ _ => rfl)) pe_int (nomark _)) (pw_and1 (pt_cmpR op_eq (pe_ix ix_tup (pe_ix ix_tup (pe_fld (pv 0) rfl) (pv 2) (fun _ _ => rfl)) pe_int (fun _ _ => rfl)) pe_int (nomark _)))))
   (pss_one ps_never)
   pss_nil)))), fun M a h => by
    obtain ⟨b, i, j⟩ := a
    obtain ⟨x, y, h1, h2, h3⟩ := h
    have l1 : i < b.ss.length := (List.getElem?_eq_some_iff.mp h1).1
    have l2 : j < b.ss.length := (List.getElem?_eq_some_iff.mp h2).1
    refine sx_seq (sx_set (d := .int ((b.ss.length : Int) - 1)) (ev_I0 (a := (b.ss.length : Int)) (b := 1) ((ev_lenT (ds := b.ss.map eFr) (by walk_at "ev")).to (by rw [List.length_map])) ev_int) ?_)
    refine sx_seq (sx_ifF (et_orF (et_notT (et_B (EV.to (x := bD (decide ((0 : Int) ≤ (i : Int)) && decide ((i : Int) ≤ (b.ss.length : Int) - 1))) (ex_call (xs := [iD (i : Int), iD 0, iD ((b.ss.length : Int) - 1)]) (by walk_at "ev") so_is_between) ?_))) (et_notT (et_B (EV.to (x := bD (decide ((0 : Int) ≤ (j : Int)) && decide ((j : Int) ≤ (b.ss.length : Int) - 1))) (ex_call (xs := [iD (j : Int), iD 0, iD ((b.ss.length : Int) - 1)]) (by walk_at "ev") so_is_between) ?_)))) (sx_next ?_))
    · rw [decide_eq_true (by omega), decide_eq_true (by omega)]; rfl
    · rw [decide_eq_true (by omega), decide_eq_true (by omega)]; rfl
    · refine sx_ifF ((et_and (a := decide (x.1 = 0)) (b := decide (y.1 = 0)) (et_test (ev_eqI (a := x.1) (b := 0) (ev_ix0 (ev_ixM (f := eFr) (x := x) (n := i) (by walk_at "ev") (by walk_at "ev") h1)) ev_int)) fun _ => (et_test (ev_eqI (a := y.1) (b := 0) (ev_ix0 (ev_ixM (f := eFr) (x := y) (n := j) (by walk_at "ev") (by walk_at "ev") h2)) ev_int))).to ?_) (sx_next rfl)
      rcases h3 with q | q
      · rw [decide_eq_false (show ¬ x.1 = 0 by omega), Bool.false_and]
      · rw [decide_eq_false (show ¬ y.1 = 0 by omega), Bool.and_false]⟩
def sp_room_of (K : PySem.W.Frag) : Sp := spX K (A := Bk × Nat × Nat) (fun a => [bkD a.1, iD (a.2.1 : Int), iD (a.2.2 : Int)]) (fun a => ∃ x y : Fr, a.1.ss[a.2.1]? = some x ∧ a.1.ss[a.2.2]? = some y ∧ SortOk x ∧ SortOk y) (fun a x => x = frD (roomV a.1 a.2.1 a.2.2))
theorem so_room_of {M : PM} {b : Bk} {i j : Nat} {x y : Fr} (h1 : b.ss[i]? = some x) (h2 : b.ss[j]? = some y) (h3 : SortOk x) (h4 : SortOk y) : SpOk K M (sp_room_of K) [bkD b, iD (i : Int), iD (j : Int)] (fun x => x = frD (roomV b i j)) := spX_ok (b, i, j) ⟨x, y, h1, h2, h3, h4⟩
theorem ok_room_of (G : Gp K mg) (F : Fu K mg "room_of" "room_of" "room_of" s_room_of ["book", "i", "j"])
    (D_added : Df P w K mg base 3 "added" ["one", "other"] (sp_F2 K addF))
    (D_part_of : Df P w K mg base 3 "part_of" ["top", "width"] (sp_part_of K)) : Df P w K mg base 4 "room_of" ["book", "i", "j"] (sp_room_of K) := by
  exact df_mk F sc_room_of (fun _ => rfl) fun f cdv A' outer s H E hr => ⟨_, (pss_one (ps_ret (pe_callD D_added hr (by decide) (by rfl) (pa_cons (pe_callD D_part_of hr (by decide) (by rfl) (pa_cons (pe_ix ix_tup (pe_ix ix_tup (pe_fld (pv 0) rfl) (pv 1) (fun _ _ => rfl)) pe_int (fun _ _ => rfl)) (pa_cons (pe_ix ix_tup (pe_ix ix_tup (pe_fld (pv 0) rfl) (pv 1) (fun _ _ => rfl)) pe_int (fun _ _ => rfl)) pa_nil))) (pa_cons (pe_callD D_part_of hr (by decide) (by rfl) (pa_cons (pe_ix ix_tup (pe_ix ix_tup (pe_fld (pv 0) rfl) (pv 2) (fun _ _ => rfl)) pe_int (fun _ _ => rfl)) (pa_cons (pe_ix ix_tup (pe_ix ix_tup (pe_fld (pv 0) rfl) (pv 2) (fun _ _ => rfl)) pe_int (fun _ _ => rfl)) pa_nil))) pa_nil))))), fun M a h => by
    obtain ⟨b, i, j⟩ := a
    obtain ⟨x, y, h1, h2, ⟨a1, a2, a3, a4⟩, ⟨b1, b2, b3, b4⟩⟩ := h
    have e : roomV b i j = addF (partF x.2 x.1) (partF y.2 y.1) := by
      unfold roomV
      rw [ssAt_of h1, ssAt_of h2]
    have p1 := partF_ok (t := x.2) (w := x.1) a1 (by omega) (by omega)
    have p2 := partF_ok (t := y.2) (w := y.1) b1 (by omega) (by omega)
    show SX K M _ _ (fin fun z => z = frD (roomV b i j))
    rw [e]
    have q1 := ev_ixM (K := K) (M := M) (ρ := slots n_room_of [bkD b, iD (i : Int), iD (j : Int)]) (f := eFr) (x := x) (n := i) (ev_sorts (b := b) (ev_o (i := 0) rfl)) (ev_p (i := 1) rfl) h1
    have q2 := ev_ixM (K := K) (M := M) (ρ := slots n_room_of [bkD b, iD (i : Int), iD (j : Int)]) (f := eFr) (x := y) (n := j) (ev_sorts (b := b) (ev_o (i := 0) rfl)) (ev_p (i := 2) rfl) h2
    exact sx_retV (ex_call (xs := [frD (partF x.2 x.1), frD (partF y.2 y.1)]) (evs_cons (ex_call (xs := [iD x.2, iD x.1]) (evs_cons (ev_ix1 q1) (evs_cons (ev_ix0 q1) evs_nil)) (so_part_of a1 (Sm.of (by omega)).bg)) (evs_cons (ex_call (xs := [iD y.2, iD y.1]) (evs_cons (ev_ix1 q2) (evs_cons (ev_ix0 q2) evs_nil)) (so_part_of b1 (Sm.of (by omega)).bg)) evs_nil)) (so_F2 p1.1 p2.1 p1.2.1 p1.2.2 p2.2.1 p2.2.2)) rfl⟩
def sp_room (K : PySem.W.Frag) : Sp := spX K (A := Bk × Nat × Nat) (fun a => [bkD a.1, iD (a.2.1 : Int), iD (a.2.2 : Int)]) (fun a => ∃ x y : Fr, a.1.ss[a.2.1]? = some x ∧ a.1.ss[a.2.2]? = some y ∧ SortOk x ∧ SortOk y ∧ (0 < x.1 ∨ 0 < y.1)) (fun a x => x = frD (roomV a.1 a.2.1 a.2.2))
theorem so_room {M : PM} {b : Bk} {i j : Nat} {x y : Fr} (h1 : b.ss[i]? = some x) (h2 : b.ss[j]? = some y) (h3 : SortOk x) (h4 : SortOk y) (h5 : 0 < x.1 ∨ 0 < y.1) : SpOk K M (sp_room K) [bkD b, iD (i : Int), iD (j : Int)] (fun x => x = frD (roomV b i j)) := spX_ok (b, i, j) ⟨x, y, h1, h2, h3, h4, h5⟩
theorem ok_room (G : Gp K mg) (F : Fu K mg "room" "room" "room" s_room ["book", "i", "j"])
    (D_check_sorts : Df P w K mg base 3 "check_sorts" ["book", "i", "j"] (sp_check_sorts K))
    (D_room_of : Df P w K mg base 4 "room_of" ["book", "i", "j"] (sp_room_of K)) : Df P w K mg base 5 "room" ["book", "i", "j"] (sp_room K) := by
  exact df_mk F sc_room (fun _ => rfl) fun f cdv A' outer s H E hr => ⟨_, (pss_cons (ps_expr (pe_callD D_check_sorts hr (by decide) (by rfl) (pa_cons (pv 0) (pa_cons (pv 1) (pa_cons (pv 2) pa_nil)))))
  (pss_one (ps_ret (pe_callD D_room_of hr (by decide) (by rfl) (pa_cons (pv 0) (pa_cons (pv 1) (pa_cons (pv 2) pa_nil))))))), fun M a h => by
    obtain ⟨b, i, j⟩ := a
    obtain ⟨x, y, h1, h2, h3, h4, h5⟩ := h
    refine sx_seq (sx_drop ((ex_call (xs := [bkD b, iD (i : Int), iD (j : Int)]) (by walk_at "ev") (so_check_sorts h1 h2 h5)).mono fun _ _ => trivial) ?_)
    exact sx_retV (ex_call (xs := [bkD b, iD (i : Int), iD (j : Int)]) (by walk_at "ev") (so_room_of h1 h2 h3 h4)) rfl⟩
def sp_swing (K : PySem.W.Frag) : Sp := spX K (A := Fr × Fr × Int) (fun a => [frD a.1, frD a.2.1, iD a.2.2]) (fun a => SortOk a.1 ∧ SortOk a.2.1 ∧ Sm a.2.2) (fun a x => x = iD (swingV a.1 a.2.1 a.2.2))
theorem so_swing {M : PM} {a b : Fr} {g : Int} (h1 : SortOk a) (h2 : SortOk b) (h3 : Sm g) : SpOk K M (sp_swing K) [frD a, frD b, iD g] (fun x => x = iD (swingV a b g)) := spX_ok (a, b, g) ⟨h1, h2, h3⟩
theorem ok_swing (G : Gp K mg) (F : Fu K mg "swing" "swing" "swing" s_swing ["one", "other", "grains"]) : Df P w K mg base 1 "swing" ["one", "other", "grains"] (sp_swing K) := by
  exact df_mk F sc_swing (fun _ => rfl) fun f cdv A' outer s H E hr => ⟨_, (pss_one (ps_ret (pe_callB (cr_sum rfl) (by rfl) G.n_sum bb_sum (pa_cons (pe_lc (own := [("width", 3), ("cap", 4)]) rfl sc_swing.nd (pi_tup (pe_tup (pa_cons (pv 0) (pa_cons (pv 1) pa_nil)))) (blkOk_by (own := [("width", 3), ("cap", 4)]) (N := n_swing) (sc := defScope s_swing) (by decide +kernel)) (fun _ _ _ _ _ => (pg_tupK K (n := 2) rfl (pgs_cons (pg_name (i := 3) sc_swing.nd rfl (Or.inl rfl)) (pgs_cons (pg_name (i := 4) sc_swing.nd rfl (Or.inl rfl)) pgs_nil)))) (fun _ _ _ _ _ => pts_one (pt_cmpR op_gt (pv 3) pe_int (nomark _))) (fun _ _ _ _ _ => (pe_op op_fdivW (pe_op op_mulW (pv 4) (pv 2)) (pv 3)))) pa_nil)))), fun M a h => by
    obtain ⟨a, b, g⟩ := a
    obtain ⟨h1, h2, h3⟩ := h
    have so : ∀ s ∈ [a, b], SortOk s := by
      intro s hs
      rcases List.mem_cons.mp hs with e | e
      · rw [e]; exact h1
      · rw [List.mem_singleton.mp e]; exact h2
    refine sx_retV (x := iD (swingV a b g)) (ev_sumM (xs := [a, b].filter fun s => decide (s.1 > 0)) (f := fun s => s.2 * g / s.1) (ev_lcFM2 (Side := noSide) (xs := [a, b]) (ea := fun s => .int s.1) (eb := fun s => .int s.2) (wx_tupV (ds := [eFr a, eFr b]) (ev_tup (by walk_at "ev"))) trivial (by show 2 ≤ 1000; decide) (fun s hs => by walk_at "ev") fun s hs hp => ?_)) rfl
    have k := so s hs
    have hp' : s.1 > 0 := of_decide_eq_true hp
    exact ev_I (a := s.2 * g) (b := s.1) (ev_I (a := s.2) (b := g) (by walk_at "ev") (by walk_at "ev") (Sm.mulOk (.of (by have := k.2.2; omega)) h3)) (by walk_at "ev") (Bg.divOk hp' (Sm.of (by have := k.2.1; omega)).bg)⟩
def sp_grains_of (K : PySem.W.Frag) : Sp := spX K (A := Fr × Fr) (fun a => [frD a.1, frD a.2]) (fun a => SortOk a.1 ∧ SortOk a.2) (fun a x => x = iD (gr a.1 a.2))
theorem so_grains_of {M : PM} {a b : Fr} (h1 : SortOk a) (h2 : SortOk b) : SpOk K M (sp_grains_of K) [frD a, frD b] (fun x => x = iD (gr a b)) := spX_ok (a, b) ⟨h1, h2⟩
theorem ok_grains_of (G : Gp K mg) (F : Fu K mg "grains_of" "grains_of" "grains_of" s_grains_of ["one", "other"])
    (D_parts_of_grain : Df P w K mg base 3 "parts_of_grain" ["width", "other"] (sp_pog K)) : Df P w K mg base 4 "grains_of" ["one", "other"] (sp_grains_of K) := by
  exact df_mk F sc_grains_of (fun _ => rfl) fun f cdv A' outer s H E hr => ⟨_, (pss_one (ps_ret (pe_callD D_parts_of_grain hr (by decide) (by rfl) (pa_cons (pe_ix ix_tup (pv 0) pe_int (fun _ _ => rfl)) (pa_cons (pe_ix ix_tup (pv 1) pe_int (fun _ _ => rfl)) pa_nil))))), fun M a h => by
    obtain ⟨a, b⟩ := a
    obtain ⟨h1, h2⟩ := h
    exact sx_retV (ex_call (xs := [iD a.1, iD b.1]) (by walk_at "ev") (so_pog h1.1 h1.2.1 h2.1 h2.2.1)) rfl⟩
def fbD : Option Int → Dt
  | none => nD
  | some u => iD u
def sp_first_breach (K : PySem.W.Frag) : Sp := spX K (A := List Fr × Fr × Fr) (fun a => [.p (eSt a.1), frD a.2.1, frD a.2.2]) (fun a => StOk a.1 ∧ SortOk a.2.1 ∧ SortOk a.2.2) (fun a x => x = fbD (fb a.1 a.2.1 a.2.2))
theorem so_first_breach {M : PM} {st : List Fr} {a b : Fr} (h0 : StOk st) (h1 : SortOk a) (h2 : SortOk b) : SpOk K M (sp_first_breach K) [.p (eSt st), frD a, frD b] (fun x => x = fbD (fb st a b)) := spX_ok (st, a, b) ⟨h0, h1, h2⟩
theorem find_at {f : Int → Bool} {us : List Int} {i : Nat} {u : Int} (h : ∀ x ∈ us.take i, f x = false) (e : us[i]? = some u) (hu : f u = true) : us.find? f = some u := by
  have e2 : us = us.take i ++ u :: us.drop (i + 1) := by
    have hi := (List.getElem?_eq_some_iff.mp e).1
    rw [← (List.getElem?_eq_some_iff.mp e).2, List.getElem_cons_drop, List.take_append_drop]
  rw [e2, List.find?_append, List.find?_eq_none.mpr (by intro x hx; rw [h x hx]; decide), List.find?_cons, hu]
  rfl
theorem mem_take_succ {α : Type} {xs : List α} {i : Nat} {x y : α} (e : xs[i]? = some x) (h : y ∈ xs.take (i + 1)) : y ∈ xs.take i ∨ y = x := by
  rw [List.take_add_one, e] at h
  rcases List.mem_append.mp h with h | h
  · exact .inl h
  · exact .inr (List.mem_singleton.mp h)
theorem ok_first_breach (G : Gp K mg) (F : Fu K mg "first_breach" "first_breach" "first_breach" s_first_breach ["steps", "one", "other"])
    (D_grains_of : Df P w K mg base 4 "grains_of" ["one", "other"] (sp_grains_of K))
    (D_swing : Df P w K mg base 1 "swing" ["one", "other", "grains"] (sp_swing K))
    (D_in_grains : Df P w K mg base 3 "in_grains" ["steps", "grains"] (sp_in_grains K))
    (D_runs_at : Df P w K mg base 1 "runs_at" ["units", "number"] (sp_runs_at K)) : Df P w K mg base 5 "first_breach" ["steps", "one", "other"] (sp_first_breach K) := by
  exact df_mk F sc_first_breach (fun _ => rfl) fun f cdv A' outer s H E hr => ⟨_, (pss_cons (ps_set (i := 3) sc_first_breach.nd rfl (Or.inl rfl) (pe_callD D_grains_of hr (by decide) (by rfl) (pa_cons (pv 1) (pa_cons (pv 2) pa_nil))))
  (pss_cons (ps_set (i := 4) sc_first_breach.nd rfl (Or.inl rfl) (pe_callD D_swing hr (by decide) (by rfl) (pa_cons (pv 1) (pa_cons (pv 2) (pa_cons (pv 3) pa_nil)))))
  (pss_cons (ps_set (i := 5) sc_first_breach.nd rfl (Or.inl rfl) (pe_callD D_in_grains hr (by decide) (by rfl) (pa_cons (pv 0) (pa_cons (pv 3) pa_nil))))
  (pss_cons (ps_for PassesOwn.never rfl (pi_tup (pv 5)) (pg_name (i := 6) sc_first_breach.nd rfl (Or.inl rfl))
   (pss_one (ps_if (pt_cmpR op_ge (pe_op op_mulW (pe_callD D_runs_at hr (by decide) (by rfl) (pa_cons (pv 5) (pa_cons (pv 6) pa_nil))) (pv 4)) (pe_op op_mulW pe_int (pv 6)) (nomark _))
   (pss_one (ps_ret (pv 6)))
   pss_nil)))
  (pss_one (ps_ret pe_non)))))), fun M a h => by
    obtain ⟨st, a, b⟩ := a
    obtain ⟨h0, h1, h2⟩ := h
    have h0 : StOk st := h0
    have h1 : SortOk a := h1
    have h2 : SortOk b := h2
    have hg := gr_bd h1 h2
    refine sx_seq (sx_set (d := .int (gr a b)) (ex_call (xs := [frD a, frD b]) (by walk_at "ev") (so_grains_of h1 h2)) ?_)
    refine sx_seq (sx_set (d := .int (swingV a b (gr a b))) (ex_call (xs := [frD a, frD b, iD (gr a b)]) (by walk_at "ev") (so_swing h1 h2 (.of (by omega)))) ?_)
    refine sx_seq (sx_set (d := .tup ((units st (gr a b)).map .int)) (ex_call (xs := [.p (eSt st), iD (gr a b)]) (by walk_at "ev") (so_in_grains (by have := h0.2.1; omega) (.of (by omega)) h0.thr)) ?_)
    have hsw := swing_bd h1 h2 hg.1 hg.2
    have hub := units_bd h0 hg.1 hg.2
    have hl := units_len st (gr a b)
    have hl2 := h0.2.1
    show SX K M _ _ (fin fun x => x = fbD ((units st (gr a b)).find? (hit (units st (gr a b)) (swingV a b (gr a b)))))
    generalize units st (gr a b) = us at *
    generalize swingV a b (gr a b) = far at *
    refine sx_seq (sx_for (wx_tupV (ds := us.map .int) (ev_p rfl)) (fun i ρ' => (∃ z, ρ' = [some (.p (eSt st)), some (frD a), some (frD b), some (iD (gr a b)), some (iD far), some (.p (.tup (us.map .int))), z]) ∧ ∀ x ∈ us.take i, hit us far x = false) ⟨⟨none, rfl⟩, by intro x hx; cases hx⟩ (fun _ _ _ => trivial) (fun i d ρ' hd ⟨⟨z, e⟩, hn⟩ => ?_) fun ρ' ⟨⟨z, e⟩, hn⟩ => ?_)
    · obtain ⟨u, hu, ed, hm⟩ := map_get hd
      subst e ed
      have hb := hub u hm
      have hr1 := runsAt_bd us u
      refine gx_name (sx_ifB (b := decide (runsAt us u * far ≥ 2 * u)) (et_test (ev_IB (a := runsAt us u * far) (b := 2 * u) (ev_I (a := runsAt us u) (b := far) (ex_call (xs := [.p (.tup (us.map .int)), iD u]) (by walk_at "ev") (so_runs_at (by omega))) (by walk_at "ev") (Sm.mulOk (.of (by omega)) (.of (by omega)))) (ev_I (a := 2) (b := u) ev_int (by walk_at "ev") (Sm.mulOk (.of (by decide)) (.of (by omega)))))) (fun hc => ?_) fun hc => ?_)
      · refine sx_retV (x := iD u) (ev_p rfl) ?_
        show iD u = fbD (us.find? (hit us far))
        rw [find_at hn hu hc]; rfl
      · refine sx_next ⟨⟨_, rfl⟩, fun x hx => ?_⟩
        rcases mem_take_succ hu hx with q | q
        · exact hn x q
        · rw [q]; exact hc
    · subst e
      refine sx_retV ev_non ?_
      show nD = fbD (us.find? (hit us far))
      rw [List.length_map, List.take_length] at hn
      rw [List.find?_eq_none.mpr (by intro x hx; rw [hn x hx]; decide)]; rfl⟩
def sp_sorts_at (K : PySem.W.Frag) : Sp := spX K (A := Bk × Jn) (fun a => [bkD a.1, .p (eJ a.2)]) (fun a => a.1.ss[a.2.1]? = some (ssAt a.1.ss a.2.1) ∧ a.1.ss[a.2.2]? = some (ssAt a.1.ss a.2.2)) (fun a x => x = .p (.tup [eFr (ssAt a.1.ss a.2.1), eFr (ssAt a.1.ss a.2.2)]))
theorem so_sorts_at {M : PM} {b : Bk} {j : Jn} (h1 : b.ss[j.1]? = some (ssAt b.ss j.1)) (h2 : b.ss[j.2]? = some (ssAt b.ss j.2)) : SpOk K M (sp_sorts_at K) [bkD b, .p (eJ j)] (fun x => x = .p (.tup [eFr (ssAt b.ss j.1), eFr (ssAt b.ss j.2)])) := spX_ok (b, j) ⟨h1, h2⟩
theorem ok_sorts_at (G : Gp K mg) (F : Fu K mg "sorts_at" "sorts_at" "sorts_at" s_sorts_at ["book", "pair"]) : Df P w K mg base 1 "sorts_at" ["book", "pair"] (sp_sorts_at K) := by
  exact df_mk F sc_sorts_at (fun _ => rfl) fun f cdv A' outer s H E hr => ⟨_, (pss_one (ps_ret (pe_tup (pa_cons (pe_ix ix_tup (pe_fld (pv 0) rfl) (pe_ix ix_tup (pv 1) pe_int (fun _ _ => rfl)) (fun _ _ => rfl)) (pa_cons (pe_ix ix_tup (pe_fld (pv 0) rfl) (pe_ix ix_tup (pv 1) pe_int (fun _ _ => rfl)) (fun _ _ => rfl)) pa_nil))))), fun M a h => by
    obtain ⟨b, i, j⟩ := a
    obtain ⟨h1, h2⟩ := h
    exact sx_retV (ev_tup (evt_cons (ev_ixM (f := eFr) (n := i) (by walk_at "ev") (by walk_at "ev") h1) (evt_cons (ev_ixM (f := eFr) (n := j) (by walk_at "ev") (by walk_at "ev") h2) evt_nil))) rfl⟩
end
end K37
end
section
set_option Elab.async false
set_option linter.all false
set_option maxRecDepth 100000
set_option maxHeartbeats 4000000
namespace K37
open PySem PySem.Spec PyProof.Rows L2
local macro_rules | `(tactic| walk_at "ev") => `(tactic| (repeat' (first
  | exact ev_p rfl | exact ev_m rfl | exact ev_l rfl | exact ev_o rfl | exact ev_pool rfl | exact ev_int | exact ev_bl | exact ev_non | exact evs_nil | exact evt_nil
  | apply evs_cons | apply evt_cons | apply ev_ix0 | apply ev_ix1 | apply ev_ix2
  | apply ev_I0 | apply ev_IB | apply ev_eqI | apply ev_neI | apply ev_neg | apply ev_abs
  | apply ev_lenT | apply ev_lenL | apply ev_lenF | apply ev_isN | apply ev_notN | apply et_test | apply et_B | apply et_not
  | apply ev_isiI | apply ev_isiB | apply ev_isiT | apply ev_chainI | apply ev_not | apply ev_max2 | apply ev_min2 | apply ev_max3 | apply ev_int1 | apply ev_sorts | apply ev_kinds | apply ev_widths | apply ev_pipes)))
abbrev s_breach : Stmt := topS 74
abbrev n_breach : List Str := ["book", "number", "steps", "joins", "pair", "one", "other", "unit"]
theorem sc_breach : FnScope n_breach ["book"] (defScope s_breach) := ⟨rfl, rfl, rfl, by decide +kernel, rfl, by decide +kernel, by decide +kernel⟩

abbrev s_is_join_calm : Stmt := topS 75
abbrev n_is_join_calm : List Str := ["book", "number", "thing", "sort"]
theorem sc_is_join_calm : FnScope n_is_join_calm ["book", "number", "thing"] (defScope s_is_join_calm) := ⟨rfl, rfl, rfl, by decide +kernel, rfl, by decide +kernel, by decide +kernel⟩

abbrev s_is_breach : Stmt := topS 77
abbrev n_is_breach : List Str := ["book", "thing", "drop", "one", "other", "grains", "number"]
theorem sc_is_breach : FnScope n_is_breach ["book", "thing"] (defScope s_is_breach) := ⟨rfl, rfl, rfl, by decide +kernel, rfl, by decide +kernel, by decide +kernel⟩

abbrev s_calm : Stmt := topS 78
abbrev n_calm : List Str := ["book"]
theorem sc_calm : FnScope n_calm ["book"] (defScope s_calm) := ⟨rfl, rfl, rfl, by decide +kernel, rfl, by decide +kernel, by decide +kernel⟩

abbrev s_losses : Stmt := topS 79
abbrev n_losses : List Str := ["book", "capped", "found", "steps", "joins", "pair", "one", "other", "grains", "far", "units", "unit"]
theorem sc_losses : FnScope n_losses ["book", "capped"] (defScope s_losses) := ⟨rfl, rfl, rfl, by decide +kernel, rfl, by decide +kernel, by decide +kernel⟩

abbrev s_loss : Stmt := topS 80
abbrev n_loss : List Str := ["book", "found", "least", "one"]
theorem sc_loss : FnScope n_loss ["book"] (defScope s_loss) := ⟨rfl, rfl, rfl, by decide +kernel, rfl, by decide +kernel, by decide +kernel⟩

abbrev s_calm_singly : Stmt := topS 83
abbrev n_calm_singly : List Str := ["book", "one"]
theorem sc_calm_singly : FnScope n_calm_singly ["book"] (defScope s_calm_singly) := ⟨rfl, rfl, rfl, by decide +kernel, rfl, by decide +kernel, by decide +kernel⟩

section
variable {P : Program} {w : World} {K : PySem.W.Frag} {mg : Str → Option Value} {base : Heap}
/-- what breach tells -/
def BrP (b : Bk) (x : Dt) : Prop := (x = nD ∧ NoBr b) ∨ ∃ n j u k, BrAt b n j u k ∧ x = .p (.tup [.int ((n : Nat) : Int), eJ j, eFr (mk u (gr (ssAt b.ss j.1) (ssAt b.ss j.2)))])
def sp_breach (K : PySem.W.Frag) : Sp := spX K (A := Bk) (fun a => [bkD a]) Bk.Ok BrP
theorem so_breach {M : PM} {b : Bk} (h : b.Ok) : SpOk K M (sp_breach K) [bkD b] (BrP b) := spX_ok b h
theorem ok_breach (G : Gp K mg) (F : Fu K mg "breach" "breach" "breach" s_breach ["book"])
    (D_sorts_at : Df P w K mg base 1 "sorts_at" ["book", "pair"] (sp_sorts_at K))
    (D_first_breach : Df P w K mg base 5 "first_breach" ["steps", "one", "other"] (sp_first_breach K))
    (D_made : Df P w K mg base 2 "made" ["top", "bottom"] (sp_made K))
    (D_grains_of : Df P w K mg base 4 "grains_of" ["one", "other"] (sp_grains_of K)) : Df P w K mg base 6 "breach" ["book"] (sp_breach K) := by
  exact df_mk F sc_breach (fun _ => rfl) fun f cdv A' outer s H E hr => ⟨_, (pss_cons (ps_for PassesOwn.never rfl (pi_enumT (by rfl) G.n_enumerate (pa_cons (pe_fld (pv 0) rfl) pa_nil)) (pg_tup rfl (pgs_cons (pg_name (i := 1) sc_breach.nd rfl (Or.inl rfl)) (pgs_cons (pg_tup rfl (pgs_cons (pg_name (i := 2) sc_breach.nd rfl (Or.inl rfl)) (pgs_cons (pg_name (i := 3) sc_breach.nd rfl (Or.inl rfl)) pgs_nil))) pgs_nil)))
   (pss_one (ps_for PassesOwn.never rfl (pi_tup (pv 3)) (pg_name (i := 4) sc_breach.nd rfl (Or.inl rfl))
   (pss_cons (ps_asg (pe_callD D_sorts_at hr (by decide) (by rfl) (pa_cons (pv 0) (pa_cons (pv 4) pa_nil))) (pg_tup rfl (pgs_cons (pg_name (i := 5) sc_breach.nd rfl (Or.inl rfl)) (pgs_cons (pg_name (i := 6) sc_breach.nd rfl (Or.inl rfl)) pgs_nil))))
  (pss_cons (ps_set (i := 7) sc_breach.nd rfl (Or.inl rfl) (pe_callD D_first_breach hr (by decide) (by rfl) (pa_cons (pv 2) (pa_cons (pv 5) (pa_cons (pv 6) pa_nil)))))
  (pss_one (ps_if (pt_cmpR op_notN (pv 7) pe_non (nomark _))
   (pss_one (ps_ret (pe_tup (pa_cons (pv 1) (pa_cons (pv 4) (pa_cons (pe_callD D_made hr (by decide) (by rfl) (pa_cons (pv 7) (pa_cons (pe_callD D_grains_of hr (by decide) (by rfl) (pa_cons (pv 5) (pa_cons (pv 6) pa_nil))) pa_nil))) pa_nil))))))
   pss_nil)))))))
  (pss_one (ps_ret pe_non))), fun M a h => by
    refine sx_seq (sx_for (wx_enumT (ds := a.ks.map eK) (by walk_at "ev")) (fun i ρ' => (∃ z1 z2 z3 z4 z5 z6 z7, ρ' = [some (bkD a), z1, z2, z3, z4, z5, z6, z7]) ∧ ∀ k ∈ a.ks.take i, ∀ j ∈ k.2, fb k.1 (ssAt a.ss j.1) (ssAt a.ss j.2) = none) ⟨⟨none, none, none, none, none, none, none, rfl⟩, by intro x hx; cases hx⟩ (fun _ _ _ => trivial) (fun i d ρ' hd ⟨⟨z1, z2, z3, z4, z5, z6, z7, e⟩, hn⟩ => ?_) fun ρ' ⟨⟨z1, z2, z3, z4, z5, z6, z7, e⟩, hn⟩ => ?_)
    · obtain ⟨⟨st, js⟩, hk, ed, hm⟩ := enumM_get hd
      subst e ed
      have hko := h.ks _ hm
      refine gx_tup2 (gx_name (gx_tup2 (gx_name (gx_name ?_))))
      refine sx_for (wx_tupV (ds := js.map eJ) (ev_p rfl)) (fun i2 ρ' => (∃ z4 z5 z6 z7, ρ' = [some (bkD a), some (iD (i : Int)), some (.p (eSt st)), some (.p (.tup (js.map eJ))), z4, z5, z6, z7]) ∧ ∀ j ∈ js.take i2, fb st (ssAt a.ss j.1) (ssAt a.ss j.2) = none) ⟨⟨z4, z5, z6, z7, rfl⟩, by intro x hx; cases hx⟩ (fun _ _ _ => trivial) (fun i2 d ρ' hd ⟨⟨z4, z5, z6, z7, e⟩, hn2⟩ => ?_) fun ρ' ⟨⟨z4, z5, z6, z7, e⟩, hn2⟩ => ?_
      · obtain ⟨j, hj, ed, hmj⟩ := map_get hd
        subst e ed
        obtain ⟨g1, g2, g3, g4⟩ := h.at hm hmj
        refine gx_name (sx_seq (sx_unp2 (ex_call (xs := [bkD a, .p (eJ j)]) (by walk_at "ev") (so_sorts_at g1 g2)) ?_))
        cases hf : fb st (ssAt a.ss j.1) (ssAt a.ss j.2) with
        | none =>
          refine sx_seq (sx_set (d := .non) (EV.to (x := fbD (fb st (ssAt a.ss j.1) (ssAt a.ss j.2))) (ex_call (xs := [.p (eSt st), frD (ssAt a.ss j.1), frD (ssAt a.ss j.2)]) (by walk_at "ev") (so_first_breach hko.1 g3 g4)) (by rw [hf]; rfl)) ?_)
          refine sx_ifF (et_test (ev_notN (d := .non) (by walk_at "ev"))) (sx_next ⟨⟨_, _, _, _, rfl⟩, fun x hx => ?_⟩)
          rcases mem_take_succ hj hx with q | q
          · exact hn2 x q
          · rw [q]; exact hf
        | some u =>
          refine sx_seq (sx_set (d := .int u) (EV.to (x := fbD (fb st (ssAt a.ss j.1) (ssAt a.ss j.2))) (ex_call (xs := [.p (eSt st), frD (ssAt a.ss j.1), frD (ssAt a.ss j.2)]) (by walk_at "ev") (so_first_breach hko.1 g3 g4)) (by rw [hf]; rfl)) ?_)
          have hg := gr_bd g3 g4
          refine sx_ifT (et_test (ev_notN (d := .int u) (by walk_at "ev"))) (sx_retV (x := .p (.tup [.int (i : Int), eJ j, eFr (mk u (gr (ssAt a.ss j.1) (ssAt a.ss j.2)))])) (ev_tup (evt_cons (by walk_at "ev") (evt_cons (by walk_at "ev") (evt_cons (ex_call (xs := [iD u, iD (gr (ssAt a.ss j.1) (ssAt a.ss j.2))]) (evs_cons (by walk_at "ev") (evs_cons (ex_call (xs := [frD (ssAt a.ss j.1), frD (ssAt a.ss j.2)]) (by walk_at "ev") (so_grains_of g3 g4)) evs_nil)) (so_made (by omega) (Sm.of (by omega)).bg)) evt_nil)))) ?_)
          exact .inr ⟨i, j, u, (st, js), ⟨hk, hmj, hf⟩, rfl⟩
      · subst e
        refine ⟨⟨_, _, _, _, _, _, _, rfl⟩, fun k hk2 => ?_⟩
        rw [List.length_map, List.take_length] at hn2
        rcases mem_take_succ hk hk2 with q | q
        · exact hn k q
        · rw [q]; exact hn2
    · subst e
      rw [enum_len, List.length_map, List.take_length] at hn
      exact sx_retV ev_non (.inl ⟨rfl, hn⟩)⟩
def sp_is_join_calm (K : PySem.W.Frag) : Sp := spX K (A := Bk × Nat × Jn × Kind) (fun a => [bkD a.1, iD (a.2.1 : Int), .p (eJ a.2.2.1)]) (fun a => a.1.ks[a.2.1]? = some a.2.2.2 ∧ a.2.2.1 ∈ a.2.2.2.2 ∧ a.2.2.1.1 < a.1.ss.length ∧ a.2.2.1.2 < a.1.ss.length) (fun _ x => x = bD true)
theorem so_is_join_calm {M : PM} {b : Bk} {n : Nat} {j : Jn} {k : Kind} (h1 : b.ks[n]? = some k) (h2 : j ∈ k.2) (h3 : j.1 < b.ss.length) (h4 : j.2 < b.ss.length) : SpOk K M (sp_is_join_calm K) [bkD b, iD (n : Int), .p (eJ j)] (fun x => x = bD true) := spX_ok (b, n, j, k) ⟨h1, h2, h3, h4⟩
theorem ok_is_join_calm (G : Gp K mg) (F : Fu K mg "is_join_calm" "is_join" "is_join" s_is_join_calm ["book", "number", "thing"])
    (D_is_between : Df P w K mg base 2 "is_between" ["thing", "least", "most"] (sp_is_between K))
    (D_is_pair : Df P w K mg base 1 "is_pair" ["thing"] (sp_is_pair K)) : Df P w K mg base 3 "is_join_calm" ["book", "number", "thing"] (sp_is_join_calm K) := by
  exact df_mk F sc_is_join_calm (fun _ => rfl) fun f cdv A' outer s H E hr => ⟨_, (pss_cons (ps_if (PW.pt (pw_or (pt_not (pt_val (pe_callD D_is_pair hr (by decide) (by rfl) (pa_cons (pv 2) pa_nil)))) (pw_or1 (pt_not (pt_val (pe_callB (cr_all rfl) (by rfl) G.n_all bb_all (pa_cons (pe_lc (own := [("sort", 3)]) rfl sc_is_join_calm.nd (pi_tup (pv 2)) (blkOk_by (own := [("sort", 3)]) (N := n_is_join_calm) (sc := defScope s_is_join_calm) (by decide +kernel)) (fun _ _ _ _ _ => (pg_name (i := 3) sc_is_join_calm.nd rfl (Or.inl rfl))) (fun _ _ _ _ _ => pts_nil) (fun _ _ _ _ _ => (pe_callD D_is_between hr (by decide) (by rfl) (pa_cons (pv 3) (pa_cons pe_int (pa_cons (pe_op op_sub (pe_callB (call_len_seqK K) (by rfl) G.n_len bb_len (pa_cons (pe_fldK K (pv 0) rfl) pa_nil)) pe_int) pa_nil)))))) pa_nil)))))))
   (pss_one (ps_ret pe_bl))
   pss_nil)
  (pss_one (ps_ret (pe_cmpR (op_inT (hu65 hr)) (pv 2) (pe_ix ix_tup (pe_ix ix_tup (pe_fld (pv 0) rfl) (pv 1) (fun _ _ => rfl)) pe_int (fun _ _ => rfl)) (by rfl))))), fun M a h => by
    obtain ⟨b, n, ⟨i, j⟩, k⟩ := a
    obtain ⟨h1, h2, h3, h4⟩ := h
    have h3 : i < b.ss.length := h3
    have h4 : j < b.ss.length := h4
    refine sx_seq (sx_ifF (et_orF (et_notT (et_B (ex_call (xs := [.p (eJ (i, j))]) (by walk_at "ev") so_is_pair))) (et_notT (et_B ((ev_allM (xs := [i, j]) (f := fun _ => true) (ev_lcMap (enc := eN) (wx_tupV (ds := [eN i, eN j]) (by walk_at "ev")) trivial (by show 2 ≤ 1000; decide) fun x hx => ?_)).to (by rw [List.all_eq_true.mpr fun _ _ => rfl]))))) (sx_next ?_))
    · have hx' : x < b.ss.length := by
        rcases List.mem_cons.mp hx with e | e
        · rw [e]; exact h3
        · rw [List.mem_singleton.mp e]; exact h4
      refine EV.to (x := bD (decide ((0 : Int) ≤ (x : Int)) && decide ((x : Int) ≤ (b.ss.length : Int) - 1))) (ex_call (xs := [iD (x : Int), iD 0, iD ((b.ss.length : Int) - 1)]) (evs_cons (by walk_at "ev") (evs_cons ev_int (evs_cons (ev_I0 (a := (b.ss.length : Int)) (b := 1) ((ev_lenT (ds := b.ss.map eFr) (by walk_at "ev")).to (by rw [List.length_map])) ev_int) evs_nil))) so_is_between) ?_
      rw [decide_eq_true (by omega), decide_eq_true (by omega)]; rfl
    · refine sx_retV (x := bD true) ((ev_inT (a := eJ (i, j)) (ds := k.2.map eJ) (by walk_at "ev") (ev_ix1 (ev_ixM (f := eK) (x := k) (n := n) (by walk_at "ev") (by walk_at "ev") h1)) (Nat.le_trans (enc_j.dep _) (by decide)) (Nat.lt_of_le_of_lt (deps_le enc_j.dep k.2) (by decide))).to ?_) rfl
      rw [any_enc enc_j]
      exact congrArg bD (dec_t h2)⟩
def sp_is_breach (K : PySem.W.Frag) : Sp := spX K (A := Bk × Nat × Jn × Int × Kind) (fun a => [bkD a.1, .p (.tup [.int (a.2.1 : Int), eJ a.2.2.1, eFr (mk a.2.2.2.1 (gr (ssAt a.1.ss a.2.2.1.1) (ssAt a.1.ss a.2.2.1.2)))])]) (fun a => a.1.Ok ∧ a.1.ks[a.2.1]? = some a.2.2.2.2 ∧ a.2.2.1 ∈ a.2.2.2.2.2 ∧ a.2.2.2.1 ∈ units a.2.2.2.2.1 (gr (ssAt a.1.ss a.2.2.1.1) (ssAt a.1.ss a.2.2.1.2)) ∧ hit (units a.2.2.2.2.1 (gr (ssAt a.1.ss a.2.2.1.1) (ssAt a.1.ss a.2.2.1.2))) (swingV (ssAt a.1.ss a.2.2.1.1) (ssAt a.1.ss a.2.2.1.2) (gr (ssAt a.1.ss a.2.2.1.1) (ssAt a.1.ss a.2.2.1.2))) a.2.2.2.1 = true) (fun _ x => x = bD true)
theorem so_is_breach {M : PM} {b : Bk} {n : Nat} {j : Jn} {u : Int} {k : Kind} (h0 : b.Ok) (h1 : b.ks[n]? = some k) (h2 : j ∈ k.2) (h3 : u ∈ units k.1 (gr (ssAt b.ss j.1) (ssAt b.ss j.2))) (h4 : hit (units k.1 (gr (ssAt b.ss j.1) (ssAt b.ss j.2))) (swingV (ssAt b.ss j.1) (ssAt b.ss j.2) (gr (ssAt b.ss j.1) (ssAt b.ss j.2))) u = true) :
    SpOk K M (sp_is_breach K) [bkD b, .p (.tup [.int (n : Int), eJ j, eFr (mk u (gr (ssAt b.ss j.1) (ssAt b.ss j.2)))])] (fun x => x = bD true) := spX_ok (b, n, j, u, k) ⟨h0, h1, h2, h3, h4⟩
theorem ok_is_breach (G : Gp K mg) (F : Fu K mg "is_breach" "is_breach" "is_breach" s_is_breach ["book", "thing"])
    (D_is_between : Df P w K mg base 2 "is_between" ["thing", "least", "most"] (sp_is_between K))
    (D_is_triple : Df P w K mg base 1 "is_triple" ["thing"] (sp_is_triple K))
    (D_is_join_calm : Df P w K mg base 3 "is_join_calm" ["book", "number", "thing"] (sp_is_join_calm K))
    (D_is_fraction : Df P w K mg base 2 "is_fraction" ["thing"] (sp_is_fraction K))
    (D_sorts_at : Df P w K mg base 1 "sorts_at" ["book", "pair"] (sp_sorts_at K))
    (D_grains_of : Df P w K mg base 4 "grains_of" ["one", "other"] (sp_grains_of K))
    (D_runs_at : Df P w K mg base 1 "runs_at" ["units", "number"] (sp_runs_at K))
    (D_in_grains : Df P w K mg base 3 "in_grains" ["steps", "grains"] (sp_in_grains K))
    (D_swing : Df P w K mg base 1 "swing" ["one", "other", "grains"] (sp_swing K)) : Df P w K mg base 5 "is_breach" ["book", "thing"] (sp_is_breach K) := by
  exact df_mk F sc_is_breach (fun _ => rfl) fun f cdv A' outer s H E hr => ⟨_, (pss_cons (ps_if (PW.pt (pw_or (pt_not (pt_val (pe_callD D_is_triple hr (by decide) (by rfl) (pa_cons (pv 1) pa_nil)))) (pw_or1 (pt_not (pt_val (pe_callD D_is_between hr (by decide) (by rfl) (pa_cons (pe_ix ix_tup (pv 1) pe_int (fun _ _ => rfl)) (pa_cons pe_int (pa_cons (pe_op op_sub (pe_callB call_len_seq (by rfl) G.n_len bb_len (pa_cons (pe_fld (pv 0) rfl) pa_nil)) pe_int) pa_nil)))))))))
   (pss_one (ps_ret pe_bl))
   pss_nil)
  (pss_cons (ps_if (pt_not (pt_val (pe_callD D_is_join_calm hr (by decide) (by rfl) (pa_cons (pv 0) (pa_cons (pe_ix ix_tup (pv 1) pe_int (fun _ _ => rfl)) (pa_cons (pe_ix ix_tup (pv 1) pe_int (fun _ _ => rfl)) pa_nil))))))
   (pss_one (ps_ret pe_bl))
   pss_nil)
  (pss_cons (ps_set (i := 2) sc_is_breach.nd rfl (Or.inl rfl) (pe_ix ix_tup (pv 1) pe_int (fun _ _ => rfl)))
  (pss_cons (ps_if (PW.pt (pw_or (pt_not (pt_val (pe_callD D_is_fraction hr (by decide) (by rfl) (pa_cons (pv 2) pa_nil)))) (pw_or1 (pt_cmpR op_lt (pe_ix ix_tup (pv 2) pe_int (fun _ _ => rfl)) pe_int (nomark _)))))
   (pss_one (ps_ret pe_bl))
   pss_nil)
  (pss_cons (ps_asg (pe_callD D_sorts_at hr (by decide) (by rfl) (pa_cons (pv 0) (pa_cons (pe_ix ix_tup (pv 1) pe_int (fun _ _ => rfl)) pa_nil))) (pg_tup rfl (pgs_cons (pg_name (i := 3) sc_is_breach.nd rfl (Or.inl rfl)) (pgs_cons (pg_name (i := 4) sc_is_breach.nd rfl (Or.inl rfl)) pgs_nil))))
  (pss_cons (ps_set (i := 5) sc_is_breach.nd rfl (Or.inl rfl) (pe_callD D_grains_of hr (by decide) (by rfl) (pa_cons (pv 3) (pa_cons (pv 4) pa_nil))))
  (pss_cons (ps_if (pt_cmpR op_ne (pe_op op_mod (pe_op op_mulW (pe_ix ix_tup (pv 2) pe_int (fun _ _ => rfl)) (pv 5)) (pe_ix ix_tup (pv 2) pe_int (fun _ _ => rfl))) pe_int (nomark _))
   (pss_one (ps_ret pe_bl))
   pss_nil)
  (pss_cons (ps_set (i := 6) sc_is_breach.nd rfl (Or.inl rfl) (pe_op op_fdivW (pe_op op_mulW (pe_ix ix_tup (pv 2) pe_int (fun _ _ => rfl)) (pv 5)) (pe_ix ix_tup (pv 2) pe_int (fun _ _ => rfl))))
  (pss_one (ps_ret (pe_cmpR op_ge (pe_op op_mulW (pe_callD D_runs_at hr (by decide) (by rfl) (pa_cons (pe_callD D_in_grains hr (by decide) (by rfl) (pa_cons (pe_ix ix_tup (pe_ix ix_tup (pe_fld (pv 0) rfl) (pe_ix ix_tup (pv 1) pe_int (fun _ _ => rfl)) (fun _ _ => rfl)) pe_int (fun _ _ => rfl)) (pa_cons (pv 5) pa_nil))) (pa_cons (pv 6) pa_nil))) (pe_callD D_swing hr (by decide) (by rfl) (pa_cons (pv 3) (pa_cons (pv 4) (pa_cons (pv 5) pa_nil))))) (pe_op op_mulW pe_int (pv 6)) (nomark _)))))))))))), fun M a h => by
    obtain ⟨b, n, j, u, k⟩ := a
    obtain ⟨h0, h1, h2, h3, h4⟩ := h
    have h0 : b.Ok := h0
    have h1 : b.ks[n]? = some k := h1
    have h2 : j ∈ k.2 := h2
    have hm := List.mem_of_getElem? h1
    obtain ⟨g1, g2, g3, g4⟩ := h0.at hm h2
    have hk := h0.ks k hm
    have hn : n < b.ks.length := (List.getElem?_eq_some_iff.mp h1).1
    have i1 : j.1 < b.ss.length := (List.getElem?_eq_some_iff.mp g1).1
    have i2 : j.2 < b.ss.length := (List.getElem?_eq_some_iff.mp g2).1
    have hg := gr_bd g3 g4
    have hsw := swing_bd g3 g4 hg.1 hg.2
    have hub := units_bd hk.1 hg.1 hg.2 u h3
    have hr1 := runsAt_bd (units k.1 (gr (ssAt b.ss j.1) (ssAt b.ss j.2))) u
    have hl := units_len k.1 (gr (ssAt b.ss j.1) (ssAt b.ss j.2))
    have hl2 := hk.1.2.1
    have d1 := mk_den (t := u) (b := gr (ssAt b.ss j.1) (ssAt b.ss j.2)) (by omega)
    have d2 := mk_num (t := u) (b := gr (ssAt b.ss j.1) (ssAt b.ss j.2))
    have d3 := mk_gcd (t := u) (b := gr (ssAt b.ss j.1) (ssAt b.ss j.2)) (by omega)
    have d4 := mk_pos (t := u) (b := gr (ssAt b.ss j.1) (ssAt b.ss j.2)) (by omega) (by omega)
    have dx := mk_cross u (gr (ssAt b.ss j.1) (ssAt b.ss j.2))
    have hD : ∃ dt db, mk u (gr (ssAt b.ss j.1) (ssAt b.ss j.2)) = (dt, db) := ⟨_, _, rfl⟩
    obtain ⟨dt, db, hD⟩ := hD
    rw [hD] at d1 d2 d3 d4 dx
    show SX K M _ (slots _ [bkD b, .p (.tup [.int (n : Int), eJ j, eFr (mk u (gr (ssAt b.ss j.1) (ssAt b.ss j.2)))])]) _
    rw [hD]
    refine sx_seq (sx_ifF (et_orF (et_notT (et_B (ex_call (xs := [.p (.tup [.int (n : Int), eJ j, eFr (dt, db)])]) (by walk_at "ev") so_is_triple))) (et_notT (et_B (EV.to (x := bD (decide ((0 : Int) ≤ (n : Int)) && decide ((n : Int) ≤ (b.ks.length : Int) - 1))) (ex_call (xs := [iD (n : Int), iD 0, iD ((b.ks.length : Int) - 1)]) (evs_cons (by walk_at "ev") (evs_cons ev_int (evs_cons (ev_I0 (a := (b.ks.length : Int)) (b := 1) ((ev_lenT (ds := b.ks.map eK) (by walk_at "ev")).to (by rw [List.length_map])) ev_int) evs_nil))) so_is_between) ?_)))) (sx_next ?_))
    · rw [decide_eq_true (by omega), decide_eq_true (by omega)]; rfl
    · refine sx_seq (sx_ifF (et_notT (et_B (ex_call (xs := [bkD b, iD (n : Int), .p (eJ j)]) (by walk_at "ev") (so_is_join_calm h1 h2 i1 i2)))) (sx_next ?_))
      refine sx_seq (sx_set (d := eFr (dt, db)) (by walk_at "ev") ?_)
      refine sx_seq (sx_ifF (et_orF (et_notT (et_B (ex_call (xs := [frD (dt, db)]) (by walk_at "ev") (so_is_fraction d1.1 d3)))) ((et_test (ev_IB (a := dt) (b := 1) (by walk_at "ev") ev_int)).to (decide_eq_false (by omega)))) (sx_next ?_))
      refine sx_seq (sx_unp2 (ex_call (xs := [bkD b, .p (eJ j)]) (by walk_at "ev") (so_sorts_at g1 g2)) ?_)
      refine sx_seq (sx_set (d := .int (gr (ssAt b.ss j.1) (ssAt b.ss j.2))) (ex_call (xs := [frD (ssAt b.ss j.1), frD (ssAt b.ss j.2)]) (by walk_at "ev") (so_grains_of g3 g4)) ?_)
      have sm1 : Sm dt := .of (by omega)
      have sm2 : Sm (gr (ssAt b.ss j.1) (ssAt b.ss j.2)) := .of (by omega)
      have sm3 : Sm db := .of (by omega)
      refine sx_seq (sx_ifF ((et_test (ev_neI (a := dt * gr (ssAt b.ss j.1) (ssAt b.ss j.2) % db) (b := 0) (ev_I (a := dt * gr (ssAt b.ss j.1) (ssAt b.ss j.2)) (b := db) (ev_I (a := dt) (b := gr (ssAt b.ss j.1) (ssAt b.ss j.2)) (by walk_at "ev") (by walk_at "ev") (sm1.mulOk sm2)) (by walk_at "ev") (by omega)) ev_int)).to ?_) (sx_next ?_))
      · rw [dx, Int.mul_emod_left]; rfl
      · refine sx_seq (sx_set (d := .int u) (EV.to (ev_I (a := dt * gr (ssAt b.ss j.1) (ssAt b.ss j.2)) (b := db) (ev_I (a := dt) (b := gr (ssAt b.ss j.1) (ssAt b.ss j.2)) (by walk_at "ev") (by walk_at "ev") (sm1.mulOk sm2)) (by walk_at "ev") (Bg.divOk (by omega) sm3.bg)) ?_) ?_)
        · show iD (dt * gr (ssAt b.ss j.1) (ssAt b.ss j.2) / db) = iD u
          rw [dx, Int.mul_ediv_cancel _ (by omega)]
        · refine sx_retV (x := bD true) (EV.to (ev_IB (a := runsAt (units k.1 (gr (ssAt b.ss j.1) (ssAt b.ss j.2))) u * swingV (ssAt b.ss j.1) (ssAt b.ss j.2) (gr (ssAt b.ss j.1) (ssAt b.ss j.2))) (b := 2 * u) (ev_I (a := runsAt (units k.1 (gr (ssAt b.ss j.1) (ssAt b.ss j.2))) u) (b := swingV (ssAt b.ss j.1) (ssAt b.ss j.2) (gr (ssAt b.ss j.1) (ssAt b.ss j.2))) (ex_call (xs := [.p (.tup ((units k.1 (gr (ssAt b.ss j.1) (ssAt b.ss j.2))).map .int)), iD u]) (evs_cons (ex_call (xs := [.p (eSt k.1), iD (gr (ssAt b.ss j.1) (ssAt b.ss j.2))]) (evs_cons (ev_ix0 (ev_ixM (f := eK) (x := k) (n := n) (by walk_at "ev") (by walk_at "ev") h1)) (evs_cons (by walk_at "ev") evs_nil)) (so_in_grains (by omega) sm2 hk.1.thr)) (evs_cons (by walk_at "ev") evs_nil)) (so_runs_at (by omega)))
            (ex_call (xs := [frD (ssAt b.ss j.1), frD (ssAt b.ss j.2), iD (gr (ssAt b.ss j.1) (ssAt b.ss j.2))]) (by walk_at "ev") (so_swing g3 g4 sm2)) (Sm.mulOk (.of (by omega)) (.of (by omega)))) (ev_I (a := 2) (b := u) ev_int (by walk_at "ev") (Sm.mulOk (.of (by decide)) (.of (by omega))))) ?_) rfl
          exact congrArg bD h4⟩
theorem ex_isN {M : PM} {ρ : Ev0} {ta : TE} {P1 : TD → Prop} (ha : EX K M ta ρ (fun x => ∃ d, x = .p d ∧ P1 d)) : EX K M (tOp (fun x y H Q => y = .non ∧ Q (.bl (decide (x = .non))) H) ta (tC .non)) ρ (fun y => ∃ d, y = bD (isN d) ∧ P1 d) :=
  ex_opP (P2 := fun d => d = .non) ha (ev_non.mono fun x e => ⟨_, e, rfl⟩) fun a b H v u p1 p2 hp t1 t2 Q q => by
    subst p2
    have := t2.non_inv
    subst this
    refine ⟨rfl, q _ _ _ ⟨a, rfl, p1⟩ (Le.refl H) hp ?_⟩
    rw [t1.isN]
    exact Tp.bl _
def CalmP (b : Bk) (x : Dt) : Prop := ∃ c : Bool, x = bD c ∧ (c = true ↔ NoBr b)
def sp_calm (K : PySem.W.Frag) : Sp := spX K (A := Bk) (fun a => [bkD a]) Bk.Ok CalmP
theorem so_calm {M : PM} {b : Bk} (h : b.Ok) : SpOk K M (sp_calm K) [bkD b] (CalmP b) := spX_ok b h
theorem ok_calm (G : Gp K mg) (F : Fu K mg "calm" "calm" "calm" s_calm ["book"])
    (D_breach : Df P w K mg base 6 "breach" ["book"] (sp_breach K)) : Df P w K mg base 7 "calm" ["book"] (sp_calm K) := by
  exact df_mk F sc_calm (fun _ => rfl) fun f cdv A' outer s H E hr => ⟨_, (pss_one (ps_ret (pe_cmpR op_isN (pe_callD D_breach hr (by decide) (by rfl) (pa_cons (pv 0) pa_nil)) pe_non (nomark _)))), fun M a h => by
    refine sx_ret (ex_isN (P1 := fun d => BrP a (.p d)) ((ex_call (xs := [bkD a]) (by walk_at "ev") (so_breach h)).mono fun x p => ?_)) fun y ⟨d, e, p⟩ => ?_
    · rcases p with ⟨e, p⟩ | ⟨n, j, u, k, p, e⟩
      · exact ⟨.non, e, .inl ⟨rfl, p⟩⟩
      · exact ⟨_, e, .inr ⟨n, j, u, k, p, rfl⟩⟩
    · refine ⟨isN d, e, ?_⟩
      rcases p with ⟨e, p⟩ | ⟨n, j, u, k, p, e⟩
      · have : d = .non := by injection e
        subst this
        exact ⟨fun _ => p, fun _ => rfl⟩
      · have := Dt.p.inj e
        subst this
        refine ⟨fun z => (nomatch z), fun q => ?_⟩
        have := q k (List.mem_of_getElem? p.hk) j p.hj
        rw [p.hu] at this
        cases this⟩
def sp_losses (K : PySem.W.Frag) : Sp := spX K (A := Bk × Bool) (fun a => [bkD a.1, bD a.2]) (fun a => a.1.Ok) (fun a x => x = .f ((lossesV a.1 a.2).map eFr))
theorem so_losses {M : PM} {b : Bk} {c : Bool} (h : b.Ok) : SpOk K M (sp_losses K) [bkD b, bD c] (fun x => x = .f ((lossesV b c).map eFr)) := spX_ok (b, c) h
theorem lossAt_len (st : List Fr) (a c : Fr) : (lossAt st a c).length = st.length := by unfold lossAt; rw [List.length_map, units_len]
theorem ok_losses (G : Gp K mg) (F : Fu K mg "losses" "losses" "losses" s_losses ["book", "capped"])
    (D_sorts_at : Df P w K mg base 1 "sorts_at" ["book", "pair"] (sp_sorts_at K))
    (D_grains_of : Df P w K mg base 4 "grains_of" ["one", "other"] (sp_grains_of K))
    (D_swing : Df P w K mg base 1 "swing" ["one", "other", "grains"] (sp_swing K))
    (D_in_grains : Df P w K mg base 3 "in_grains" ["steps", "grains"] (sp_in_grains K))
    (D_made : Df P w K mg base 2 "made" ["top", "bottom"] (sp_made K))
    (D_runs_at : Df P w K mg base 1 "runs_at" ["units", "number"] (sp_runs_at K)) : Df P w K mg base 5 "losses" ["book", "capped"] (sp_losses K) := by
  exact df_mk F sc_losses (fun _ => rfl) fun f cdv A' outer s H E hr => ⟨_, (pss_cons (ps_set (i := 2) sc_losses.nd rfl (Or.inl rfl) (pe_lst pa_nil))
  (pss_cons (ps_for PassesOwn.never rfl (pi_tup (pe_fld (pv 0) rfl)) (pg_tup rfl (pgs_cons (pg_name (i := 3) sc_losses.nd rfl (Or.inl rfl)) (pgs_cons (pg_name (i := 4) sc_losses.nd rfl (Or.inl rfl)) pgs_nil)))
   (pss_one (ps_for PassesOwn.never rfl (pi_tup (pv 4)) (pg_name (i := 5) sc_losses.nd rfl (Or.inl rfl))
   (pss_cons (ps_asg (pe_callD D_sorts_at hr (by decide) (by rfl) (pa_cons (pv 0) (pa_cons (pv 5) pa_nil))) (pg_tup rfl (pgs_cons (pg_name (i := 6) sc_losses.nd rfl (Or.inl rfl)) (pgs_cons (pg_name (i := 7) sc_losses.nd rfl (Or.inl rfl)) pgs_nil))))
  (pss_cons (ps_if (pt_not (pt_val (pv 1)))
   (pss_one (ps_par (i := 6) (j := 7) rfl sc_losses.nd rfl rfl (by decide) rfl rfl (pa_cons (pe_tup (pa_cons (pe_ix ix_tup (pv 6) pe_int (fun _ _ => rfl)) (pa_cons pe_int pa_nil))) (pa_cons (pe_tup (pa_cons (pe_ix ix_tup (pv 7) pe_int (fun _ _ => rfl)) (pa_cons pe_int pa_nil))) pa_nil)) (by rfl)))
   pss_nil)
  (pss_cons (ps_set (i := 8) sc_losses.nd rfl (Or.inr rfl) (pe_callD D_grains_of hr (by decide) (by rfl) (pa_cons (pv 6) (pa_cons (pv 7) pa_nil))))
  (pss_cons (ps_set (i := 9) sc_losses.nd rfl (Or.inr rfl) (pe_callD D_swing hr (by decide) (by rfl) (pa_cons (pv 6) (pa_cons (pv 7) (pa_cons (pv 8) pa_nil)))))
  (pss_cons (ps_set (i := 10) sc_losses.nd rfl (Or.inr rfl) (pe_callD D_in_grains hr (by decide) (by rfl) (pa_cons (pv 3) (pa_cons (pv 8) pa_nil))))
  (pss_one (ps_expr (pe_bm PySem.F.plainAttrs_list PySem.F.slot_list_extend PySem.F.type_list_extend mt_extend (pv 2) (pa_cons (pe_lc (own := [("unit", 11)]) rfl sc_losses.nd (pi_tup (pv 10)) (blkOk_by (own := [("unit", 11)]) (N := n_losses) (sc := defScope s_losses) (by decide +kernel)) (fun _ _ _ _ _ => (pg_name (i := 11) sc_losses.nd rfl (Or.inl rfl))) (fun _ _ _ _ _ => pts_nil) (fun _ _ _ _ _ => (pe_callD D_made hr (by decide) (by rfl) (pa_cons (pe_op op_sub (pe_op op_mulW pe_int (pv 11)) (pe_op op_mulW (pe_callD D_runs_at hr (by decide) (by rfl) (pa_cons (pv 10) (pa_cons (pv 11) pa_nil))) (pv 9))) (pa_cons (pv 8) pa_nil))))) pa_nil))))))))))))
  (pss_one (ps_ret (pv 2))))), fun M a h => by
    obtain ⟨b, c⟩ := a
    have h : b.Ok := h
    have lk : ∀ k ∈ b.ks, ∀ j ∈ k.2, (lossAt k.1 (capd c (ssAt b.ss j.1)) (capd c (ssAt b.ss j.2))).length ≤ 6 := fun k hk j hj => by
      rw [lossAt_len]; exact (h.ks k hk).1.2.1
    have lK : ∀ k ∈ b.ks, (lossesK b.ss c k).length ≤ 96 := fun k hk => by
      have := flat_len (lk k hk)
      have := (h.ks k hk).2.2.1
      unfold lossesK
      omega
    have hks := h.len
    refine sx_seq (sx_setf (ev_lst evt_nil) fun q => ?_)
    refine sx_seq (sx_for (wx_tupV (ds := b.ks.map eK) (by walk_at "ev")) (fun i ρ' => ∃ z1 z2 z3 z4 z5 z6 z7 z8 z9, ρ' = [some (bkD b), some (bD c), some (.m q (((b.ks.take i).flatMap (lossesK b.ss c)).map eFr)), z1, z2, z3, z4, z5, z6, z7, z8, z9]) ⟨none, none, none, none, none, none, none, none, none, rfl⟩ (fun _ _ _ => trivial) (fun i d ρ' hd ⟨z1, z2, z3, z4, z5, z6, z7, z8, z9, e⟩ => ?_) fun ρ' ⟨z1, z2, z3, z4, z5, z6, z7, z8, z9, e⟩ => ?_)
    · obtain ⟨⟨st, js⟩, hk, ed, hm⟩ := map_get hd
      subst e ed
      have hko := h.ks _ hm
      have hjs : js.length ≤ 16 := hko.2.2.1
      have l1 := flat_len (f := lossesK b.ss c) (n := 96) (xs := b.ks.take i) fun k hk => lK k (List.mem_of_mem_take hk)
      have l2 : (b.ks.take i).length ≤ 5 := by rw [List.length_take]; omega
      refine gx_tup2 (gx_name (gx_name ?_))
      refine sx_for (wx_tupV (ds := js.map eJ) (ev_p rfl)) (fun i2 ρ' => ∃ z3 z4 z5 z6 z7 z8 z9, ρ' = [some (bkD b), some (bD c), some (.m q (((b.ks.take i).flatMap (lossesK b.ss c) ++ (js.take i2).flatMap fun j => lossAt st (capd c (ssAt b.ss j.1)) (capd c (ssAt b.ss j.2))).map eFr)), some (.p (eSt st)), some (.p (.tup (js.map eJ))), z3, z4, z5, z6, z7, z8, z9]) ⟨z3, z4, z5, z6, z7, z8, z9, by rw [List.take_zero, List.flatMap_nil, List.append_nil]; rfl⟩ (fun _ _ _ => trivial) (fun i2 d ρ' hd ⟨z3, z4, z5, z6, z7, z8, z9, e⟩ => ?_) fun ρ' ⟨z3, z4, z5, z6, z7, z8, z9, e⟩ => ?_
      · obtain ⟨j, hj, ed, hmj⟩ := map_get hd
        subst e ed
        obtain ⟨g1, g2, g3, g4⟩ := h.at hm hmj
        have l3 := flat_len (f := fun j : Jn => lossAt st (capd c (ssAt b.ss j.1)) (capd c (ssAt b.ss j.2))) (n := 6) (xs := js.take i2) fun x hx => lk _ hm x (List.mem_of_mem_take hx)
        have l4 : (js.take i2).length ≤ 16 := by rw [List.length_take]; omega
        have l5 := lk _ hm j hmj
        rw [flat_take hj, ← List.append_assoc]
        generalize hacc : (b.ks.take i).flatMap (lossesK b.ss c) ++ (js.take i2).flatMap (fun j => lossAt st (capd c (ssAt b.ss j.1)) (capd c (ssAt b.ss j.2))) = acc
        have l6 : acc.length ≤ 600 := by rw [← hacc, List.length_append]; omega
        refine gx_name (sx_seq (sx_unp2 (ex_call (xs := [bkD b, .p (eJ j)]) (by walk_at "ev") (so_sorts_at g1 g2)) ?_))
        refine sx_seq (SX.mono (P := fun o => o = .nx [some (bkD b), some (bD c), some (.m q (acc.map eFr)), some (.p (eSt st)), some (.p (.tup (js.map eJ))), some (.p (eJ j)), some (frD (capd c (ssAt b.ss j.1))), some (frD (capd c (ssAt b.ss j.2))), z6, z7, z8, z9]) (sx_ifB (et_not (a := c) (et_B (by walk_at "ev"))) (fun hc => ?_) fun hc => ?_) fun o e => ?_)
        · cases c with
          | true => cases hc
          | false => exact sx_par (x := frD ((ssAt b.ss j.1).1, 1)) (y := frD ((ssAt b.ss j.2).1, 1)) (ev_tup (by walk_at "ev")) (ev_tup (by walk_at "ev")) rfl
        · cases c with
          | true => exact sx_next rfl
          | false => cases hc
        · subst e
          have o1 := capd_ok (c := c) g3
          have o2 := capd_ok (c := c) g4
          have hg := gr_bd o1 o2
          have hsw := swing_bd o1 o2 hg.1 hg.2
          have hub := units_bd hko.1 hg.1 hg.2
          have hl := units_len st (gr (capd c (ssAt b.ss j.1)) (capd c (ssAt b.ss j.2)))
          have hl2 : st.length ≤ 6 := hko.1.2.1
          unfold lossAt
          generalize capd c (ssAt b.ss j.1) = sa at *
          generalize capd c (ssAt b.ss j.2) = sb at *
          refine sx_seq (sx_set (d := .int (gr sa sb)) (ex_call (xs := [frD sa, frD sb]) (by walk_at "ev") (so_grains_of o1 o2)) ?_)
          refine sx_seq (sx_set (d := .int (swingV sa sb (gr sa sb))) (ex_call (xs := [frD sa, frD sb, iD (gr sa sb)]) (by walk_at "ev") (so_swing o1 o2 (.of (by omega)))) ?_)
          refine sx_seq (sx_set (d := .tup ((units st (gr sa sb)).map .int)) (ex_call (xs := [.p (eSt st), iD (gr sa sb)]) (by walk_at "ev") (so_in_grains (by omega) (.of (by omega)) hko.1.thr)) ?_)
          refine sx_extend (a := q) (ds := acc.map eFr) (es := ((units st (gr sa sb)).map fun u => mk (2 * u - runsAt (units st (gr sa sb)) u * swingV sa sb (gr sa sb)) (gr sa sb)).map eFr) rfl ?_ (by rw [List.length_map, List.length_map, List.length_map]; omega) ⟨_, _, _, _, _, _, _, by rw [← List.map_append]; rfl⟩
          rw [List.map_map]
          refine ev_lcMap (xs := units st (gr sa sb)) (enc := .int) (wx_tupV (ds := (units st (gr sa sb)).map .int) (ev_p rfl)) trivial (by omega) fun u hu => ?_
          have hu2 := hub u hu
          have hr1 := runsAt_bd (units st (gr sa sb)) u
          exact ex_call (xs := [iD (2 * u - runsAt (units st (gr sa sb)) u * swingV sa sb (gr sa sb)), iD (gr sa sb)]) (evs_cons (ev_I0 (a := 2 * u) (b := runsAt (units st (gr sa sb)) u * swingV sa sb (gr sa sb)) (ev_I (a := 2) (b := u) ev_int (by walk_at "ev") (Sm.mulOk (.of (by decide)) (.of (by omega)))) (ev_I (a := runsAt (units st (gr sa sb)) u) (b := swingV sa sb (gr sa sb)) (ex_call (xs := [.p (.tup ((units st (gr sa sb)).map .int)), iD u]) (by walk_at "ev") (so_runs_at (by omega))) (by walk_at "ev") (Sm.mulOk (.of (by omega)) (.of (by omega))))) (evs_cons (by walk_at "ev") evs_nil)) (so_made (by omega) (Sm.of (by omega)).bg)
      · subst e
        rw [List.length_map, List.take_length, flat_take hk]
        exact ⟨_, _, _, _, _, _, _, _, _, rfl⟩
    · subst e
      rw [List.length_map, List.take_length]
      exact sx_retM rfl rfl⟩
def lossD : Option Fr → Dt
  | none => nD
  | some f => frD f
theorem losses_ok {b : Bk} {c : Bool} (h : b.Ok) : ∀ x ∈ lossesV b c, 1 ≤ x.2 ∧ x.2 ≤ 144 ∧ x.1.natAbs ≤ 10000000000 ∧ Int.gcd x.1 x.2 = 1 := by
  intro x hx
  obtain ⟨k, hk, hx⟩ := List.mem_flatMap.mp hx
  obtain ⟨j, hj, hx⟩ := List.mem_flatMap.mp hx
  obtain ⟨_, _, g3, g4⟩ := h.at hk hj
  exact lossAt_ok (h.ks k hk).1 (capd_ok g3) (capd_ok g4) x hx
theorem losses_sm {b : Bk} {c : Bool} (h : b.Ok) : ∀ x ∈ lossesV b c, Sm x.1 ∧ Sm x.2 := fun x hx => by
  obtain ⟨h1, h2, h3, _⟩ := losses_ok h x hx
  exact ⟨Nat.lt_of_le_of_lt h3 (Nat.lt_of_lt_of_le (by decide : 10000000000 < 2 ^ 40) (Nat.pow_le_pow_right (by decide) (by decide))), .of (by omega)⟩
theorem losses_len {b : Bk} {c : Bool} (h : b.Ok) : (lossesV b c).length ≤ 480 := by
  have := flat_len (f := lossesK b.ss c) (n := 96) (xs := b.ks) fun k hk => by
    have := flat_len (f := fun j : Jn => lossAt k.1 (capd c (ssAt b.ss j.1)) (capd c (ssAt b.ss j.2))) (n := 6) (xs := k.2) fun j hj => by rw [lossAt_len]; exact (h.ks k hk).1.2.1
    have := (h.ks k hk).2.2.1
    unfold lossesK
    omega
  have := h.len
  unfold lossesV
  omega
def sp_loss (K : PySem.W.Frag) : Sp := spX K (A := Bk) (fun a => [bkD a]) (fun a => a.Ok ∧ NoBr a) (fun a x => x = lossD (leastF (lossesV a true)))
theorem so_loss {M : PM} {b : Bk} (h : b.Ok) (h2 : NoBr b) : SpOk K M (sp_loss K) [bkD b] (fun x => x = lossD (leastF (lossesV b true))) := spX_ok b ⟨h, h2⟩
theorem fold_take {α β : Type} {f : β → α → β} {z : β} {xs : List α} {i : Nat} {x : α} (h : xs[i]? = some x) : (xs.take (i + 1)).foldl f z = f ((xs.take i).foldl f z) x := by
  rw [List.take_add_one, h, List.foldl_append]; rfl
theorem fold_mem {xs : List Fr} {x : Fr} : ∀ ys : List Fr, (∀ y ∈ ys, y ∈ xs) → x ∈ xs → ys.foldl (fun m y => if below y m then y else m) x ∈ xs
  | [], _, h => h
  | y :: ys, h1, h => by
    rw [List.foldl_cons]
    refine fold_mem ys (fun z hz => h1 z (List.mem_cons_of_mem _ hz)) ?_
    split
    · exact h1 y (List.mem_cons_self ..)
    · exact h
theorem ok_loss (G : Gp K mg) (F : Fu K mg "loss" "loss" "loss" s_loss ["book"])
    (D_calm : Df P w K mg base 7 "calm" ["book"] (sp_calm K))
    (D_losses : Df P w K mg base 5 "losses" ["book", "capped"] (sp_losses K))
    (D_is_below : Df P w K mg base 1 "is_below" ["one", "other"] (sp_is_below K)) : Df P w K mg base 8 "loss" ["book"] (sp_loss K) := by
  exact df_mk F sc_loss (fun _ => rfl) fun f cdv A' outer s H E hr => ⟨_, (pss_cons (ps_if (pt_not (pt_val (pe_callD D_calm hr (by decide) (by rfl) (pa_cons (pv 0) pa_nil))))
   (pss_one ps_never)
   pss_nil)
  (pss_cons (ps_set (i := 1) sc_loss.nd rfl (Or.inl rfl) (pe_callD D_losses hr (by decide) (by rfl) (pa_cons (pv 0) (pa_cons pe_bl pa_nil))))
  (pss_cons (ps_if (pt_cmpR op_eq (pe_callB call_len_seq (by rfl) G.n_len bb_len (pa_cons (pv 1) pa_nil)) pe_int (nomark _))
   (pss_one (ps_ret pe_non))
   pss_nil)
  (pss_cons (ps_set (i := 2) sc_loss.nd rfl (Or.inl rfl) (pe_ix ix_list (pv 1) pe_int (fun _ _ => rfl)))
  (pss_cons (ps_for PassesOwn.never rfl (pi_list (pv 1)) (pg_name (i := 3) sc_loss.nd rfl (Or.inl rfl))
   (pss_one (ps_if (pt_val (pe_callD D_is_below hr (by decide) (by rfl) (pa_cons (pv 3) (pa_cons (pv 2) pa_nil))))
   (pss_one (ps_set (i := 2) sc_loss.nd rfl (Or.inl rfl) (pv 3)))
   pss_nil)))
  (pss_one (ps_ret (pv 2)))))))), fun M a h => by
    obtain ⟨h1, h2⟩ := h
    have hsm := losses_sm (c := true) h1
    have hlen := losses_len (c := true) h1
    refine sx_seq (sx_ifF (et_notT (et_B ((ex_call (xs := [bkD a]) (by walk_at "ev") (so_calm h1)).mono fun x ⟨c, e, hc⟩ => by rw [e, hc.mpr h2]))) (sx_next ?_))
    refine sx_seq (sx_setf (ex_call (xs := [bkD a, bD true]) (by walk_at "ev") (so_losses h1)) fun q => ?_)
    refine sx_seq ?_
    show SX K M _ _ (thenS _ K M (fin fun x => x = lossD (leastF (lossesV a true))))
    generalize lossesV a true = ls at *
    cases ls with
    | nil =>
      exact sx_ifT (et_test (EV.to (x := bD (decide ((0 : Int) = 0))) (ev_eqI (a := 0) (b := 0) (ev_lenL (ds := []) (by walk_at "ev")) ev_int) rfl)) (sx_retV ev_non rfl)
    | cons x xs =>
      refine sx_ifF (et_test (EV.to (ev_eqI (a := ((x :: xs).length : Int)) (b := 0) ((ev_lenL (ds := (x :: xs).map eFr) (by walk_at "ev")).to (by rw [List.length_map])) ev_int) (congrArg bD (decide_eq_false (by rw [List.length_cons]; omega))))) (sx_next ?_)
      refine sx_seq (sx_set (d := eFr x) (ev_ixL (ds := (x :: xs).map eFr) (ev_m rfl) ev_int 0 rfl rfl) ?_)
      refine sx_seq (sx_for (wx_listM (s := 1) (a := q) (ds := (x :: xs).map eFr) rfl) (fun i ρ' => ∃ z, ρ' = [some (bkD a), some (.m q ((x :: xs).map eFr)), some (frD (((x :: xs).take i).foldl (fun m y => if below y m then y else m) x)), z]) ⟨none, rfl⟩ (fun i ρ' ⟨z, e⟩ => by subst e; rfl) (fun i d ρ' hd ⟨z, e⟩ => ?_) fun ρ' ⟨z, e⟩ => ?_)
      · obtain ⟨y, hy, ed, hm⟩ := map_get hd
        subst e ed
        rw [fold_take hy]
        have s1 := hsm y hm
        have s2 := hsm _ (fold_mem (xs := x :: xs) (x := x) ((x :: xs).take i) (fun y hy => List.mem_of_mem_take hy) (List.mem_cons_self ..))
        generalize ((x :: xs).take i).foldl (fun m y => if below y m then y else m) x = m at *
        refine gx_name (sx_ifB (b := below y m) (et_B (ex_call (xs := [frD y, frD m]) (by walk_at "ev") (so_is_below s1.1 s1.2 s2.1 s2.2))) (fun hb => ?_) fun hb => ?_)
        · rw [if_pos hb]
          exact sx_set (d := eFr y) (by walk_at "ev") ⟨_, rfl⟩
        · rw [if_neg (by rw [hb]; decide)]
          exact sx_next ⟨_, rfl⟩
      · subst e
        rw [List.length_map, List.take_length]
        exact sx_retV (ev_p rfl) rfl⟩
def sp_calm_singly (K : PySem.W.Frag) : Sp := spX K (A := Bk) (fun a => [bkD a]) Bk.Ok (fun a x => x = bD ((lossesV a false).all fun x => decide (x.1 > 0)))
theorem so_calm_singly {M : PM} {b : Bk} (h : b.Ok) : SpOk K M (sp_calm_singly K) [bkD b] (fun x => x = bD ((lossesV b false).all fun x => decide (x.1 > 0))) := spX_ok b h
theorem ok_calm_singly (G : Gp K mg) (F : Fu K mg "calm_singly" "calm_singly" "calm_singly" s_calm_singly ["book"])
    (D_losses : Df P w K mg base 5 "losses" ["book", "capped"] (sp_losses K)) : Df P w K mg base 6 "calm_singly" ["book"] (sp_calm_singly K) := by
  exact df_mk F sc_calm_singly (fun _ => rfl) fun f cdv A' outer s H E hr => ⟨_, (pss_one (ps_ret (pe_callB (cr_all rfl) (by rfl) G.n_all bb_all (pa_cons (pe_lc (own := [("one", 1)]) rfl sc_calm_singly.nd (pi_list (pe_callD D_losses hr (by decide) (by rfl) (pa_cons (pv 0) (pa_cons pe_bl pa_nil)))) (blkOk_by (own := [("one", 1)]) (N := n_calm_singly) (sc := defScope s_calm_singly) (by decide +kernel)) (fun _ _ _ _ _ => (pg_name (i := 1) sc_calm_singly.nd rfl (Or.inl rfl))) (fun _ _ _ _ _ => pts_nil) (fun _ _ _ _ _ => (pe_cmpR op_gt (pe_ix (ix_tupK K) (pv 1) pe_int (fun _ _ => rfl)) pe_int (nomark _)))) pa_nil)))), fun M a h => by
    have hlen := losses_len (c := false) h
    exact sx_retV (ev_allM (xs := lossesV a false) (f := fun x => decide (x.1 > 0)) (ev_lcMap (enc := eFr) (wx_listFV (ex_call (xs := [bkD a, bD false]) (by walk_at "ev") (so_losses h))) trivial (by omega) fun x hx => ev_IB (a := x.1) (b := 0) (by walk_at "ev") ev_int)) rfl⟩
end
end K37
end
section
set_option Elab.async false
set_option linter.all false
set_option maxRecDepth 100000
set_option maxHeartbeats 4000000
namespace K37
open PySem PySem.Spec PyProof.Rows L2
local macro_rules | `(tactic| walk_at "ev") => `(tactic| (repeat' (first
  | exact ev_p rfl | exact ev_m rfl | exact ev_l rfl | exact ev_o rfl | exact ev_pool rfl | exact ev_int | exact ev_bl | exact ev_non | exact evs_nil | exact evt_nil
  | apply evs_cons | apply evt_cons | apply ev_ix0 | apply ev_ix1 | apply ev_ix2
  | apply ev_I0 | apply ev_IB | apply ev_eqI | apply ev_neI | apply ev_neg | apply ev_abs
  | apply ev_lenT | apply ev_lenL | apply ev_lenF | apply ev_isN | apply ev_notN | apply et_test | apply et_B | apply et_not
  | apply ev_isiI | apply ev_isiB | apply ev_isiT | apply ev_chainI | apply ev_not | apply ev_max2 | apply ev_min2 | apply ev_max3 | apply ev_int1 | apply ev_sorts | apply ev_kinds | apply ev_widths | apply ev_pipes)))
abbrev s_law_divisor : Stmt := topS 89
abbrev n_law_divisor : List Str := ["_law_one", "_law_other"]
theorem sc_law_divisor : FnScope n_law_divisor ["_law_one", "_law_other"] (defScope s_law_divisor) := ⟨rfl, rfl, rfl, by decide +kernel, rfl, by decide +kernel, by decide +kernel⟩

abbrev s_law_lowest : Stmt := topS 90
abbrev n_law_lowest : List Str := ["_law_top", "_law_bottom", "_law_part"]
theorem sc_law_lowest : FnScope n_law_lowest ["_law_top", "_law_bottom"] (defScope s_law_lowest) := ⟨rfl, rfl, rfl, by decide +kernel, rfl, by decide +kernel, by decide +kernel⟩

abbrev s_law_grains : Stmt := topS 91
abbrev n_law_grains : List Str := ["_law_width", "_law_other"]
theorem sc_law_grains : FnScope n_law_grains ["_law_width", "_law_other"] (defScope s_law_grains) := ⟨rfl, rfl, rfl, by decide +kernel, rfl, by decide +kernel, by decide +kernel⟩

abbrev s_law_room : Stmt := topS 92
abbrev n_law_room : List Str := ["_law_sorts_here", "_law_pair", "_law_grains_here", "_law_found", "_law_sort", "_law_width", "_law_cap"]
theorem sc_law_room : FnScope n_law_room ["_law_sorts_here", "_law_pair", "_law_grains_here"] (defScope s_law_room) := ⟨rfl, rfl, rfl, by decide +kernel, rfl, by decide +kernel, by decide +kernel⟩

abbrev s_law_pair_grains : Stmt := topS 93
abbrev n_law_pair_grains : List Str := ["_law_sorts_here", "_law_pair"]
theorem sc_law_pair_grains : FnScope n_law_pair_grains ["_law_sorts_here", "_law_pair"] (defScope s_law_pair_grains) := ⟨rfl, rfl, rfl, by decide +kernel, rfl, by decide +kernel, by decide +kernel⟩

abbrev s_law_pairs : Stmt := topS 95
abbrev n_law_pairs : List Str := ["_law_sorts_here", "_law_found", "_law_one", "_law_other"]
theorem sc_law_pairs : FnScope n_law_pairs ["_law_sorts_here"] (defScope s_law_pairs) := ⟨rfl, rfl, rfl, by decide +kernel, rfl, by decide +kernel, by decide +kernel⟩

abbrev s_law_widths : Stmt := topS 100
abbrev n_law_widths : List Str := ["_law_sorts_here", "_law_vessels", "_law_sort"]
theorem sc_law_widths : FnScope n_law_widths ["_law_sorts_here", "_law_vessels"] (defScope s_law_widths) := ⟨rfl, rfl, rfl, by decide +kernel, rfl, by decide +kernel, by decide +kernel⟩

/-- a sort as the law draws it -/
def LSort (s : Fr) : Prop := s.1 ∈ [(0 : Int), 1, 2, 3, 4, 5, 6, 12] ∧ 1 ≤ s.2 ∧ s.2 ≤ 6
theorem LSort.ok {s : Fr} (h : LSort s) : SortOk s := by
  obtain ⟨h1, h2, h3⟩ := h
  have : 0 ≤ s.1 ∧ s.1 ≤ 12 := by
    revert h1; generalize s.1 = x; intro h1
    simp only [List.mem_cons, List.not_mem_nil, or_false] at h1
    omega
  exact ⟨this.1, this.2, h2, h3⟩
theorem LSort.pog {s t : Fr} (h : LSort s) (g : LSort t) : K37.pog s.1 t.1 ≤ 72 := by
  have key : ∀ x ∈ [(0 : Int), 1, 2, 3, 4, 5, 6, 12], ∀ y ∈ [(0 : Int), 1, 2, 3, 4, 5, 6, 12], K37.pog x y ≤ 72 := by decide
  exact key _ h.1 _ g.1
section
variable {P : Program} {w : World} {K : PySem.W.Frag} {mg : Str → Option Value} {base : Heap}
def sp_law_divisor (K : PySem.W.Frag) : Sp := spX K (A := Nat × Nat) (fun a => [iD (a.1 : Int), iD (a.2 : Int)]) (fun _ => True) (fun a x => x = iD ((Nat.gcd a.1 a.2 : Nat) : Int))
theorem so_law_divisor {M : PM} {a b : Nat} : SpOk K M (sp_law_divisor K) [iD (a : Int), iD (b : Int)] (fun x => x = iD ((Nat.gcd a b : Nat) : Int)) := spX_ok (a, b) trivial
theorem ok_law_divisor (G : Gp K mg) (F : Fu K mg "_law_divisor" "_law_divisor" "_law_divisor" s_law_divisor ["_law_one", "_law_other"]) : Df P w K mg base 1 "_law_divisor" ["_law_one", "_law_other"] (sp_law_divisor K) := by
  exact df_mk F sc_law_divisor (fun _ => rfl) fun f cdv A' outer s H E hr => ⟨_, (pss_cons (ps_while PassesOwn.never (pt_cmpR op_gt (pv 1) pe_int (nomark _))
   (pss_one (ps_par (i := 0) (j := 1) rfl sc_law_divisor.nd rfl rfl (by decide) rfl rfl (pa_cons (pv 1) (pa_cons (pe_op op_mod (pe_callTy call_int1 (by rfl) G.n_int bb_int (pa_cons (pv 0) pa_nil)) (pv 1)) pa_nil)) (by rfl))))
  (pss_one (ps_ret (pv 0)))), fun M a h => by
    obtain ⟨a, b⟩ := a
    refine sx_seq (sx_while (fun m ρ' => ∃ x : Nat, ρ' = [some (iD (x : Int)), some (iD (m : Int))] ∧ Nat.gcd x m = Nat.gcd a b) b ⟨a, rfl, rfl⟩ fun m ρ' ⟨x, e, hg⟩ => ⟨fun c => c = decide ((m : Int) > 0), ?_, fun hc => ?_, fun hc => ?_⟩)
    all_goals subst e
    · walk_at "ev"
    · have hy : 0 < m := by
        have := of_decide_eq_true hc.symm
        omega
      refine sx_par (x := iD (m : Int)) (y := iD ((x : Int) % (m : Int))) (ev_p rfl) (ev_I (a := (x : Int)) (b := (m : Int)) (ev_int1 (ev_p rfl)) (ev_p rfl) (by omega)) ⟨x % m, Nat.mod_lt _ hy, m, rfl, ?_⟩
      rw [← hg, Nat.gcd_comm x m, Nat.gcd_rec m x, Nat.gcd_comm]
    · have hy : m = 0 := by
        have := of_decide_eq_false hc.symm
        omega
      subst hy
      rw [Nat.gcd_zero_right] at hg
      rw [hg]
      exact sx_retV (ev_p rfl) rfl⟩
def sp_law_lowest (K : PySem.W.Frag) : Sp := spX K (A := Int × Nat) (fun a => [iD a.1, iD (a.2 : Int)]) (fun a => 0 < a.2 ∧ a.2 ≤ 1000000) (fun a x => x = frD (mk a.1 (a.2 : Int)))
theorem so_law_lowest {M : PM} {a : Int} {b : Nat} (h : 0 < b) (h2 : b ≤ 1000000) : SpOk K M (sp_law_lowest K) [iD a, iD (b : Int)] (fun x => x = frD (mk a (b : Int))) := spX_ok (a, b) ⟨h, h2⟩
theorem ok_law_lowest (G : Gp K mg) (F : Fu K mg "_law_lowest" "_law_lowest" "_law_lowest" s_law_lowest ["_law_top", "_law_bottom"])
    (D_law_divisor : Df P w K mg base 1 "_law_divisor" ["_law_one", "_law_other"] (sp_law_divisor K)) : Df P w K mg base 2 "_law_lowest" ["_law_top", "_law_bottom"] (sp_law_lowest K) := by
  exact df_mk F sc_law_lowest (fun _ => rfl) fun f cdv A' outer s H E hr => ⟨_, (pss_cons (ps_set (i := 2) sc_law_lowest.nd rfl (Or.inl rfl) (pe_callD D_law_divisor hr (by decide) (by rfl) (pa_cons (pe_callB call_abs (by rfl) G.n_abs bb_abs (pa_cons (pv 0) pa_nil)) (pa_cons (pv 1) pa_nil))))
  (pss_one (ps_ret (pe_tup (pa_cons (pe_op op_fdivW (pv 0) (pv 2)) (pa_cons (pe_op op_fdivW (pv 1) (pv 2)) pa_nil)))))), fun M a h => by
    obtain ⟨a, b⟩ := a
    obtain ⟨h1, h2⟩ := h
    have h1 : 0 < b := h1
    have h2 : b ≤ 1000000 := h2
    have hp := gcd_pos (t := a) (b := (b : Int)) (by omega)
    have hl := gcd_le (t := a) (b := (b : Int)) (by omega)
    have hd : ∀ x, CDivW x (Int.gcd a (b : Int) : Int) := fun x => Bg.divOk hp (Sm.of (by omega)).bg
    refine sx_seq (sx_set (d := .int (Int.gcd a (b : Int) : Int)) (ex_call (xs := [iD ((a.natAbs : Nat) : Int), iD (b : Int)]) (evs_cons ((ev_abs (a := a) (ev_p rfl)).to (by rw [abs_eq])) (evs_cons (by walk_at "ev") evs_nil)) so_law_divisor) ?_)
    exact sx_retV (ev_tup (evt_cons (ev_I (a := a) (b := (Int.gcd a (b : Int) : Int)) (ev_p rfl) (ev_p rfl) (hd _)) (evt_cons (ev_I (a := (b : Int)) (b := (Int.gcd a (b : Int) : Int)) (ev_p rfl) (ev_p rfl) (hd _)) evt_nil))) rfl⟩
def sp_law_grains (K : PySem.W.Frag) : Sp := spX K (A := Int × Int) (fun a => [iD a.1, iD a.2]) (fun a => 0 ≤ a.1 ∧ a.1 ≤ 12 ∧ 0 ≤ a.2 ∧ a.2 ≤ 12 ∧ (0 < a.1 ∨ 0 < a.2)) (fun a x => x = iD (pog a.1 a.2))
theorem so_law_grains {M : PM} {a b : Int} (h1 : 0 ≤ a) (h2 : a ≤ 12) (h3 : 0 ≤ b) (h4 : b ≤ 12) (h5 : 0 < a ∨ 0 < b) : SpOk K M (sp_law_grains K) [iD a, iD b] (fun x => x = iD (pog a b)) := spX_ok (a, b) ⟨h1, h2, h3, h4, h5⟩
theorem ok_law_grains (G : Gp K mg) (F : Fu K mg "_law_grains" "_law_grains" "_law_grains" s_law_grains ["_law_width", "_law_other"])
    (D_law_divisor : Df P w K mg base 1 "_law_divisor" ["_law_one", "_law_other"] (sp_law_divisor K)) : Df P w K mg base 2 "_law_grains" ["_law_width", "_law_other"] (sp_law_grains K) := by
  exact df_mk F sc_law_grains (fun _ => rfl) fun f cdv A' outer s H E hr => ⟨_, (pss_cons (ps_if (PW.pt (pw_or (pt_cmpR op_eq (pv 0) pe_int (nomark _)) (pw_or1 (pt_cmpR op_eq (pv 1) pe_int (nomark _)))))
   (pss_one (ps_ret (pe_callB (call_max2 rfl) (by rfl) G.n_max bb_max (pa_cons (pv 0) (pa_cons (pv 1) pa_nil)))))
   pss_nil)
  (pss_one (ps_ret (pe_op op_mulW (pe_op op_fdivW (pv 0) (pe_callD D_law_divisor hr (by decide) (by rfl) (pa_cons (pv 0) (pa_cons (pv 1) pa_nil)))) (pv 1))))), fun M a h => by
    obtain ⟨a, b⟩ := a
    obtain ⟨h1, h2, h3, h4, h5⟩ := h
    have h1 : 0 ≤ a := h1
    have h2 : a ≤ 12 := h2
    have h3 : 0 ≤ b := h3
    have h4 : b ≤ 12 := h4
    have h5 : 0 < a ∨ 0 < b := h5
    obtain ⟨a, rfl⟩ := Int.eq_ofNat_of_zero_le h1
    obtain ⟨b, rfl⟩ := Int.eq_ofNat_of_zero_le h3
    refine sx_seq (sx_ifB (b := decide ((a : Int) = 0) || decide ((b : Int) = 0)) (et_or (by walk_at "ev") fun _ => by walk_at "ev") (fun hb => ?_) fun hb => sx_next ?_)
    · refine sx_retV (x := iD (max (a : Int) (b : Int))) (by walk_at "ev") ?_
      show iD _ = iD (pog a b)
      unfold pog
      rw [if_pos (by simpa using hb)]
      rw [show max (max (a : Int) (b : Int)) 1 = max (a : Int) (b : Int) by omega]
    · have hn : ¬ ((a : Int) = 0 ∨ (b : Int) = 0) := by simpa using hb
      have hp := gcd_pos (t := (a : Int)) (b := (b : Int)) (by omega)
      have hl := gcd_le (t := (a : Int)) (b := (b : Int)) (by omega)
      have hq : Sm ((a : Int) / (Int.gcd (a : Int) (b : Int) : Int)) := div_sm h1 hp (.of (by omega))
      refine sx_retV (x := iD (pog a b)) (EV.to (x := iD ((a : Int) / (Int.gcd (a : Int) (b : Int) : Int) * (b : Int))) (ev_I (a := (a : Int) / (Int.gcd (a : Int) (b : Int) : Int)) (b := (b : Int)) (ev_I (a := (a : Int)) (b := (Int.gcd (a : Int) (b : Int) : Int)) (ev_p rfl) (ex_call (xs := [iD (a : Int), iD (b : Int)]) (by walk_at "ev") so_law_divisor) (Bg.divOk hp (Sm.of (by omega)).bg)) (ev_p rfl) (hq.mulOk (.of (by omega)))) ?_) rfl
      unfold pog
      rw [if_neg hn]⟩
def sp_law_room (K : PySem.W.Frag) : Sp := spX K (A := List Fr × Jn × Int) (fun a => [.p (.tup (a.1.map eFr)), .p (eJ a.2.1), iD a.2.2]) (fun a => (∃ x y : Fr, a.1[a.2.1.1]? = some x ∧ a.1[a.2.1.2]? = some y ∧ SortOk x ∧ SortOk y) ∧ 0 ≤ a.2.2 ∧ a.2.2 ≤ 144) (fun _ x => ∃ r, x = iD r ∧ 0 ≤ r ∧ r ≤ 1728)
theorem so_law_room {M : PM} {ss : List Fr} {j : Jn} {g : Int} {x y : Fr} (h1 : ss[j.1]? = some x) (h2 : ss[j.2]? = some y) (h3 : SortOk x) (h4 : SortOk y) (h5 : 0 ≤ g) (h6 : g ≤ 144) : SpOk K M (sp_law_room K) [.p (.tup (ss.map eFr)), .p (eJ j), iD g] (fun x => ∃ r, x = iD r ∧ 0 ≤ r ∧ r ≤ 1728) := spX_ok (ss, j, g) ⟨⟨x, y, h1, h2, h3, h4⟩, h5, h6⟩
theorem ok_law_room (G : Gp K mg) (F : Fu K mg "_law_room" "_law_room" "_law_room" s_law_room ["_law_sorts_here", "_law_pair", "_law_grains_here"]) : Df P w K mg base 1 "_law_room" ["_law_sorts_here", "_law_pair", "_law_grains_here"] (sp_law_room K) := by
  exact df_mk F sc_law_room (fun _ => rfl) fun f cdv A' outer s H E hr => ⟨_, (pss_cons (ps_set (i := 3) sc_law_room.nd rfl (Or.inl rfl) pe_int)
  (pss_cons (ps_for PassesOwn.never rfl (pi_tup (pv 1)) (pg_name (i := 4) sc_law_room.nd rfl (Or.inl rfl))
   (pss_cons (ps_asg (pe_ix ix_tup (pv 0) (pv 4) (fun _ _ => rfl)) (pg_tup rfl (pgs_cons (pg_name (i := 5) sc_law_room.nd rfl (Or.inl rfl)) (pgs_cons (pg_name (i := 6) sc_law_room.nd rfl (Or.inl rfl)) pgs_nil))))
  (pss_one (ps_if (pt_cmpR op_gt (pv 5) pe_int (nomark _))
   (pss_one (ps_set (i := 3) sc_law_room.nd rfl (Or.inl rfl) (pe_op op_add (pv 3) (pe_op op_mulW (pv 6) (pe_op op_fdivW (pv 2) (pv 5))))))
   pss_nil))))
  (pss_one (ps_ret (pv 3))))), fun M a h => by
    obtain ⟨ss, j, g⟩ := a
    obtain ⟨⟨x, y, h1, h2, h3, h4⟩, h5, h6⟩ := h
    have h5 : 0 ≤ g := h5
    have h6 : g ≤ 144 := h6
    refine sx_seq (sx_set (d := .int 0) ev_int ?_)
    refine sx_seq (sx_for (wx_tupV (ds := [j.1, j.2].map eN) (by walk_at "ev")) (fun i ρ' => ∃ r z1 z2 z3, ρ' = [some (.p (.tup (ss.map eFr))), some (.p (eJ j)), some (iD g), some (iD r), z1, z2, z3] ∧ 0 ≤ r ∧ r ≤ 864 * (i : Int)) ⟨0, none, none, none, rfl, Int.le_refl _, by decide⟩ (fun _ _ _ => trivial) (fun i d ρ' hd ⟨r, z1, z2, z3, e, r1, r2⟩ => ?_) fun ρ' ⟨r, z1, z2, z3, e, r1, r2⟩ => ?_)
    · obtain ⟨n, hn, ed, hm⟩ := map_get hd
      subst e ed
      obtain ⟨s, hs, so⟩ : ∃ s, ss[n]? = some s ∧ SortOk s := by
        rcases List.mem_cons.mp hm with e | e
        · rw [e]; exact ⟨x, h1, h3⟩
        · rw [List.mem_singleton.mp e]; exact ⟨y, h2, h4⟩
      obtain ⟨s1, s2, s3, s4⟩ := so
      refine gx_name (sx_seq (sx_unp2 (a := .int s.1) (b := .int s.2) (ev_ixM (f := eFr) (x := s) (n := n) (by walk_at "ev") (by walk_at "ev") hs) ?_))
      refine sx_ifB (b := decide (s.1 > 0)) (by walk_at "ev") (fun hb => ?_) fun hb => sx_next ⟨r, _, _, _, rfl, r1, by omega⟩
      have hp : s.1 > 0 := of_decide_eq_true hb
      have t1 := Int.ediv_nonneg (a := g) (b := s.1) h5 (by omega)
      have t2 := Int.ediv_le_self (a := g) s.1 h5
      have t3 : 0 ≤ s.2 * (g / s.1) := Int.mul_nonneg (by omega) t1
      have t4 : s.2 * (g / s.1) ≤ 6 * 144 := Int.mul_le_mul s4 (by omega) t1 (by decide)
      refine sx_set (d := .int (r + s.2 * (g / s.1))) (ev_I0 (a := r) (b := s.2 * (g / s.1)) (by walk_at "ev") (ev_I (a := s.2) (b := g / s.1) (by walk_at "ev") (ev_I (a := g) (b := s.1) (by walk_at "ev") (by walk_at "ev") (Bg.divOk hp (Sm.of (by omega)).bg)) (Sm.mulOk (.of (by omega)) (.of (by omega))))) ⟨_, _, _, _, rfl, by omega, by omega⟩
    · subst e
      exact sx_retV (ev_p rfl) ⟨r, rfl, r1, by simpa using r2⟩⟩
def sp_law_pair_grains (K : PySem.W.Frag) : Sp := spX K (A := List Fr × Jn) (fun a => [.p (.tup (a.1.map eFr)), .p (eJ a.2)]) (fun a => JoinOk a.1 a.2 ∧ ∀ s ∈ a.1, SortOk s) (fun a x => x = iD (gr (ssAt a.1 a.2.1) (ssAt a.1 a.2.2)))
theorem so_law_pair_grains {M : PM} {ss : List Fr} {j : Jn} (h1 : JoinOk ss j) (h2 : ∀ s ∈ ss, SortOk s) : SpOk K M (sp_law_pair_grains K) [.p (.tup (ss.map eFr)), .p (eJ j)] (fun x => x = iD (gr (ssAt ss j.1) (ssAt ss j.2))) := spX_ok (ss, j) ⟨h1, h2⟩
theorem ok_law_pair_grains (G : Gp K mg) (F : Fu K mg "_law_pair_grains" "_law_pair_grains" "_law_pair_grains" s_law_pair_grains ["_law_sorts_here", "_law_pair"])
    (D_law_grains : Df P w K mg base 2 "_law_grains" ["_law_width", "_law_other"] (sp_law_grains K)) : Df P w K mg base 3 "_law_pair_grains" ["_law_sorts_here", "_law_pair"] (sp_law_pair_grains K) := by
  exact df_mk F sc_law_pair_grains (fun _ => rfl) fun f cdv A' outer s H E hr => ⟨_, (pss_one (ps_ret (pe_callD D_law_grains hr (by decide) (by rfl) (pa_cons (pe_ix ix_tup (pe_ix ix_tup (pv 0) (pe_ix ix_tup (pv 1) pe_int (fun _ _ => rfl)) (fun _ _ => rfl)) pe_int (fun _ _ => rfl)) (pa_cons (pe_ix ix_tup (pe_ix ix_tup (pv 0) (pe_ix ix_tup (pv 1) pe_int (fun _ _ => rfl)) (fun _ _ => rfl)) pe_int (fun _ _ => rfl)) pa_nil))))), fun M a h => by
    obtain ⟨ss, i, j⟩ := a
    obtain ⟨⟨x, y, h1, h2, _, h3⟩, h4⟩ := h
    have sx := h4 x (List.mem_of_getElem? h1)
    have sy := h4 y (List.mem_of_getElem? h2)
    have e : gr (ssAt ss i) (ssAt ss j) = pog x.1 y.1 := by rw [ssAt_of h1, ssAt_of h2]; rfl
    refine sx_retV (x := iD (gr (ssAt ss i) (ssAt ss j))) ?_ rfl
    rw [e]
    exact ex_call (xs := [iD x.1, iD y.1]) (evs_cons (ev_ix0 (ev_ixM (f := eFr) (x := x) (n := i) (by walk_at "ev") (by walk_at "ev") h1)) (evs_cons (ev_ix0 (ev_ixM (f := eFr) (x := y) (n := j) (by walk_at "ev") (by walk_at "ev") h2)) evs_nil)) (so_law_grains sx.1 sx.2.1 sy.1 sy.2.1 h3)⟩
theorem ssAt_get {ss : List Fr} {i : Nat} (h : i < ss.length) : ss[i]? = some (ssAt ss i) := by
  rw [List.getElem?_eq_getElem h]
  unfold ssAt
  rw [List.getD_eq_getElem?_getD, List.getElem?_eq_getElem h]; rfl
structure PairsOk (ss : List Fr) (js : List Jn) : Prop where
  ok : ∀ j ∈ js, JoinOk ss j
  asc : js.Pairwise ltJ
  len : js.length ≤ 16
  ne : (∃ s ∈ ss, 0 < s.1) → js ≠ []
def sp_law_pairs (K : PySem.W.Frag) : Sp := spX K (A := List Fr) (fun a => [.p (.tup (a.map eFr))]) (fun a => a.length ≤ 4) (fun a x => ∃ js, x = .f (js.map eJ) ∧ PairsOk a js)
theorem so_law_pairs {M : PM} {ss : List Fr} (h : ss.length ≤ 4) : SpOk K M (sp_law_pairs K) [.p (.tup (ss.map eFr))] (fun x => ∃ js, x = .f (js.map eJ) ∧ PairsOk ss js) := spX_ok ss h
theorem wx_rng1V {M : PM} {ρ : Ev0} {te : TE} {n : Nat} (h : EV K M te ρ (iD (n : Int))) (hn : n ≤ 100000) : IX K M (iRng1 (tCons te tNil)) ρ (fun ds => ds = (List.range n).map eN) noSide :=
  (wx_rng1 (P := fun z => z = (n : Int)) (h.mono fun x e => ⟨_, e, rfl⟩) (fun z e => by omega)).mono fun ds ⟨z, e, ed⟩ => by
    subst e
    rw [ed]
    show (List.range (n : Int).toNat).map _ = _
    rw [Int.toNat_natCast]
    refine List.map_congr_left fun k _ => ?_
    show TD.int (0 + (k : Int)) = TD.int (k : Int)
    rw [Int.zero_add]
theorem wx_rng2V {M : PM} {ρ : Ev0} {ta te : TE} {m n : Nat} (ha : EV K M ta ρ (iD (m : Int))) (h : EV K M te ρ (iD (n : Int))) (hm : m ≤ n) (hn : n ≤ 100000) : IX K M (iRng2 (tCons ta (tCons te tNil))) ρ (fun ds => ds = (List.range (n - m)).map fun k => eN (m + k)) noSide :=
  (wx_rng2 (P1 := fun z => z = (m : Int)) (P2 := fun z => z = (n : Int)) (ha.mono fun x e => ⟨_, e, rfl⟩) (h.mono fun x e => ⟨_, e, rfl⟩) (fun z e => by omega) (fun z e => by omega)).mono fun ds ⟨z, y, e, e2, ed⟩ => by
    subst e e2
    rw [ed]
    show (List.range ((n : Int) - (m : Int)).toNat).map _ = _
    rw [show ((n : Int) - (m : Int)).toNat = n - m by omega]
    rfl
theorem range_get {n i x : Nat} (h : (List.range n)[i]? = some x) : x = i ∧ i < n := by
  have hi := (List.getElem?_eq_some_iff.mp h).1
  rw [List.length_range] at hi
  rw [List.getElem?_range hi] at h
  exact ⟨(Option.some.inj h).symm, hi⟩
theorem ok_law_pairs (G : Gp K mg) (F : Fu K mg "_law_pairs" "_law_pairs" "_law_pairs" s_law_pairs ["_law_sorts_here"]) : Df P w K mg base 1 "_law_pairs" ["_law_sorts_here"] (sp_law_pairs K) := by
  exact df_mk F sc_law_pairs (fun _ => rfl) fun f cdv A' outer s H E hr => ⟨_, (pss_cons (ps_set (i := 1) sc_law_pairs.nd rfl (Or.inl rfl) (pe_lst pa_nil))
  (pss_cons (ps_for PassesOwn.never rfl (pi_range1 (by rfl) G.n_range (pa_cons (pe_callB call_len_seq (by rfl) G.n_len bb_len (pa_cons (pv 0) pa_nil)) pa_nil)) (pg_name (i := 2) sc_law_pairs.nd rfl (Or.inl rfl))
   (pss_one (ps_for PassesOwn.never rfl (pi_range2 (by rfl) G.n_range (pa_cons (pv 2) (pa_cons (pe_callB call_len_seq (by rfl) G.n_len bb_len (pa_cons (pv 0) pa_nil)) pa_nil))) (pg_name (i := 3) sc_law_pairs.nd rfl (Or.inl rfl))
   (pss_one (ps_if (PW.pt (pw_or (pt_cmpR op_gt (pe_ix ix_tup (pe_ix ix_tup (pv 0) (pv 2) (fun _ _ => rfl)) pe_int (fun _ _ => rfl)) pe_int (nomark _)) (pw_or1 (pt_cmpR op_gt (pe_ix ix_tup (pe_ix ix_tup (pv 0) (pv 3) (fun _ _ => rfl)) pe_int (fun _ _ => rfl)) pe_int (nomark _)))))
   (pss_one (ps_expr (pe_bm PySem.F.plainAttrs_list PySem.F.slot_list_append PySem.F.type_list_append mt_append (pv 1) (pa_cons (pe_tup (pa_cons (pv 2) (pa_cons (pv 3) pa_nil))) pa_nil))))
   pss_nil)))))
  (pss_one (ps_ret (pv 1))))), fun M a h => by
    have h : a.length ≤ 4 := h
    refine sx_seq (sx_setf (ev_lst evt_nil) fun q => ?_)
    refine sx_seq (sx_for (wx_rng1V (n := a.length) ((ev_lenT (ds := a.map eFr) (by walk_at "ev")).to (by rw [List.length_map])) (by omega)) (fun i ρ' => ∃ (js : List Jn) (z1 z2 : Option Dt), ρ' = [some (.p (.tup (a.map eFr))), some (.m q (js.map eJ)), z1, z2] ∧ (∀ j ∈ js, JoinOk a j ∧ j.1 < i) ∧ js.Pairwise ltJ ∧ js.length ≤ 4 * i ∧ (∀ (x : Nat) (s : Fr), x < i → a[x]? = some s → 0 < s.1 → js ≠ [])) ⟨[], none, none, rfl, (fun j hj => nomatch hj), .nil, by simp, (by intro x s hx; omega)⟩ (fun _ _ _ => trivial) (fun i d ρ' hd ⟨js, z1, z2, e, p1, p2, p3, p4⟩ => ?_) fun ρ' ⟨js, z1, z2, e, p1, p2, p3, p4⟩ => ?_)
    · obtain ⟨i', hi', ed, _⟩ := map_get hd
      obtain ⟨ei, hi⟩ := range_get hi'
      subst e ed ei
      refine gx_name (sx_for (wx_rng2V (m := i') (n := a.length) (by walk_at "ev") ((ev_lenT (ds := a.map eFr) (by walk_at "ev")).to (by rw [List.length_map])) (by omega) (by omega)) (fun i2 ρ' => ∃ (js : List Jn) (z2 : Option Dt), ρ' = [some (.p (.tup (a.map eFr))), some (.m q (js.map eJ)), some (.p (eN i')), z2] ∧ (∀ j ∈ js, JoinOk a j ∧ (j.1 < i' ∨ (j.1 = i' ∧ j.2 < i' + i2))) ∧ js.Pairwise ltJ ∧ js.length ≤ 4 * i' + i2 ∧ (∀ (x : Nat) (s : Fr), (x < i' ∨ (x = i' ∧ 0 < i2)) → a[x]? = some s → 0 < s.1 → js ≠ [])) ⟨js, z2, rfl, fun j hj => ⟨(p1 j hj).1, .inl (p1 j hj).2⟩, p2, by omega, fun x s hx => p4 x s (by omega)⟩ (fun _ _ _ => trivial) (fun i2 d ρ' hd ⟨js, z2, e, p1, p2, p3, p4⟩ => ?_) fun ρ' ⟨js, z2, e, p1, p2, p3, p4⟩ => ?_)
      · obtain ⟨k, hk, ed, _⟩ := map_get (f := fun k => eN (i' + k)) hd
        obtain ⟨ek, hk2⟩ := range_get hk
        subst e ed ek
        have g1 := ssAt_get (ss := a) (i := i') (by omega)
        have g2 := ssAt_get (ss := a) (i := i' + k) (by omega)
        refine gx_name (sx_ifB (b := decide ((ssAt a i').1 > 0) || decide ((ssAt a (i' + k)).1 > 0)) (et_or (et_test (ev_IB (a := (ssAt a i').1) (b := 0) (ev_ix0 (ev_ixM (f := eFr) (n := i') (by walk_at "ev") (by walk_at "ev") g1)) ev_int)) fun _ => (et_test (ev_IB (a := (ssAt a (i' + k)).1) (b := 0) (ev_ix0 (ev_ixM (f := eFr) (n := i' + k) (by walk_at "ev") (by walk_at "ev") g2)) ev_int))) (fun hb => ?_) fun hb => ?_)
        · have hb' : (ssAt a i').1 > 0 ∨ (ssAt a (i' + k)).1 > 0 := by simpa using hb
          refine sx_append (a := q) (ds := js.map eJ) (d := eJ (i', i' + k)) rfl (ev_tup (by walk_at "ev")) (by rw [List.length_map]; omega) ⟨js ++ [(i', i' + k)], _, by rw [List.map_append]; rfl, fun j hj => ?_, ?_, ?_, ?_⟩
          · rcases List.mem_append.mp hj with q | q
            · obtain ⟨q1, q2⟩ := p1 j q
              exact ⟨q1, by omega⟩
            · rw [List.mem_singleton.mp q]
              exact ⟨⟨_, _, g1, g2, by omega, hb'⟩, .inr ⟨rfl, by show i' + k < i' + (k + 1); omega⟩⟩
          · refine List.pairwise_append.mpr ⟨p2, List.pairwise_singleton .., fun x hx y hy => ?_⟩
            rw [List.mem_singleton.mp hy]
            obtain ⟨_, q2⟩ := p1 x hx
            show x.1 < i' ∨ (x.1 = i' ∧ x.2 < i' + k)
            exact q2
          · rw [List.length_append, List.length_singleton]; omega
          · intro _ _ _ _ _; simp
        · have hb' : ¬ ((ssAt a i').1 > 0 ∨ (ssAt a (i' + k)).1 > 0) := by simpa using hb
          refine sx_next ⟨js, _, rfl, fun j hj => ⟨(p1 j hj).1, by have := (p1 j hj).2; omega⟩, p2, by omega, fun x s hx hs hp => ?_⟩
          by_cases hx2 : x = i'
          · subst hx2
            rw [g1] at hs
            cases hs
            omega
          · exact p4 x s (by omega) hs hp
      · subst e
        rw [List.length_map, List.length_range] at p1 p3 p4
        exact ⟨js, _, _, rfl, fun j hj => ⟨(p1 j hj).1, by have := (p1 j hj).2; omega⟩, p2, by omega, fun x s hx => p4 x s (by omega)⟩
    · subst e
      rw [List.length_map, List.length_range] at p1 p3 p4
      exact sx_retM rfl ⟨js, rfl, fun j hj => (p1 j hj).1, p2, by omega, fun ⟨s, hs, hp⟩ => by
        obtain ⟨x, hx⟩ := List.mem_iff_getElem?.mp hs
        exact p4 x s (List.getElem?_eq_some_iff.mp hx).1 hx hp⟩⟩
def sp_law_widths (K : PySem.W.Frag) : Sp := spX K (A := List Fr × List Nat) (fun a => [.p (.tup (a.1.map eFr)), .p (eNs a.2)]) (fun a => a.2.length ≤ 1000 ∧ ∀ v ∈ a.2, v < a.1.length) (fun a x => x = .p (.tup ((a.2.map fun v => (ssAt a.1 v).1).map .int)))
theorem so_law_widths {M : PM} {ss : List Fr} {vs : List Nat} (h : vs.length ≤ 1000) (h2 : ∀ v ∈ vs, v < ss.length) : SpOk K M (sp_law_widths K) [.p (.tup (ss.map eFr)), .p (eNs vs)] (fun x => x = .p (.tup ((vs.map fun v => (ssAt ss v).1).map .int))) := spX_ok (ss, vs) ⟨h, h2⟩
theorem ok_law_widths (G : Gp K mg) (F : Fu K mg "_law_widths" "_law_widths" "_law_widths" s_law_widths ["_law_sorts_here", "_law_vessels"]) : Df P w K mg base 1 "_law_widths" ["_law_sorts_here", "_law_vessels"] (sp_law_widths K) := by
  exact df_mk F sc_law_widths (fun _ => rfl) fun f cdv A' outer s H E hr => ⟨_, (pss_one (ps_ret (pe_callTy call_tuple_of (by rfl) G.n_tuple bb_tuple (pa_cons (pe_lc (own := [("_law_sort", 2)]) rfl sc_law_widths.nd (pi_tup (pv 1)) (blkOk_by (own := [("_law_sort", 2)]) (N := n_law_widths) (sc := defScope s_law_widths) (by decide +kernel)) (fun _ _ _ _ _ => (pg_name (i := 2) sc_law_widths.nd rfl (Or.inl rfl))) (fun _ _ _ _ _ => pts_nil) (fun _ _ _ _ _ => (pe_ix (ix_tupK K) (pe_ix (ix_tupK K) (pv 0) (pv 2) (fun _ _ => rfl)) pe_int (fun _ _ => rfl)))) pa_nil)))), fun M a h => by
    obtain ⟨ss, vs⟩ := a
    obtain ⟨h1, h2⟩ := h
    refine sx_retV (ev_tupF (ev_lcMap (xs := vs) (enc := eN) (h := fun v => .int (ssAt ss v).1) (wx_tupV (ds := vs.map eN) (by walk_at "ev")) trivial h1 fun v hv => ev_ix0 (ev_ixM (f := eFr) (x := ssAt ss v) (n := v) (by walk_at "ev") (by walk_at "ev") (ssAt_get (h2 v hv))))) ?_
    show _ = Dt.p (.tup ((vs.map fun v => (ssAt ss v).1).map .int))
    rw [List.map_map]; rfl⟩
end
end K37
end
section
set_option Elab.async false
set_option linter.all false
set_option maxRecDepth 100000
set_option maxHeartbeats 4000000
namespace K37
open PySem PySem.Spec PyProof.Rows L2
local macro_rules | `(tactic| walk_at "ev") => `(tactic| (repeat' (first
  | exact ev_p rfl | exact ev_m rfl | exact ev_l rfl | exact ev_o rfl | exact ev_pool rfl | exact ev_int | exact ev_bl | exact ev_non | exact evs_nil | exact evt_nil
  | apply evs_cons | apply evt_cons | apply ev_ix0 | apply ev_ix1 | apply ev_ix2
  | apply ev_I0 | apply ev_IB | apply ev_eqI | apply ev_neI | apply ev_neg | apply ev_abs
  | apply ev_lenT | apply ev_lenL | apply ev_lenF | apply ev_isN | apply ev_notN | apply et_test | apply et_B | apply et_not
  | apply ev_isiI | apply ev_isiB | apply ev_isiT | apply ev_chainI | apply ev_not | apply ev_max2 | apply ev_min2 | apply ev_max3 | apply ev_int1 | apply ev_sorts | apply ev_kinds | apply ev_widths | apply ev_pipes)))
abbrev s_law_draw : Stmt := topS 86
abbrev n_law_draw : List Str := ["_law_pool_here", "_law_many", "_law_cells", "_law_digit", "_law_mixed_here"]
theorem sc_law_draw : FnScope n_law_draw ["_law_pool_here", "_law_many"] (defScope s_law_draw) := ⟨rfl, rfl, rfl, by decide +kernel, rfl, by decide +kernel, by decide +kernel⟩

abbrev s_law_some : Stmt := topS 87
abbrev n_law_some : List Str := ["_law_pool_here", "_law_things"]
theorem sc_law_some : FnScope n_law_some ["_law_pool_here", "_law_things"] (defScope s_law_some) := ⟨rfl, rfl, rfl, by decide +kernel, rfl, by decide +kernel, by decide +kernel⟩

abbrev s_law_mixed : Stmt := topS 88
abbrev n_law_mixed : List Str := ["_law_pool_here", "_law_things", "_law_left", "_law_found", "_law_k"]
theorem sc_law_mixed : FnScope n_law_mixed ["_law_pool_here", "_law_things"] (defScope s_law_mixed) := ⟨rfl, rfl, rfl, by decide +kernel, rfl, by decide +kernel, by decide +kernel⟩

section
variable {P : Program} {w : World} {K : PySem.W.Frag} {mg : Str → Option Value} {base : Heap}
theorem df_mkP {x nm qual : Str} {st : Stmt} {N ps : List Str} {k : Nat} {A : Type} {args : A → List Dt} {pre : A → Prop} {c : Nat} {res : A → Dt → Prop} (F : Fu K mg x nm qual st ps) (S : FnScope N ps (defScope st)) (hl : ∀ a : A, (args a).length = ps.length)
    (body : ∀ (f : Addr) (cdv : Value) (A' : Around) (outer : List Env) (s : Shared) (H : Hp) (E : XK), Room k (A'.deeper (envOfC qual (defScope st) s.heap.objs.size f cdv)) →
      ∃ t, PSs (cxOf CX0 P w K mg base N qual (defScope st) f cdv A' outer s H E).nox (defBody st) t ∧ ∀ (m : Option (Addr × Addr)) (n : Nat) (a : A), n + c ≤ LIM → pre a → SXp K m t (slots N (args a)) n (fun o n' => fin (res a) o ∧ n' ≤ n + c)) : Df P w K mg base (k + 1) x ps (spP K args pre c res) := by
  obtain ⟨f, fd, F1, hm, hb⟩ := F.ex
  refine ⟨f, fd, F1.ok S (fun vs H Q E h => ?_) (fun cdv A' outer s H vs Q E hr h => ?_), hm, F1.kp, hb⟩
  · obtain ⟨a, m, n, _, _, r, _⟩ := h
    rw [r.length, hl]
  · obtain ⟨t, ht, hx⟩ := body f cdv A' outer s H E hr
    obtain ⟨a, m, n, hc, hp, r, hpre, q⟩ := h
    refine ⟨t, ht, hx m n a hc hpre H (fun _ => none) H _ (en_start hp r) _ fun o n' po => ?_⟩
    cases o with
    | nx ρ' => exact fun σ' H' I' => q .non H' nD n' po.2 po.1 I'.kB I'.pool Tp.non
    | rt x => exact fun v H' e hp' rv => q v H' x n' po.2 po.1 e hp' rv
    | bk _ => exact po.1.elim
    | ct _ => exact po.1.elim
theorem ex_I {M : PM} {ρ : Ev0} {ta tb : TE} {C : Int → Int → Prop} {g : Int → Int → Int} {P1 P2 P : Int → Prop} (ha : EX K M ta ρ (fun x => ∃ i, x = iD i ∧ P1 i)) (hb : EX K M tb ρ (fun x => ∃ i, x = iD i ∧ P2 i)) (h : ∀ a b, P1 a → P2 b → C a b ∧ P (g a b)) :
    EX K M (tOp (rI C fun i j => .int (g i j)) ta tb) ρ (fun x => ∃ i, x = iD i ∧ P i) :=
  ex_opP (P1 := fun d => ∃ i, d = .int i ∧ P1 i) (P2 := fun d => ∃ i, d = .int i ∧ P2 i) (ha.mono fun x ⟨i, e, p⟩ => ⟨.int i, e, i, rfl, p⟩) (hb.mono fun x ⟨i, e, p⟩ => ⟨.int i, e, i, rfl, p⟩)
    fun a b H v u ⟨i, e1, p1⟩ ⟨j, e2, p2⟩ hp h1 h2 Q q => by
      subst e1 e2
      exact ⟨i, j, h1.int_inv, h2.int_inv, (h i j p1 p2).1, q _ H _ ⟨_, rfl, (h i j p1 p2).2⟩ (Le.refl H) hp (Tp.int _)⟩
theorem ex_int1 {M : PM} {ρ : Ev0} {ta : TE} {P : Int → Prop} (ha : EX K M ta ρ (fun x => ∃ i, x = iD i ∧ P i)) : EX K M (tCB rInt1 (tCons ta tNil)) ρ (fun x => ∃ i, x = iD i ∧ P i) := fun B G H σ I Q q =>
  ha B G H σ I _ fun v H1 x ⟨i, ex, p⟩ e1 hp1 r1 => by
    subst ex
    exact .inl ⟨i, by rw [Tp.int_inv r1], q _ H1 _ ⟨i, rfl, p⟩ e1 hp1 (Tp.int _)⟩
theorem ex_i {M : PM} {ρ : Ev0} {te : TE} {i : Int} {P : Int → Prop} (h : EV K M te ρ (iD i)) (p : P i) : EX K M te ρ (fun x => ∃ i, x = iD i ∧ P i) := h.mono fun x e => ⟨i, e, p⟩
theorem ev_poolIx0 {m : Option (Addr × Addr)} {n : Nat} {ρ : Ev0} {i : Nat} (h : ρ[i]? = some (some .pool)) : EX K (m, n) (tOp (rIxL K) (tVar i) (tC (.int 0))) ρ (fun x => ∃ s, x = iD s ∧ (0 ≤ s ∧ s < 2147483647)) := fun B G H σ I Q q => by
  obtain ⟨v0, hv0, p, c, em, e0⟩ := I.sl i .pool h
  subst e0
  obtain ⟨hne, ⟨sd, ct, hp, s1, s2, c1, c2⟩, cs, hcs⟩ := I.pool p c em
  exact ⟨_, hv0, p, _, 0, _, rfl, rfl, SqL.of hp, rfl, q _ H _ ⟨sd, rfl, s1, s2⟩ (Le.refl H) I.pool (Tp.int _)⟩
theorem ev_poolIx1 {m : Option (Addr × Addr)} {n : Nat} {ρ : Ev0} {i : Nat} (h : ρ[i]? = some (some .pool)) : EX K (m, n) (tOp (rIxL K) (tVar i) (tC (.int 1))) ρ (fun x => ∃ t, x = iD t ∧ (0 ≤ t ∧ t ≤ (n : Int))) := fun B G H σ I Q q => by
  obtain ⟨v0, hv0, p, c, em, e0⟩ := I.sl i .pool h
  subst e0
  obtain ⟨hne, ⟨sd, ct, hp, s1, s2, c1, c2⟩, cs, hcs⟩ := I.pool p c em
  exact ⟨_, hv0, p, _, 1, _, rfl, rfl, SqL.of hp, rfl, q _ H _ ⟨ct, rfl, c1, c2⟩ (Le.refl H) I.pool (Tp.int _)⟩
theorem En.poolUpd {m : Option (Addr × Addr)} {n n' : Nat} {B G H : Hp} {σ : L2.St} {ρ : Ev0} {a : Addr} {ys : List V} {o : HO} (I : En K (m, n) B G H σ ρ) (ma : MA (m, n) a) (h : H a = some (.lst ys)) (hp : Pool (m, n') (upd H a o)) : En K (m, n') B G (upd H a o) σ ρ := by
  have hne : ∀ b, ¬ MA (m, n) b → b ≠ a := fun b nb e => nb (e ▸ ma)
  refine ⟨I.len, hp, fun b u hb nb => ?_, fun b u hb => ?_, fun i x hx => ?_, I.ds⟩
  · rw [upd_ne (hne b nb)]
    exact I.kB b u hb nb
  · obtain ⟨h1, h2⟩ := I.kG b u hb
    rw [upd_ne (hne b h2)]
    exact ⟨h1, h2⟩
  · obtain ⟨v, hv, sv⟩ := I.sl i x hx
    refine ⟨v, hv, ?_⟩
    cases x with
    | p d => exact Tp.mut h (show Tp K H v d from sv)
    | l ds =>
      obtain ⟨q, vs, h1, h2, h3, h4⟩ := sv
      exact ⟨q, vs, h1, h2, h3.mut h, h4⟩
    | f ds => exact sv.elim
    | m q ds =>
      obtain ⟨vs, h1, h2, h3, h4, h5, h6⟩ := sv
      exact ⟨vs, h1, by rw [upd_ne (hne q h6)]; exact h2, h3.mut h, h4, h5, h6⟩
    | o fs => exact Ob.mut h (show Ob K H v fs from sv)
    | pool => exact sv
    | fix u => exact sv
theorem sxp_poolInc {m : Option (Addr × Addr)} {n : Nat} {ρ : Ev0} {i : Nat} {Po : Res → Nat → Prop} (h : ρ[i]? = some (some .pool)) (k : Po (.nx ρ) (n + 1)) : SXp K m (tAsg (tOp (rI0 fun i j => .int (i + j)) (tOp (rIxL K) (tVar i) (tC (.int 1))) (tC (.int 1))) (gSub (tVar i) (tC (.int 1)) rSetL)) ρ n Po := fun B G H σ I D q => by
  obtain ⟨v0, hv0, p, c, em, e0⟩ := I.sl i .pool h
  subst e0
  obtain ⟨hne, ⟨sd, ct, hp, s1, s2, c1, c2⟩, cs, hcs⟩ := I.pool p c em
  have c2 : ct ≤ (n : Int) := c2
  refine ⟨_, hv0, p, _, 1, _, rfl, rfl, SqL.of hp, rfl, _, _, rfl, rfl, _, hv0, p, _, 1, 1, rfl, rfl, hp, rfl, ?_⟩
  refine q _ _ k σ _ (I.poolUpd ⟨p, c, em, .inl rfl⟩ hp fun p' c' e' => ?_)
  have e2 : p' = p ∧ c' = c := by
    have := em.symm.trans e'
    injection this with z
    injection z with z1 z2
    exact ⟨z1.symm, z2.symm⟩
  obtain ⟨e3, e4⟩ := e2
  subst e3 e4
  exact ⟨hne, ⟨sd, ct + 1, upd_same, s1, s2, by omega, show ct + 1 ≤ ((n + 1 : Nat) : Int) by omega⟩, cs, by rw [upd_ne (Ne.symm hne)]; exact hcs⟩
def sp_law_draw (K : PySem.W.Frag) : Sp := spP K (A := Nat) (fun a => [.pool, iD (a : Int)]) (fun a => 0 < a ∧ a ≤ 1000000) 1 (fun a x => ∃ d : Nat, x = iD (d : Int) ∧ d < a)
theorem exp_draw {m : Option (Addr × Addr)} {n : Nat} {ρ : Ev0} {tr : TA} {E : XK} {a : Nat} (h : EVs K (m, n) tr ρ [.pool, iD (a : Int)]) (h1 : 0 < a) (h2 : a ≤ 1000000) (hc : n + 1 ≤ LIM) : EXp K m (tCall (sp_law_draw K) [] E tr) ρ n (fun x n' => ∃ i, x = iD i ∧ (0 ≤ i ∧ i < (a : Int) ∧ n' ≤ n + 1)) :=
  (exp_call a h ⟨h1, h2⟩ hc).mono fun x n' ⟨⟨d, e, hd⟩, hn⟩ => ⟨_, e, by omega, by omega, hn⟩
theorem ok_law_draw (G : Gp K mg) (F : Fu K mg "_law_draw" "_law_draw" "_law_draw" s_law_draw ["_law_pool_here", "_law_many"]) : Df P w K mg base 1 "_law_draw" ["_law_pool_here", "_law_many"] (sp_law_draw K) := by
  exact df_mkP F sc_law_draw (fun _ => rfl) fun f cdv A' outer s H E hr => ⟨_, (pss_cons (ps_set (i := 2) sc_law_draw.nd rfl (Or.inl rfl) (pe_ix ix_list (pv 0) pe_int (fun _ _ => rfl)))
  (pss_cons (ps_if (pt_cmpR op_gt (pe_callB call_len_seq (by rfl) G.n_len bb_len (pa_cons (pv 2) pa_nil)) pe_int (nomark _))
   (pss_cons (ps_set (i := 3) sc_law_draw.nd rfl (Or.inl rfl) (pe_op op_mod (pe_callTy call_int1 (by rfl) G.n_int bb_int (pa_cons (pe_ix ix_list (pv 2) pe_int (fun _ _ => rfl)) pa_nil)) (pv 1)))
  (pss_cons (ps_asg (pe_op op_fdivW (pe_callTy call_int1 (by rfl) G.n_int bb_int (pa_cons (pe_ix ix_list (pv 2) pe_int (fun _ _ => rfl)) pa_nil)) (pv 1)) (pg_sub (pv 2) pe_int set_list))
  (pss_cons (ps_if (pt_cmpR op_eq (pe_ix ix_list (pv 2) pe_int (fun _ _ => rfl)) pe_int (nomark _))
   (pss_one (ps_expr (pe_bm PySem.F.plainAttrs_list PySem.F.slot_list_pop PySem.F.type_list_pop mt_popAt (pv 2) (pa_cons pe_int pa_nil))))
   pss_nil)
  (pss_one (ps_ret (pv 3))))))
   pss_nil)
  (pss_cons (ps_asg (pe_op op_add (pe_ix ix_list (pv 0) pe_int (fun _ _ => rfl)) pe_int) (pg_sub (pv 0) pe_int set_list))
  (pss_cons (ps_set (i := 4) sc_law_draw.nd rfl (Or.inl rfl) (pe_op op_mod (pe_callTy call_int1 (by rfl) G.n_int bb_int (pa_cons (pe_op op_mulW (pe_op op_add (pe_ix ix_list (pv 0) pe_int (fun _ _ => rfl)) (pe_op op_mulW pe_int (pe_ix ix_list (pv 0) pe_int (fun _ _ => rfl)))) pe_int) pa_nil)) pe_int))
  (pss_cons (ps_set (i := 4) sc_law_draw.nd rfl (Or.inl rfl) (pe_op op_mod (pe_callTy call_int1 (by rfl) G.n_int bb_int (pa_cons (pe_op op_mulW (pv 4) (pe_op op_add (pe_op op_fdivW (pv 4) pe_int) pe_int)) pa_nil)) pe_int))
  (pss_cons (ps_set (i := 4) sc_law_draw.nd rfl (Or.inl rfl) (pe_op op_mod (pe_callTy call_int1 (by rfl) G.n_int bb_int (pa_cons (pe_op op_mulW (pv 4) (pe_op op_add (pe_op op_fdivW (pv 4) pe_int) pe_int)) pa_nil)) pe_int))
  (pss_one (ps_ret (pe_op op_mod (pe_callTy call_int1 (by rfl) G.n_int bb_int (pa_cons (pe_op op_fdivW (pv 4) pe_int) pa_nil)) (pv 1)))))))))), fun m n a hc h => by
    obtain ⟨ha, ha2⟩ := h
    intro B G0 H0 σ I D q
    obtain ⟨v0, hv0, p, c, em, e0⟩ := I.sl 0 .pool rfl
    obtain ⟨v1, hv1, t1⟩ := I.sl 1 (iD (a : Int)) rfl
    have e1 := Tp.int_inv t1
    subst e0 e1
    obtain ⟨hne, ⟨sd, ct, hp, s1, s2, c1, c2⟩, cs, hcs⟩ := I.pool p c em
    have mp : MA (m, n) p := ⟨p, c, em, .inl rfl⟩
    have mc : MA (m, n) c := ⟨p, c, em, .inr rfl⟩
    refine ⟨_, hv0, p, _, 2, _, rfl, rfl, SqL.of hp, rfl, ?_⟩
    have I1 := I.forget (i := 2) (v := .ref c)
    have hσ2 : (σ.set 2 (some (V.ref c)))[2]? = some (some (.ref c)) := by
      rw [List.getElem?_set_self (by rw [I.len]; show 2 < 5; decide)]
    have hσ1 : (σ.set 2 (some (V.ref c)))[1]? = some (some (.int (a : Int))) := by
      rw [List.getElem?_set_ne (by decide)]; exact hv1
    refine ⟨_, hσ2, c, cs.map V.int, rfl, .inl (SqL.of hcs), _, _, rfl, rfl, _, rfl, ?_⟩
    cases cs with
    | nil =>
      rw [if_neg (by decide)]
      unfold tNext
      dsimp only
      refine (show SXp K m _ ((slots n_law_draw [.pool, iD (a : Int)]).set 2 none) n (fun o n' => fin (fun x => ∃ d : Nat, x = iD (d : Int) ∧ d < a) o ∧ n' ≤ n + 1) from ?_) B G0 H0 _ I1 D q
      refine sxp_seq (sxp_poolInc rfl ?_)
      have hc' : n + 1 ≤ 1000000 := hc
      have sm : ∀ x : Int, 0 ≤ x ∧ x < 2147483647 → Sm x := fun x hx => Nat.lt_of_lt_of_le (by omega : x.natAbs < 2147483648) (Nat.le_trans (by decide : 2147483648 ≤ 2 ^ 31) (Nat.pow_le_pow_right (by decide) (by decide)))
      have sm2 : ∀ x : Int, x.natAbs < 100000000000 → Sm x := fun x hx => Nat.lt_of_lt_of_le hx (Nat.le_trans (by decide : 100000000000 ≤ 2 ^ 40) (Nat.pow_le_pow_right (by decide) (by decide)))
      refine sxp_seqN (sx_setP (P := fun d => ∃ i, d = .int i ∧ (0 ≤ i ∧ i < 2147483647)) ((ex_I (P1 := fun _ => True) (P2 := fun i => i = 2147483647) (P := fun i => 0 ≤ i ∧ i < 2147483647) (ex_int1 (ex_I (P1 := fun i => i.natAbs < 100000000000) (P2 := fun i => i = 48271) (ex_I0 (P1 := fun i => 0 ≤ i ∧ i < 2147483647) (P2 := fun i => 0 ≤ i ∧ i < 10000000000) (ev_poolIx0 rfl) (ex_I (P1 := fun i => i = 7919) (P2 := fun i => 0 ≤ i ∧ i ≤ ((n + 1 : Nat) : Int)) (ex_i ev_int rfl) (ev_poolIx1 rfl) (fun a b e hb => by subst e; exact ⟨Sm.mulOk (sm2 7919 (by decide)) (sm2 b (by omega)), by show 0 ≤ 7919 * b ∧ 7919 * b < 10000000000; omega⟩)) (fun a b ha hb => by show (a + b).natAbs < 100000000000; omega)) (ex_i ev_int rfl) (fun a b ha e => by subst e; exact ⟨Sm.mulOk (sm2 _ ha) (sm2 48271 (by decide)), trivial⟩))) (ex_i ev_int rfl) (fun a b _ e => by subst e; exact ⟨by decide, by (try dsimp only); omega⟩)).mono fun x ⟨i, e, p⟩ => ⟨_, e, i, rfl, p⟩) fun d ⟨i, ed, hi⟩ => ?_)
      subst ed
      refine sxp_seqN (sx_setP (P := fun d => ∃ i, d = .int i ∧ (0 ≤ i ∧ i < 2147483647)) ((ex_I (P1 := fun _ => True) (P2 := fun i => i = 2147483647) (P := fun i => 0 ≤ i ∧ i < 2147483647) (ex_int1 (ex_I (P1 := fun j => j = i) (P2 := fun j => j.natAbs < 100000000000) (ex_i (ev_p rfl) rfl) (ex_I0 (P1 := fun j => 0 ≤ j ∧ j ≤ i) (P2 := fun j => j = 69621) (ex_I (P1 := fun j => j = i) (P2 := fun j => j = 1009) (ex_i (ev_p rfl) rfl) (ex_i ev_int rfl) (fun a b e1 e2 => by subst e1 e2; exact ⟨Bg.divOk (by decide) (sm2 1009 (by decide)).bg, by (try dsimp only); omega⟩)) (ex_i ev_int rfl) (fun a b ha hb => by (try dsimp only); omega)) (fun a b e hb => ⟨Sm.mulOk (sm _ (by omega)) (sm2 _ hb), trivial⟩))) (ex_i ev_int rfl) (fun a b _ e => by subst e; exact ⟨by decide, by (try dsimp only); omega⟩)).mono fun x ⟨i, e, p⟩ => ⟨_, e, i, rfl, p⟩) fun d ⟨i2, ed, hi2⟩ => ?_)
      subst ed
      refine sxp_seqN (sx_setP (P := fun d => ∃ i, d = .int i ∧ (0 ≤ i ∧ i < 2147483647)) ((ex_I (P1 := fun _ => True) (P2 := fun i => i = 2147483399) (P := fun i => 0 ≤ i ∧ i < 2147483647) (ex_int1 (ex_I (P1 := fun j => j = i2) (P2 := fun j => j.natAbs < 100000000000) (ex_i (ev_p rfl) rfl) (ex_I0 (P1 := fun j => 0 ≤ j ∧ j ≤ i2) (P2 := fun j => j = 40692) (ex_I (P1 := fun j => j = i2) (P2 := fun j => j = 2003) (ex_i (ev_p rfl) rfl) (ex_i ev_int rfl) (fun a b e1 e2 => by subst e1 e2; exact ⟨Bg.divOk (by decide) (sm2 2003 (by decide)).bg, by (try dsimp only); omega⟩)) (ex_i ev_int rfl) (fun a b ha hb => by (try dsimp only); omega)) (fun a b e hb => ⟨Sm.mulOk (sm _ (by omega)) (sm2 _ hb), trivial⟩))) (ex_i ev_int rfl) (fun a b _ e => by subst e; exact ⟨by decide, by (try dsimp only); omega⟩)).mono fun x ⟨i, e, p⟩ => ⟨_, e, i, rfl, p⟩) fun d ⟨i3, ed, hi3⟩ => ?_)
      subst ed
      refine sxp_of (sx_ret (ex_I (P1 := fun _ => True) (P2 := fun i => i = (a : Int)) (P := fun i => 0 ≤ i ∧ i < (a : Int)) (ex_int1 (ex_I (P1 := fun j => True) (P2 := fun j => j = 16) (ex_i (ev_p rfl) trivial) (ex_i ev_int rfl) (fun a b _ e2 => ⟨by rw [e2]; exact Bg.divOk (by decide) (sm2 16 (by decide)).bg, trivial⟩))) (ex_i (ev_p rfl) rfl) (fun x b _ e => ⟨by omega, by rw [e]; exact ⟨Int.emod_nonneg _ (by omega), Int.emod_lt_of_pos _ (by omega)⟩⟩)) fun x ⟨i, e, p⟩ => ⟨⟨i.toNat, by rw [e, Int.toNat_of_nonneg p.1], by omega⟩, by omega⟩)
    | cons c0 cs =>
      rw [if_pos (by rw [List.length_map, List.length_cons]; exact decide_eq_true (by omega))]
      have hdiv : CDivW c0 (a : Int) := Bg.divOk (by omega) (Sm.of (by omega)).bg
      have hσ3 : ((σ.set 2 (some (V.ref c))).set 3 (some (.int (c0 % (a : Int)))))[2]? = some (some (.ref c)) := by
        rw [List.getElem?_set_ne (by decide)]; exact hσ2
      have hσ4 : ((σ.set 2 (some (V.ref c))).set 3 (some (.int (c0 % (a : Int)))))[1]? = some (some (.int (a : Int))) := by
        rw [List.getElem?_set_ne (by decide)]; exact hσ1
      have hσ5 : ((σ.set 2 (some (V.ref c))).set 3 (some (.int (c0 % (a : Int)))))[3]? = some (some (.int (c0 % (a : Int)))) := by
        rw [List.getElem?_set_self (by rw [List.length_set, I.len]; show 3 < 5; decide)]
      have hl : 0 < ((c0 :: cs).map V.int).length := by simp
      refine ⟨_, hσ2, c, (c0 :: cs).map V.int, 0, .int c0, rfl, rfl, SqL.of hcs, atI_of (j := 0) rfl rfl, .inl ⟨c0, rfl, _, hσ1, c0, (a : Int), rfl, rfl, by omega, ?_⟩⟩
      refine ⟨_, hσ3, c, (c0 :: cs).map V.int, 0, .int c0, rfl, rfl, SqL.of hcs, atI_of (j := 0) rfl rfl, .inl ⟨c0, rfl, _, hσ4, c0, (a : Int), rfl, rfl, hdiv, _, hσ3, c, (c0 :: cs).map V.int, 0, 0, rfl, rfl, hcs, ixN_nat (j := 0) hl, ?_⟩⟩
      have hpc : ∀ (H' : Hp) (cs' : List Int), H' p = some (.lst [.int sd, .int ct, .ref c]) → H' c = some (.lst (cs'.map V.int)) → Pool (m, n) H' := fun H' cs' k1 k2 p' c' e' => by
        have e2 : p' = p ∧ c' = c := by
          have := em.symm.trans e'
          injection this with z
          injection z with z1 z2
          exact ⟨z1.symm, z2.symm⟩
        obtain ⟨e3, e4⟩ := e2
        subst e3 e4
        exact ⟨hne, ⟨sd, ct, k1, s1, s2, c1, c2⟩, cs', k2⟩
      have hmod : 0 ≤ c0 % (a : Int) ∧ c0 % (a : Int) < (a : Int) := ⟨Int.emod_nonneg _ (by omega), Int.emod_lt_of_pos _ (by omega)⟩
      have eset : ((c0 :: cs).map V.int).set 0 (.int (c0 / (a : Int))) = ((c0 / (a : Int)) :: cs).map V.int := rfl
      rw [eset]
      have I2 := (I1.forget (i := 3) (v := .int (c0 % (a : Int)))).poolUpd mc hcs (hpc _ ((c0 / (a : Int)) :: cs) (by rw [upd_ne hne]; exact hp) upd_same)
      refine ⟨_, hσ3, c, ((c0 / (a : Int)) :: cs).map V.int, 0, .int (c0 / (a : Int)), rfl, rfl, SqL.of upd_same, atI_of (j := 0) rfl rfl, rfl, _, rfl, ?_⟩
      have fin1 : ∀ H3, En K (m, n) B G0 H3 ((σ.set 2 (some (V.ref c))).set 3 (some (.int (c0 % (a : Int))))) (((slots n_law_draw [.pool, iD (a : Int)]).set 2 none).set 3 none) → tRet (tVar 3) D ((σ.set 2 (some (V.ref c))).set 3 (some (.int (c0 % (a : Int))))) H3 := fun H3 I3 =>
        ⟨_, hσ5, q (.rt (iD (c0 % (a : Int)))) n ⟨⟨(c0 % (a : Int)).toNat, by rw [Int.toNat_of_nonneg hmod.1], by omega⟩, by omega⟩ _ H3 I3.kB I3.pool (Tp.int _)⟩
      cases hz : decide (V.int (c0 / (a : Int)) = V.int 0) with
      | false => exact fin1 _ I2
      | true =>
        have I3 := I2.poolUpd (n' := n) (o := .lst (cs.map V.int)) mc upd_same (hpc _ cs (by rw [upd_ne hne, upd_ne hne]; exact hp) upd_same)
        exact ⟨_, hσ3, .inl ⟨rfl, _, SqL.of upd_same⟩, c, ((c0 / (a : Int)) :: cs).map V.int, 0, 0, .int (c0 / (a : Int)), rfl, rfl, upd_same, by decide, by decide, (ixN_seq (ixN_nat (j := 0) (by simp))).1, rfl, fin1 _ I3⟩⟩
end
end K37
end
section
set_option Elab.async false
set_option linter.all false
set_option maxRecDepth 100000
set_option maxHeartbeats 4000000
namespace K37
open PySem PySem.Spec PyProof.Rows L2
theorem map_erase {α β : Type} (f : α → β) : ∀ (xs : List α) (i : Nat), (xs.map f).eraseIdx i = (xs.eraseIdx i).map f
  | [], _ => rfl
  | x :: xs, 0 => rfl
  | x :: xs, i + 1 => by
    show f x :: (xs.map f).eraseIdx i = f x :: (xs.eraseIdx i).map f
    rw [map_erase f xs i]
theorem erase_perm {α : Type} : ∀ {xs : List α} {i : Nat} {x : α}, xs[i]? = some x → (x :: xs.eraseIdx i).Perm xs
  | [], _, _, h => by simp at h
  | y :: xs, 0, x, h => by
    have : y = x := Option.some.inj h
    subst this
    exact .refl _
  | y :: xs, i + 1, x, h => by
    have h1 := erase_perm (xs := xs) (i := i) (x := x) (by simpa using h)
    exact (List.Perm.swap y x _).trans (h1.cons y)
/-- one goes from the right list to the left -/
theorem move_perm {α : Type} {fs ls ns : List α} {i : Nat} {x : α} (h : (fs ++ ls).Perm ns) (e : ls[i]? = some x) : ((fs ++ [x]) ++ ls.eraseIdx i).Perm ns := by
  rw [List.append_assoc]
  exact (List.Perm.append_left fs (erase_perm e)).trans h
theorem erase_len {α : Type} {ls : List α} {i : Nat} {x : α} (e : ls[i]? = some x) : (ls.eraseIdx i).length = ls.length - 1 := List.length_eraseIdx_of_lt (List.getElem?_eq_some_iff.mp e).1
theorem adj {α : Type} {R : α → α → Prop} : ∀ {xs : List α}, xs.Pairwise R → ∀ p ∈ xs.zip (xs.drop 1), R p.1 p.2
  | [], _, p, hp => by simp at hp
  | [x], _, p, hp => by simp at hp
  | x :: y :: t, h, p, hp => by
    rw [List.pairwise_cons] at h
    have hp : p ∈ (x, y) :: ((y :: t).zip ((y :: t).drop 1)) := hp
    rcases List.mem_cons.mp hp with e | e
    · rw [e]; exact h.1 y (List.mem_cons_self ..)
    · exact adj h.2 p e
/-- not below -/
def leF (a b : Fr) : Prop := a.1 * b.2 ≤ b.1 * a.2
theorem leF_iff {a b : Fr} : leF a b ↔ below b a = false := by
  unfold leF below
  rw [decide_eq_false_iff_not]
  omega
theorem leF_trans {a b c : Fr} (hb : 0 < b.2) (ha : 0 ≤ a.2) (hc : 0 ≤ c.2) (h1 : leF a b) (h2 : leF b c) : leF a c := by
  unfold leF at *
  have k1 := Int.mul_le_mul_of_nonneg_right h1 hc
  have k2 := Int.mul_le_mul_of_nonneg_right h2 ha
  have e1 : a.1 * b.2 * c.2 = a.1 * c.2 * b.2 := by rw [Int.mul_assoc, Int.mul_assoc, Int.mul_comm b.2 c.2]
  have e2 : b.1 * a.2 * c.2 = b.1 * c.2 * a.2 := by rw [Int.mul_assoc, Int.mul_assoc, Int.mul_comm a.2 c.2]
  have e3 : c.1 * b.2 * a.2 = c.1 * a.2 * b.2 := by rw [Int.mul_assoc, Int.mul_assoc, Int.mul_comm b.2 a.2]
  exact Int.le_of_mul_le_mul_right (by omega) hb
local macro_rules | `(tactic| walk_at "ev") => `(tactic| (repeat' (first
  | exact ev_p rfl | exact ev_m rfl | exact ev_l rfl | exact ev_o rfl | exact ev_pool rfl | exact ev_int | exact ev_bl | exact ev_non | exact evs_nil | exact evt_nil
  | apply evs_cons | apply evt_cons | apply ev_ix0 | apply ev_ix1 | apply ev_ix2
  | apply ev_I0 | apply ev_IB | apply ev_eqI | apply ev_neI | apply ev_neg | apply ev_abs
  | apply ev_lenT | apply ev_lenL | apply ev_lenF | apply ev_isN | apply ev_notN | apply et_test | apply et_B | apply et_not
  | apply ev_isiI | apply ev_isiB | apply ev_isiT | apply ev_chainI | apply ev_not | apply ev_max2 | apply ev_min2 | apply ev_max3 | apply ev_int1 | apply ev_sorts | apply ev_kinds | apply ev_widths | apply ev_pipes)))
abbrev s_law_ascending : Stmt := topS 97
abbrev n_law_ascending : List Str := ["_law_steps", "_law_left", "_law_found", "_law_least", "_law_step"]
theorem sc_law_ascending : FnScope n_law_ascending ["_law_steps"] (defScope s_law_ascending) := ⟨rfl, rfl, rfl, by decide +kernel, rfl, by decide +kernel, by decide +kernel⟩

section
variable {P : Program} {w : World} {K : PySem.W.Frag} {mg : Str → Option Value} {base : Heap}
def sp_law_some (K : PySem.W.Frag) : Sp := spP K (A := List TD) (fun a => [.pool, .l a]) (fun a => 0 < a.length ∧ a.length ≤ 1000) 1 (fun a x => ∃ d, x = .p d ∧ d ∈ a)
theorem exp_some {m : Option (Addr × Addr)} {n : Nat} {ρ : Ev0} {tr : TA} {E : XK} {a : List TD} (h : EVs K (m, n) tr ρ [.pool, .l a]) (h1 : 0 < a.length) (h2 : a.length ≤ 1000) (hc : n + 1 ≤ LIM) : EXp K m (tCall (sp_law_some K) [] E tr) ρ n (fun x n' => ∃ d, x = .p d ∧ (d ∈ a ∧ n' ≤ n + 1)) :=
  (exp_call a h ⟨h1, h2⟩ hc).mono fun x n' ⟨⟨d, e, hd⟩, hn⟩ => ⟨_, e, hd, hn⟩
theorem ok_law_some (G : Gp K mg) (F : Fu K mg "_law_some" "_law_some" "_law_some" s_law_some ["_law_pool_here", "_law_things"])
    (D_law_draw : Df P w K mg base 1 "_law_draw" ["_law_pool_here", "_law_many"] (sp_law_draw K)) : Df P w K mg base 2 "_law_some" ["_law_pool_here", "_law_things"] (sp_law_some K) := by
  exact df_mkP F sc_law_some (fun _ => rfl) fun f cdv A' outer s H E hr => ⟨_, (pss_one (ps_ret (pe_ix ix_list (pv 1) (pe_callD D_law_draw hr (by decide) (by rfl) (pa_cons (pv 0) (pa_cons (pe_callB call_len_seq (by rfl) G.n_len bb_len (pa_cons (pv 1) pa_nil)) pa_nil))) (fun _ _ => rfl)))), fun m n a hc h => by
    obtain ⟨h1, h2⟩ := h
    refine sxp_ret (exp_ixL (ds := a) (P := fun d n' => d ∈ a ∧ n' ≤ n + 1) (ev_l rfl) (exp_draw (a := a.length) (evs_cons (ev_pool rfl) (evs_cons (ev_lenL (ev_l rfl)) evs_nil)) h1 (by omega) hc) fun i n1 ⟨p1, p2, p3⟩ => ?_) fun x n1 ⟨d, e, hd, hn⟩ => ⟨⟨d, e, hd⟩, hn⟩
    have hi : i.toNat < a.length := by omega
    exact ⟨i.toNat, by omega, a[i.toNat], List.getElem?_eq_getElem hi, List.getElem_mem hi, p3⟩⟩
def sp_law_mixed (K : PySem.W.Frag) : Sp := spP K (A := List Int) (fun a => [.pool, .l (a.map .int)]) (fun a => a.length ≤ 10) 10 (fun a x => ∃ ys : List Int, x = .f (ys.map .int) ∧ ys.Perm a)
theorem exp_mixed {m : Option (Addr × Addr)} {n : Nat} {ρ : Ev0} {tr : TA} {E : XK} {a : List Int} (h : EVs K (m, n) tr ρ [.pool, .l (a.map .int)]) (h1 : a.length ≤ 10) (hc : n + 10 ≤ LIM) : EXp K m (tCall (sp_law_mixed K) [] E tr) ρ n (fun x n' => ∃ ds, x = .f ds ∧ ∃ ys : List Int, ds = ys.map .int ∧ ys.Perm a ∧ n' ≤ n + 10) :=
  (exp_call a h h1 hc).mono fun x n' ⟨⟨ys, e, hd⟩, hn⟩ => ⟨_, e, ys, rfl, hd, hn⟩
theorem ok_law_mixed (G : Gp K mg) (F : Fu K mg "_law_mixed" "_law_mixed" "_law_mixed" s_law_mixed ["_law_pool_here", "_law_things"])
    (D_law_draw : Df P w K mg base 1 "_law_draw" ["_law_pool_here", "_law_many"] (sp_law_draw K)) : Df P w K mg base 2 "_law_mixed" ["_law_pool_here", "_law_things"] (sp_law_mixed K) := by
  exact df_mkP F sc_law_mixed (fun _ => rfl) fun f cdv A' outer s H E hr => ⟨_, (pss_cons (ps_set (i := 2) sc_law_mixed.nd rfl (Or.inl rfl) (pe_callTy call_list_of (by rfl) G.n_list bb_list (pa_cons (pv 1) pa_nil)))
  (pss_cons (ps_set (i := 3) sc_law_mixed.nd rfl (Or.inl rfl) (pe_lst pa_nil))
  (pss_cons (ps_for PassesOwn.never rfl (pi_range1 (by rfl) G.n_range (pa_cons (pe_callB call_len_seq (by rfl) G.n_len bb_len (pa_cons (pv 2) pa_nil)) pa_nil)) (pg_name (i := 4) sc_law_mixed.nd rfl (Or.inl rfl))
   (pss_one (ps_expr (pe_bm PySem.F.plainAttrs_list PySem.F.slot_list_append PySem.F.type_list_append mt_append (pv 3) (pa_cons (pe_bm PySem.F.plainAttrs_list PySem.F.slot_list_pop PySem.F.type_list_pop mt_popAt (pv 2) (pa_cons (pe_callD D_law_draw hr (by decide) (by rfl) (pa_cons (pv 0) (pa_cons (pe_callB call_len_seq (by rfl) G.n_len bb_len (pa_cons (pv 2) pa_nil)) pa_nil))) pa_nil)) pa_nil)))))
  (pss_one (ps_ret (pv 3)))))), fun m n a hc h => by
    have h : a.length ≤ 10 := h
    refine sxp_seqN (sx_setf (ev_listL (ds := a.map .int) (ev_l rfl)) fun q1 => ?_)
    refine sxp_seqN (sx_setf (ev_lst evt_nil) fun q2 => ?_)
    refine sxp_seq (sxp_forX (P := fun ds n1 => ds = (List.range a.length).map eN ∧ n1 = n) (IX.p (wx_rng1V (n := a.length) ((ev_lenL (ds := a.map .int) (ev_m rfl)).to (by rw [List.length_map])) (by omega))) (fun ds i ρ' n2 => ∃ (fs ls : List Int) (z : Option Dt), ρ' = [some .pool, some (.l (a.map .int)), some (.m q1 (ls.map .int)), some (.m q2 (fs.map .int)), z] ∧ (fs ++ ls).Perm a ∧ fs.length = i ∧ n2 ≤ n + i) (fun ds n1 ⟨e1, e2⟩ => ⟨[], a, none, rfl, .refl _, rfl, by omega⟩) (fun _ _ _ _ _ => trivial) (fun ds i d ρ' n2 ⟨n1, e1, _⟩ hd ⟨fs, ls, z, e, p1, p2, p3⟩ => ?_) fun ds ρ' n2 ⟨n1, e1, _⟩ ⟨fs, ls, z, e, p1, p2, p3⟩ => ?_)
    · subst e1
      obtain ⟨k, hk, ed, _⟩ := map_get hd
      obtain ⟨ek, hi⟩ := range_get hk
      subst e ed ek
      have hlen := p1.length_eq
      rw [List.length_append] at hlen
      refine gx_name (sxp_appendPop (a := q2) (b := q1) (ds := fs.map .int) (es := ls.map .int) rfl rfl (by decide) (exp_draw (a := ls.length) (evs_cons (ev_pool rfl) (evs_cons ((ev_lenL (ds := ls.map .int) (ev_m rfl)).to (by rw [List.length_map])) evs_nil)) (by omega) (by omega) (by have hc : n + 10 ≤ 1000000 := hc; show n2 + 1 ≤ 1000000; omega)) (by rw [List.length_map]; omega) (by rw [List.length_map]; omega) fun z n3 ⟨r1, r2, r3⟩ => ?_)
      have hz : z.toNat < ls.length := by omega
      refine ⟨z.toNat, .int ls[z.toNat], by omega, get_map (f := TD.int) (List.getElem?_eq_getElem hz), fs ++ [ls[z.toNat]], ls.eraseIdx z.toNat, some (.p (eN k)), ?_, move_perm p1 (List.getElem?_eq_getElem hz), by rw [List.length_append, List.length_singleton, p2], by omega⟩
      rw [map_erase, List.map_append]
      rfl
    · subst e
      have hlen := p1.length_eq
      rw [List.length_append] at hlen
      rw [e1, List.length_map, List.length_range] at p2 p3
      have hl : ls = [] := List.eq_nil_of_length_eq_zero (by omega)
      subst hl
      rw [List.append_nil] at p1
      exact sxp_of (sx_retM (a := q2) rfl ⟨⟨fs, rfl, p1⟩, by omega⟩)⟩
def AscP (xs ys : List Fr) : Prop := ys.Perm xs ∧ ys.Pairwise leF
def sp_law_ascending (K : PySem.W.Frag) : Sp := spX K (A := List Fr) (fun a => [.l (a.map eFr)]) (fun a => a.length ≤ 6 ∧ ∀ x ∈ a, ThOk x) (fun a x => ∃ ys, x = .p (eSt ys) ∧ AscP a ys)
theorem so_law_ascending {M : PM} {xs : List Fr} (h : xs.length ≤ 6) (h2 : ∀ x ∈ xs, ThOk x) : SpOk K M (sp_law_ascending K) [.l (xs.map eFr)] (fun x => ∃ ys, x = .p (eSt ys) ∧ AscP xs ys) := spX_ok xs ⟨h, h2⟩
theorem find_fr {ls : List Fr} {l : Fr} (h : l ∈ ls) : ∃ j, (ls.map eFr).findIdx? (fun z => eqT z (eFr l)) = some j ∧ ls[j]? = some l := by
  cases e : (ls.map eFr).findIdx? (fun z => eqT z (eFr l)) with
  | none =>
    rw [List.findIdx?_eq_none_iff] at e
    have := e (eFr l) (List.mem_map_of_mem h)
    rw [(enc_fr.eq l l).mpr rfl] at this
    cases this
  | some j =>
    obtain ⟨hj, h1, _⟩ := List.findIdx?_eq_some_iff_getElem.mp e
    rw [List.getElem_map] at h1
    rw [List.length_map] at hj
    refine ⟨j, rfl, ?_⟩
    rw [List.getElem?_eq_getElem hj, (enc_fr.eq _ _).mp h1]
theorem ok_law_ascending (G : Gp K mg) (F : Fu K mg "_law_ascending" "_law_ascending" "_law_ascending" s_law_ascending ["_law_steps"]) : Df P w K mg base 1 "_law_ascending" ["_law_steps"] (sp_law_ascending K) := by
  exact df_mk F sc_law_ascending (fun _ => rfl) fun f cdv A' outer s H E hr => ⟨_, (pss_cons (ps_set (i := 1) sc_law_ascending.nd rfl (Or.inl rfl) (pe_callTy call_list_of (by rfl) G.n_list bb_list (pa_cons (pv 0) pa_nil)))
  (pss_cons (ps_set (i := 2) sc_law_ascending.nd rfl (Or.inl rfl) (pe_lst pa_nil))
  (pss_cons (ps_while PassesOwn.never (pt_cmpR op_gt (pe_callB call_len_seq (by rfl) G.n_len bb_len (pa_cons (pv 1) pa_nil)) pe_int (nomark _))
   (pss_cons (ps_set (i := 3) sc_law_ascending.nd rfl (Or.inl rfl) (pe_ix ix_list (pv 1) pe_int (fun _ _ => rfl)))
  (pss_cons (ps_for PassesOwn.never rfl (pi_list (pv 1)) (pg_name (i := 4) sc_law_ascending.nd rfl (Or.inl rfl))
   (pss_one (ps_if (pt_cmpR op_lt (pe_op op_mulW (pe_ix ix_tup (pv 4) pe_int (fun _ _ => rfl)) (pe_ix ix_tup (pv 3) pe_int (fun _ _ => rfl))) (pe_op op_mulW (pe_ix ix_tup (pv 3) pe_int (fun _ _ => rfl)) (pe_ix ix_tup (pv 4) pe_int (fun _ _ => rfl))) (nomark _))
   (pss_one (ps_set (i := 3) sc_law_ascending.nd rfl (Or.inl rfl) (pv 4)))
   pss_nil)))
  (pss_cons (ps_expr (pe_bm PySem.F.plainAttrs_list PySem.F.slot_list_remove PySem.F.type_list_remove (mt_removeD (hu65 hr)) (pv 1) (pa_cons (pv 3) pa_nil)))
  (pss_one (ps_expr (pe_bm PySem.F.plainAttrs_list PySem.F.slot_list_append PySem.F.type_list_append mt_append (pv 2) (pa_cons (pv 3) pa_nil))))))))
  (pss_one (ps_ret (pe_callTy call_tuple_of (by rfl) G.n_tuple bb_tuple (pa_cons (pv 2) pa_nil))))))), fun M a h => by
    obtain ⟨h1, h2⟩ := h
    refine sx_seq (sx_setf (ev_listL (ds := a.map eFr) (ev_l rfl)) fun q1 => ?_)
    refine sx_seq (sx_setf (ev_lst evt_nil) fun q2 => ?_)
    refine sx_seq (sx_while (fun k ρ' => ∃ (ls fs : List Fr) (z1 z2 : Option Dt), ρ' = [some (.l (a.map eFr)), some (.m q1 (ls.map eFr)), some (.m q2 (fs.map eFr)), z1, z2] ∧ ls.length = k ∧ (fs ++ ls).Perm a ∧ fs.Pairwise leF ∧ ∀ x ∈ fs, ∀ y ∈ ls, leF x y) a.length ⟨a, [], none, none, rfl, rfl, .refl _, .nil, fun x hx => nomatch hx⟩ fun k ρ' ⟨ls, fs, z1, z2, e, p1, p2, p3, p4⟩ => ⟨fun c => c = decide ((ls.length : Int) > 0), ?_, fun hc => ?_, fun hc => ?_⟩)
    all_goals subst e
    · exact et_test (ev_IB (a := (ls.length : Int)) (b := 0) ((ev_lenL (ds := ls.map eFr) (ev_m rfl)).to (by rw [List.length_map])) ev_int)
    · have hpos : 0 < ls.length := by
        have := of_decide_eq_true hc.symm
        omega
      have hth : ∀ x ∈ ls, ThOk x := fun x hx => h2 x (p2.mem_iff.mp (List.mem_append_right fs hx))
      have hlen := p2.length_eq
      rw [List.length_append] at hlen
      have h1 : a.length ≤ 6 := h1
      obtain ⟨l0, hl0⟩ : ∃ l0, ls[0]? = some l0 := ⟨_, List.getElem?_eq_getElem hpos⟩
      refine sx_seq (sx_set (d := eFr l0) (ev_ixL (ds := ls.map eFr) (ev_m rfl) ev_int 0 rfl (get_map hl0)) ?_)
      refine sx_seq (sx_for (wx_listM (s := 1) (a := q1) (ds := ls.map eFr) rfl) (fun i ρ' => ∃ (l : Fr) (z : Option Dt), ρ' = [some (.l (a.map eFr)), some (.m q1 (ls.map eFr)), some (.m q2 (fs.map eFr)), some (frD l), z] ∧ l ∈ ls ∧ ∀ y ∈ ls.take i, leF l y) ⟨l0, z2, rfl, List.mem_of_getElem? hl0, fun y hy => nomatch hy⟩ (fun i ρ' ⟨l, z, e, _⟩ => by subst e; rfl) (fun i d ρ' hd ⟨l, z, e, g1, g2⟩ => ?_) fun ρ' ⟨l, z, e, g1, g2⟩ => ?_)
      · obtain ⟨y, hy, ed, hm⟩ := map_get hd
        subst e ed
        have ty := (hth y hm).fr
        have tl := (hth l g1).fr
        refine gx_name (sx_ifB (b := below y l) (et_test (ev_IB (a := y.1 * l.2) (b := l.1 * y.2) (ev_I (a := y.1) (b := l.2) (by walk_at "ev") (by walk_at "ev") (ty.2.2.1.mulOk tl.2.1)) (ev_I (a := l.1) (b := y.2) (by walk_at "ev") (by walk_at "ev") (tl.2.2.1.mulOk ty.2.1)))) (fun hb => ?_) fun hb => ?_)
        · refine sx_set (d := eFr y) (by walk_at "ev") ⟨y, _, rfl, hm, fun x hx => ?_⟩
          have hyl : leF y l := by
            have : y.1 * l.2 < l.1 * y.2 := of_decide_eq_true hb
            unfold leF; omega
          rcases mem_take_succ hy hx with q | q
          · have tx := (hth x (List.mem_of_mem_take q)).fr
            exact leF_trans (by have := tl.1; omega) (by have := ty.1; omega) (by have := tx.1; omega) hyl (g2 x q)
          · rw [q]; exact Int.le_refl _
        · refine sx_next ⟨l, _, rfl, g1, fun x hx => ?_⟩
          rcases mem_take_succ hy hx with q | q
          · exact g2 x q
          · rw [q]; exact leF_iff.mpr hb
      · subst e
        rw [List.length_map, List.take_length] at g2
        obtain ⟨j, hj, hl⟩ := find_fr g1
        refine sx_seq (sx_remove (a := q1) (ds := ls.map eFr) (d := eFr l) (j := j) rfl (by walk_at "ev") (Nat.le_trans (enc_fr.dep l) (by decide)) (Nat.lt_of_le_of_lt (deps_le enc_fr.dep ls) (by decide)) hj ?_)
        refine sx_append (a := q2) (ds := fs.map eFr) (d := eFr l) rfl (by walk_at "ev") (by rw [List.length_map]; omega) ⟨_, by omega, ls.eraseIdx j, fs ++ [l], _, _, by rw [map_erase, List.map_append]; rfl, erase_len hl, move_perm p2 hl, ?_, ?_⟩
        · refine List.pairwise_append.mpr ⟨p3, List.pairwise_singleton .., fun x hx y hy => ?_⟩
          rw [List.mem_singleton.mp hy]
          exact p4 x hx l g1
        · intro x hx y hy
          have hy' : y ∈ ls := (erase_perm hl).mem_iff.mp (List.mem_cons_of_mem _ hy)
          rcases List.mem_append.mp hx with q | q
          · exact p4 x q y hy'
          · rw [List.mem_singleton.mp q]; exact g2 y hy'
    · have hl : ls = [] := by
        have := of_decide_eq_false hc.symm
        exact List.eq_nil_of_length_eq_zero (by omega)
      subst hl
      rw [List.append_nil] at p2
      exact sx_retV (ev_tupL (ds := fs.map eFr) (ev_m rfl)) ⟨fs, rfl, p2, p3⟩⟩
end
end K37
end
section
set_option Elab.async false
set_option linter.all false
set_option maxRecDepth 100000
set_option maxHeartbeats 4000000
namespace K37
open PySem PySem.Spec PyProof.Rows L2
local macro_rules | `(tactic| walk_at "ev") => `(tactic| (repeat' (first
  | exact ev_p rfl | exact ev_m rfl | exact ev_l rfl | exact ev_o rfl | exact ev_pool rfl | exact ev_int | exact ev_bl | exact ev_non | exact evs_nil | exact evt_nil
  | apply evs_cons | apply evt_cons | apply ev_ix0 | apply ev_ix1 | apply ev_ix2
  | apply ev_I0 | apply ev_IB | apply ev_eqI | apply ev_neI | apply ev_neg | apply ev_abs
  | apply ev_lenT | apply ev_lenL | apply ev_lenF | apply ev_isN | apply ev_notN | apply et_test | apply et_B | apply et_not
  | apply ev_isiI | apply ev_isiB | apply ev_isiT | apply ev_chainI | apply ev_not | apply ev_max2 | apply ev_min2 | apply ev_max3 | apply ev_int1 | apply ev_sorts | apply ev_kinds | apply ev_widths | apply ev_pipes)))
abbrev s_law_sorts : Stmt := topS 94
abbrev n_law_sorts : List Str := ["_law_pool_here", "_law_found", "_law_k", "_law_width"]
theorem sc_law_sorts : FnScope n_law_sorts ["_law_pool_here"] (defScope s_law_sorts) := ⟨rfl, rfl, rfl, by decide +kernel, rfl, by decide +kernel, by decide +kernel⟩

structure LSorts (ss : List Fr) : Prop where
  len : 1 ≤ ss.length ∧ ss.length ≤ 4
  ok : ∀ s ∈ ss, LSort s
  zero : (ss.filter fun s => decide (s.1 = 0)).length ≤ 1
  pos : ∃ s ∈ ss, 0 < s.1
theorem LSorts.so {ss : List Fr} (h : LSorts ss) : SortsOk ss := ⟨h.len.1, h.len.2, fun s hs => (h.ok s hs).ok, h.zero⟩
section
variable {P : Program} {w : World} {K : PySem.W.Frag} {mg : Str → Option Value} {base : Heap}
/-- _law_draw(pool, [2, 3, 6][_law_draw(pool, 3)]) -/
theorem exp_draw236 {m : Option (Addr × Addr)} {n p : Nat} {ρ : Ev0} {E1 E2 : XK} (h : ρ[p]? = some (some .pool)) (hc : n + 2 ≤ LIM) :
    EXp K m (tCall (sp_law_draw K) [] E1 (tCons (tVar p) (tCons (tOp (rIxL K) (tLst (tCons (tC (.int 2)) (tCons (tC (.int 3)) (tCons (tC (.int 6)) tNil)))) (tCall (sp_law_draw K) [] E2 (tCons (tVar p) (tCons (tC (.int 3)) tNil)))) tNil))) ρ n (fun x n' => ∃ i, x = iD i ∧ (0 ≤ i ∧ i < 6 ∧ n' ≤ n + 2)) := by
  refine exp_callAP (P := fun xs n1 => ∃ a : Nat, xs = [.pool, iD (a : Int)] ∧ 0 < a ∧ a ≤ 6 ∧ n1 ≤ n + 1) (R := fun x n' => ∃ i, x = iD i ∧ (0 ≤ i ∧ i < 6 ∧ n' ≤ n + 2)) (exsp_cons (P1 := fun x n1 => x = .pool ∧ n1 = n) (P2 := fun xs n1 => ∃ a : Nat, xs = [iD (a : Int)] ∧ 0 < a ∧ a ≤ 6 ∧ n1 ≤ n + 1) (ev_pool h).p (fun d n1 ⟨_, en⟩ => ?_) fun d ds n1 n2 ⟨e1, _⟩ ⟨a, e2, e3⟩ => ⟨a, by rw [e1, e2], e3⟩) (fun xs n1 ⟨a, ea, h1, h2, h3⟩ => ⟨a, ea, ⟨h1, by omega⟩, by have hc : n + 2 ≤ 1000000 := hc; show n1 + 1 ≤ 1000000; omega, fun x n2 ⟨d, e, hd⟩ hn => ⟨_, e, by omega, by omega, by omega⟩⟩) fun xs n1 ⟨a, ea, _⟩ => by rw [ea]; rfl
  subst en
  refine exsp_cons (P1 := fun x n2 => ∃ a : Nat, x = iD (a : Int) ∧ 0 < a ∧ a ≤ 6 ∧ n2 ≤ n1 + 1) (P2 := fun xs n2 => xs = [] ∧ n2 ≤ n1 + 1) ?_ (fun d n2 ⟨a, _, _, _, h3⟩ => (EXs.p (P := fun xs => xs = []) evs_nil).mono' fun xs n3 ⟨e, e3⟩ => ⟨e, by omega⟩) fun d ds n2 n3 ⟨a, e1, h1, h2, _⟩ ⟨e2, h3⟩ => ⟨a, by rw [e1, e2], h1, h2, h3⟩
  refine (exp_ixL (ds := [.int 2, .int 3, .int 6]) (P := fun d n2 => ∃ a : Nat, d = .int (a : Int) ∧ 0 < a ∧ a ≤ 6 ∧ n2 ≤ n1 + 1) (EX.fl (ev_lst (evt_cons ev_int (evt_cons ev_int (evt_cons ev_int evt_nil))))) (exp_draw (a := 3) (evs_cons (ev_pool h) (evs_cons ev_int evs_nil)) (by decide) (by decide) (by have hc : n1 + 2 ≤ 1000000 := hc; show n1 + 1 ≤ 1000000; omega)) fun i n2 ⟨p1, p2, p3⟩ => ?_).mono fun x n2 ⟨d, e, a, ed, h1⟩ => ⟨a, by rw [e, ed], h1⟩
  have hi : i = 0 ∨ i = 1 ∨ i = 2 := by omega
  rcases hi with e | e | e
  · exact ⟨0, e, _, rfl, 2, rfl, by decide, by decide, p3⟩
  · exact ⟨1, e, _, rfl, 3, rfl, by decide, by decide, p3⟩
  · exact ⟨2, e, _, rfl, 6, rfl, by decide, by decide, p3⟩
theorem exp_i {m : Option (Addr × Addr)} {n : Nat} {ρ : Ev0} {te : TE} {i : Int} (h : EV K (m, n) te ρ (iD i)) : EXp K m te ρ n (fun x n' => ∃ j, x = iD j ∧ (j = i ∧ n' = n)) := h.p.mono fun x n' ⟨e, en⟩ => ⟨i, e, rfl, en⟩
/-- 1 + a draw -/
theorem exp_1p {m : Option (Addr × Addr)} {n : Nat} {ρ : Ev0} {te : TE} {k b : Int} {c : Nat} (h : EXp K m te ρ n (fun x n' => ∃ i, x = iD i ∧ (0 ≤ i ∧ i < b ∧ n' ≤ n + c))) : EXp K m (tOp (rI0 fun i j => .int (i + j)) (tC (.int k)) te) ρ n (fun x n' => ∃ i, x = iD i ∧ (k ≤ i ∧ i < k + b ∧ n' ≤ n + c)) :=
  exp_I0 (P1 := fun j n1 => j = k ∧ n1 = n) (P2 := fun i n' => 0 ≤ i ∧ i < b ∧ n' ≤ n + c) (P := fun i n' => k ≤ i ∧ i < k + b ∧ n' ≤ n + c) (exp_i (i := k) ev_int) (fun a n1 ⟨_, e⟩ => by subst e; exact h) fun a b' n1 n2 ⟨e1, _⟩ ⟨h1, h2, h3⟩ => by subst e1; exact ⟨by (try dsimp only); omega, by (try dsimp only); omega, h3⟩
/-- a draw == 0 -/
theorem exp_eq0 {m : Option (Addr × Addr)} {n : Nat} {ρ : Ev0} {te : TE} {b : Int} {c : Nat} (h : EXp K m te ρ n (fun x n' => ∃ i, x = iD i ∧ (0 ≤ i ∧ i < b ∧ n' ≤ n + c))) : EXTp K m (tTest (tOp rEq te (tC (.int 0)))) ρ n (fun _ n' => n' ≤ n + c) :=
  exp_test (exp_eqI (P1 := fun i n' => 0 ≤ i ∧ i < b ∧ n' ≤ n + c) (P2 := fun j n' => j = 0 ∧ n' ≤ n + c) (P := fun _ n' => n' ≤ n + c) h (fun a n1 ⟨_, _, h3⟩ => (exp_i (i := 0) ev_int).mono fun x n' ⟨j, e, e2, e3⟩ => ⟨j, e, e2, by omega⟩) fun a b' n1 n2 _ ⟨_, h3⟩ => h3)
theorem exp_d {m : Option (Addr × Addr)} {n p : Nat} {ρ : Ev0} {E : XK} (a : Nat) (h : ρ[p]? = some (some .pool)) (h1 : 0 < a) (h2 : a ≤ 1000000) (hc : n + 1 ≤ LIM) : EXp K m (tCall (sp_law_draw K) [] E (tCons (tVar p) (tCons (tC (.int (a : Int))) tNil))) ρ n (fun x n' => ∃ i, x = iD i ∧ (0 ≤ i ∧ i < (a : Int) ∧ n' ≤ n + 1)) :=
  exp_draw (evs_cons (ev_pool h) (evs_cons ev_int evs_nil)) h1 h2 hc
theorem filter_set {α : Type} {p : α → Bool} {x : α} : ∀ {xs : List α} (j : Nat), (∀ s ∈ xs, p s = false) → ((xs.set j x).filter p).length ≤ 1
  | [], _, _ => by simp
  | y :: ys, 0, h => by
    have h1 : ys.filter p = [] := List.filter_eq_nil_iff.mpr fun s hs => by rw [h s (List.mem_cons_of_mem _ hs)]; decide
    rw [List.set_cons_zero, List.filter_cons, h1]
    split <;> simp
  | y :: ys, j + 1, h => by
    rw [List.set_cons_succ, List.filter_cons, h y (List.mem_cons_self ..)]
    exact filter_set j fun s hs => h s (List.mem_cons_of_mem _ hs)
def sp_law_sorts (K : PySem.W.Frag) : Sp := spP K (A := Unit) (fun _ => [.pool]) (fun _ => True) 30 (fun _ x => ∃ ss, x = .p (.tup (ss.map eFr)) ∧ LSorts ss)
theorem ok_law_sorts (G : Gp K mg) (F : Fu K mg "_law_sorts" "_law_sorts" "_law_sorts" s_law_sorts ["_law_pool_here"])
    (D_law_draw : Df P w K mg base 1 "_law_draw" ["_law_pool_here", "_law_many"] (sp_law_draw K))
    (D_law_some : Df P w K mg base 2 "_law_some" ["_law_pool_here", "_law_things"] (sp_law_some K)) : Df P w K mg base 3 "_law_sorts" ["_law_pool_here"] (sp_law_sorts K) := by
  exact df_mkP F sc_law_sorts (fun _ => rfl) fun f cdv A' outer s H E hr => ⟨_, (pss_cons (ps_set (i := 1) sc_law_sorts.nd rfl (Or.inl rfl) (pe_lst pa_nil))
  (pss_cons (ps_for PassesOwn.never rfl (pi_range1 (by rfl) G.n_range (pa_cons (pe_op op_add pe_int (pe_callD D_law_draw hr (by decide) (by rfl) (pa_cons (pv 0) (pa_cons pe_int pa_nil)))) pa_nil)) (pg_name (i := 2) sc_law_sorts.nd rfl (Or.inl rfl))
   (pss_cons (ps_set (i := 3) sc_law_sorts.nd rfl (Or.inl rfl) (pe_callD D_law_some hr (by decide) (by rfl) (pa_cons (pv 0) (pa_cons (pe_lst (pa_cons pe_int (pa_cons pe_int (pa_cons pe_int (pa_cons pe_int (pa_cons pe_int (pa_cons pe_int (pa_cons pe_int (pa_cons pe_int (pa_cons pe_int pa_nil)))))))))) pa_nil))))
  (pss_one (ps_expr (pe_bm PySem.F.plainAttrs_list PySem.F.slot_list_append PySem.F.type_list_append mt_append (pv 1) (pa_cons (pe_tup (pa_cons (pv 3) (pa_cons (pe_op op_add pe_int (pe_callD D_law_draw hr (by decide) (by rfl) (pa_cons (pv 0) (pa_cons (pe_ix ix_list (pe_lst (pa_cons pe_int (pa_cons pe_int (pa_cons pe_int pa_nil)))) (pe_callD D_law_draw hr (by decide) (by rfl) (pa_cons (pv 0) (pa_cons pe_int pa_nil))) (fun _ _ => rfl)) pa_nil)))) pa_nil))) pa_nil))))))
  (pss_cons (ps_if (PW.pt (pw_and (pt_cmpR op_gt (pe_callB call_len_seq (by rfl) G.n_len bb_len (pa_cons (pv 1) pa_nil)) pe_int (nomark _)) (pw_and1 (pt_cmpR op_eq (pe_callD D_law_draw hr (by decide) (by rfl) (pa_cons (pv 0) (pa_cons pe_int pa_nil))) pe_int (nomark _)))))
   (pss_one (ps_asg (pe_tup (pa_cons pe_int (pa_cons (pe_op op_add pe_int (pe_callD D_law_draw hr (by decide) (by rfl) (pa_cons (pv 0) (pa_cons pe_int pa_nil)))) pa_nil))) (pg_sub (pv 1) (pe_callD D_law_draw hr (by decide) (by rfl) (pa_cons (pv 0) (pa_cons (pe_callB call_len_seq (by rfl) G.n_len bb_len (pa_cons (pv 1) pa_nil)) pa_nil))) set_list)))
   pss_nil)
  (pss_one (ps_ret (pe_callTy call_tuple_of (by rfl) G.n_tuple bb_tuple (pa_cons (pv 1) pa_nil))))))), fun m n a hc h => by
    have hc : n + 30 ≤ 1000000 := hc
    refine sxp_seqN (sx_setf (ev_lst evt_nil) fun q => ?_)
    refine sxp_seq (sxp_forX (P := fun ds n1 => ∃ l : Nat, 1 ≤ l ∧ l ≤ 4 ∧ ds = (List.range l).map eN ∧ n1 ≤ n + 1) ((ixp_rng1 (exp_1p (b := 4) (exp_d 4 rfl (by decide) (by decide) (by show n + 1 ≤ 1000000; omega))) (fun z n1 ⟨h1, h2, _⟩ => by omega)).mono fun ds n1 ⟨z, ⟨h1, h2, h3⟩, e⟩ => ?_) (fun ds i ρ' n2 => ∃ (ss : List Fr) (z1 z2 : Option Dt), ρ' = [some .pool, some (.m q (ss.map eFr)), z1, z2] ∧ ss.length = i ∧ (∀ s ∈ ss, LSort s ∧ 0 < s.1) ∧ n2 ≤ n + 1 + 3 * i) (fun ds n1 ⟨l, _, _, _, h⟩ => ⟨[], none, none, rfl, rfl, (fun x hx => nomatch hx), by omega⟩) (fun _ _ _ _ _ => trivial) (fun ds i d ρ' n2 ⟨n1, l, h1, h2, e1, h3⟩ hd ⟨ss, z1, z2, e, p1, p2, p3⟩ => ?_) fun ds ρ' n2 ⟨n1, l, h1, h2, e1, h3⟩ ⟨ss, z1, z2, e, p1, p2, p3⟩ => ?_)
    · refine ⟨z.toNat, by omega, by omega, ?_, h3⟩
      rw [e]
      unfold rng
      refine List.map_congr_left fun k _ => ?_
      show TD.int (0 + (k : Int)) = TD.int (k : Int)
      rw [Int.zero_add]
    · subst e1
      obtain ⟨k, hk, ed, _⟩ := map_get hd
      obtain ⟨ek, hi⟩ := range_get hk
      subst e ed ek
      refine gx_name (sxp_seq (sxp_setP (P := fun d n' => ∃ x : Int, d = .int x ∧ (x ∈ [(1 : Int), 1, 2, 2, 3, 4, 5, 6, 12]) ∧ n' ≤ n2 + 1) ((exp_some (a := [(1 : Int), 1, 2, 2, 3, 4, 5, 6, 12].map TD.int) (evs_cons (ev_pool rfl) (evs_cons (EX.fl (ev_lst (by walk_at "ev"))) evs_nil)) (by decide) (by decide) (by show n2 + 1 ≤ 1000000; omega)).mono fun x n' ⟨d, e, hd, hn⟩ => ?_) fun d n3 ⟨x, ed, hx, hn⟩ => ?_))
      · obtain ⟨y, hy, ey⟩ := List.mem_map.mp hd
        exact ⟨d, e, y, ey.symm, hy, hn⟩
      · subst ed
        refine sxp_append (a := q) (ds := ss.map eFr) (P := fun d n' => ∃ y : Int, d = .tup [.int x, .int y] ∧ 1 ≤ y ∧ y ≤ 6 ∧ n' ≤ n2 + 3) rfl ((exp_tup (P := fun ds n' => ∃ y : Int, ds = [.int x, .int y] ∧ 1 ≤ y ∧ y ≤ 6 ∧ n' ≤ n2 + 3) (extp_cons (P1 := fun d n' => d = .int x ∧ n' = n3) (P2 := fun ds n' => ∃ y : Int, ds = [.int y] ∧ 1 ≤ y ∧ y ≤ 6 ∧ n' ≤ n2 + 3) ((EX.p (P := fun x' => x' = .p (.int x)) (ev_p rfl)).mono fun x' n' ⟨e, en⟩ => ⟨_, e, rfl, en⟩) (fun d n4 ⟨_, en⟩ => ?_) fun d ds n4 n5 ⟨e1, _⟩ ⟨y, e2, h⟩ => ⟨y, by rw [e1, e2], h⟩) fun ds n4 ⟨y, e, _⟩ => by rw [e]; show 2 ≤ 1000; decide).mono fun x' n' ⟨ds, e, y, e2, h⟩ => ⟨_, e, y, by rw [e2], h⟩) (by rw [List.length_map]; omega) fun d n4 ⟨y, ed, y1, y2, hn4⟩ => ?_
        · subst en
          exact extp_cons (P1 := fun d n' => ∃ y : Int, d = .int y ∧ 1 ≤ y ∧ y ≤ 6 ∧ n' ≤ n2 + 3) (P2 := fun ds n' => ds = [] ∧ n' ≤ n2 + 3) ((exp_1p (exp_draw236 rfl (by show n4 + 2 ≤ 1000000; omega))).mono fun x' n' ⟨i, e, h1, h2, h3⟩ => ⟨_, e, i, rfl, by omega, by omega, by omega⟩) (fun d n5 ⟨_, _, _, _, h⟩ => (EXt.p (P := fun xs => xs = []) evt_nil).mono' fun xs n6 ⟨e, en⟩ => ⟨e, by omega⟩) fun d ds n5 n6 ⟨y, e1, h1, h2, _⟩ ⟨e2, h3⟩ => ⟨y, by rw [e1, e2], h1, h2, h3⟩
        · subst ed
          refine ⟨ss ++ [(x, y)], _, _, by rw [List.map_append]; rfl, by rw [List.length_append, List.length_singleton, p1], fun s hs => ?_, by omega⟩
          rcases List.mem_append.mp hs with q | q
          · exact p2 s q
          · rw [List.mem_singleton.mp q]
            have : x ∈ [(0 : Int), 1, 2, 3, 4, 5, 6, 12] ∧ 0 < x := by
              clear p2 p1 hd
              simp only [List.mem_cons, List.not_mem_nil, or_false] at hx ⊢
              omega
            exact ⟨⟨this.1, y1, y2⟩, this.2⟩
    · subst e
      rw [e1, List.length_map, List.length_range] at p1 p3
      have hz : ∀ s ∈ ss, decide (s.1 = 0) = false := fun s hs => decide_eq_false (by have := (p2 s hs).2; omega)
      have fin1 : ∀ (ss' : List Fr) (n' : Nat), LSorts ss' → n' ≤ n + 30 → SXp K m (tRet (tCB (rTupOf K) (tCons (tVar 1) tNil))) [some .pool, some (.m q (ss'.map eFr)), z1, z2] n' (fun o n' => fin (fun x => ∃ ss, x = .p (.tup (ss.map eFr)) ∧ LSorts ss) o ∧ n' ≤ n + 30) := fun ss' n' hs hn => sxp_of (sx_retV (ev_tupL (ds := ss'.map eFr) (ev_m rfl)) ⟨⟨ss', rfl, hs⟩, hn⟩)
      have h0 : LSorts ss := ⟨by omega, fun s hs => (p2 s hs).1, by rw [List.filter_eq_nil_iff.mpr fun s hs => by rw [hz s hs]; decide]; decide, by
        obtain ⟨s, hs⟩ := List.exists_mem_of_length_pos (by omega : 0 < ss.length)
        exact ⟨s, hs, (p2 s hs).2⟩⟩
      refine sxp_seq (sxp_if (P := fun b n' => (b = true → 1 < ss.length) ∧ n' ≤ n2 + 1) (extp_and (P1 := fun b n' => (b = true → 1 < ss.length) ∧ n' = n2) (P2 := fun b n' => (b = true → 1 < ss.length) ∧ n' ≤ n2 + 1) ((EXT.p (et_test (ev_IB (a := (ss.length : Int)) (b := 1) ((ev_lenL (ds := ss.map eFr) (ev_m rfl)).to (by rw [List.length_map])) ev_int))).mono fun b n' ⟨e, en⟩ => ⟨fun hb => by rw [hb] at e; have := of_decide_eq_true e.symm; omega, en⟩) (fun n3 ⟨hb, en⟩ => (exp_eq0 (exp_d 3 rfl (by decide) (by decide) (by show n3 + 1 ≤ 1000000; omega))).mono fun b n' h => ⟨fun _ => hb rfl, by omega⟩) (fun b n' h => h) (fun n' ⟨h, e⟩ => ⟨h, by omega⟩)) (fun n3 ⟨hb, hn3⟩ => ?_) fun n3 ⟨_, hn3⟩ => sxp_next (fin1 ss n3 h0 (by omega)))
      have hb := hb rfl
      refine sxp_setI (a := q) (ds := ss.map eFr) (P := fun d n' => ∃ y : Int, d = eFr (0, y) ∧ 1 ≤ y ∧ y ≤ 6 ∧ n' ≤ n3 + 1) (P2 := fun z n' => 0 ≤ z ∧ z < (ss.length : Int) ∧ n' ≤ n3 + 2) rfl ((exp_tup (P := fun ds n' => ∃ y : Int, ds = [.int 0, .int y] ∧ 1 ≤ y ∧ y ≤ 6 ∧ n' ≤ n3 + 1) (extp_cons (P1 := fun d n' => d = .int 0 ∧ n' = n3) (P2 := fun ds n' => ∃ y : Int, ds = [.int y] ∧ 1 ≤ y ∧ y ≤ 6 ∧ n' ≤ n3 + 1) ((EX.p (P := fun x' => x' = .p (.int 0)) ev_int).mono fun x' n' ⟨e, en⟩ => ⟨_, e, rfl, en⟩) (fun d n4 ⟨_, en⟩ => ?_) fun d ds n4 n5 ⟨e1, _⟩ ⟨y, e2, h⟩ => ⟨y, by rw [e1, e2], h⟩) fun ds n4 ⟨y, e, _⟩ => by rw [e]; show 2 ≤ 1000; decide).mono fun x' n' ⟨ds, e, y, e2, h⟩ => ⟨_, e, y, by rw [e2], h⟩) (fun d n4 ⟨_, _, _, _, hn4⟩ => (exp_draw (a := ss.length) (evs_cons (ev_pool rfl) (evs_cons ((ev_lenL (ds := ss.map eFr) (ev_m rfl)).to (by rw [List.length_map])) evs_nil)) (by omega) (by omega) (by show n4 + 1 ≤ 1000000; omega)).mono fun x n' ⟨i, e, h1, h2, h3⟩ => ⟨i, e, h1, h2, by omega⟩) fun z d n4 n5 ⟨y, ed, y1, y2, _⟩ ⟨q1, q2, q3⟩ => ?_
      · subst en
        exact extp_cons (P1 := fun d n' => ∃ y : Int, d = .int y ∧ 1 ≤ y ∧ y ≤ 6 ∧ n' ≤ n4 + 1) (P2 := fun ds n' => ds = [] ∧ n' ≤ n4 + 1) ((exp_1p (b := 6) (exp_d 6 rfl (by decide) (by decide) (by show n4 + 1 ≤ 1000000; omega))).mono fun x' n' ⟨i, e, h1, h2, h3⟩ => ⟨_, e, i, rfl, by omega, by omega, by omega⟩) (fun d n5 ⟨_, _, _, _, h⟩ => (EXt.p (P := fun xs => xs = []) evt_nil).mono' fun xs n6 ⟨e, en⟩ => ⟨e, by omega⟩) fun d ds n5 n6 ⟨y, e1, h1, h2, _⟩ ⟨e2, h3⟩ => ⟨y, by rw [e1, e2], h1, h2, h3⟩
      · subst ed
        refine ⟨z.toNat, by omega, by rw [List.length_map]; omega, ?_⟩
        rw [show (ss.map eFr).set z.toNat (eFr (0, y)) = (ss.set z.toNat (0, y)).map eFr by rw [List.map_set]]
        refine fin1 (ss.set z.toNat (0, y)) n5 ⟨by rw [List.length_set]; omega, fun s hs => ?_, filter_set _ hz, ?_⟩ (by omega)
        · rcases List.mem_or_eq_of_mem_set hs with q | q
          · exact (p2 s q).1
          · rw [q]; exact ⟨by simp, y1, y2⟩
        · have key : ∀ i, i ≠ z.toNat → i < ss.length → ∃ s ∈ ss.set z.toNat (0, y), 0 < s.1 := fun i hi hl => ⟨ss[i], List.mem_of_getElem? (by rw [List.getElem?_set_ne (Ne.symm hi)]; exact List.getElem?_eq_getElem hl), (p2 _ (List.getElem_mem hl)).2⟩
          by_cases hz0 : z.toNat = 0
          · exact key 1 (by omega) (by omega)
          · exact key 0 (by omega) (by omega)⟩
end
end K37
end
section
set_option Elab.async false
set_option linter.all false
set_option maxRecDepth 100000
set_option maxHeartbeats 4000000
namespace K37
open PySem PySem.Spec PyProof.Rows L2
local macro_rules | `(tactic| walk_at "ev") => `(tactic| (repeat' (first
  | exact ev_p rfl | exact ev_m rfl | exact ev_l rfl | exact ev_o rfl | exact ev_pool rfl | exact ev_int | exact ev_bl | exact ev_non | exact evs_nil | exact evt_nil
  | apply evs_cons | apply evt_cons | apply ev_ix0 | apply ev_ix1 | apply ev_ix2
  | apply ev_I0 | apply ev_IB | apply ev_eqI | apply ev_neI | apply ev_neg | apply ev_abs
  | apply ev_lenT | apply ev_lenL | apply ev_lenF | apply ev_isN | apply ev_notN | apply et_test | apply et_B | apply et_not
  | apply ev_isiI | apply ev_isiB | apply ev_isiT | apply ev_chainI | apply ev_not | apply ev_max2 | apply ev_min2 | apply ev_max3 | apply ev_int1 | apply ev_sorts | apply ev_kinds | apply ev_widths | apply ev_pipes)))
abbrev s_law_list : Stmt := topS 96
abbrev n_law_list : List Str := ["_law_pool_here", "_law_sorts_here", "_law_pair", "_law_grains_here", "_law_space", "_law_slip", "_law_found", "_law_many", "_law_top", "_law_bottom", "_law_step"]
theorem sc_law_list : FnScope n_law_list ["_law_pool_here", "_law_sorts_here", "_law_pair"] (defScope s_law_list) := ⟨rfl, rfl, rfl, by decide +kernel, rfl, by decide +kernel, by decide +kernel⟩

abbrev s_law_filling : Stmt := topS 101
abbrev n_law_filling : List Str := ["_law_pool_here", "_law_widths_here", "_law_high", "_law_found", "_law_width"]
theorem sc_law_filling : FnScope n_law_filling ["_law_pool_here", "_law_widths_here", "_law_high"] (defScope s_law_filling) := ⟨rfl, rfl, rfl, by decide +kernel, rfl, by decide +kernel, by decide +kernel⟩

theorem zip_snoc {fl : List Int} {ws : List Int} {y v : Int} {p : Int × Int} (h : ws[fl.length]? = some v) (hp : p ∈ (fl ++ [y]).zip ws) : p ∈ fl.zip ws ∨ p = (y, v) := by
  obtain ⟨k, hk⟩ := List.mem_iff_getElem?.mp hp
  obtain ⟨h1, h2⟩ := List.getElem?_zip_eq_some.mp hk
  by_cases hl : k < fl.length
  · rw [List.getElem?_append_left hl] at h1
    exact .inl (List.mem_iff_getElem?.mpr ⟨k, List.getElem?_zip_eq_some.mpr ⟨h1, h2⟩⟩)
  · have hk2 := (List.getElem?_eq_some_iff.mp h1).1
    rw [List.length_append, List.length_singleton] at hk2
    have e : k = fl.length := by omega
    subst e
    rw [List.getElem?_append_right (Nat.le_refl _), Nat.sub_self] at h1
    rw [h] at h2
    have e1 : y = p.1 := Option.some.inj h1
    have e2 : v = p.2 := Option.some.inj h2
    exact .inr (by rw [e1, e2])
theorem mk_th {t : Int} {b : Nat} (h1 : 1 ≤ t) (h2 : t ≤ 1000000) (h3 : 0 < b) (h4 : b ≤ 144) : ThOk (mk t (b : Int)) := by
  have m1 := mk_den (t := t) (b := (b : Int)) (by omega)
  have m2 := mk_num (t := t) (b := (b : Int))
  have m3 := mk_gcd (t := t) (b := (b : Int)) (by omega)
  have m4 := mk_pos (t := t) (b := (b : Int)) (by omega) (by omega)
  exact ⟨m4, by omega, m1.1, by omega, m3⟩
section
variable {P : Program} {w : World} {K : PySem.W.Frag} {mg : Str → Option Value} {base : Heap}
theorem exp_sorts {m : Option (Addr × Addr)} {n : Nat} {ρ : Ev0} {tr : TA} {E : XK} (h : EVs K (m, n) tr ρ [.pool]) (hc : n + 30 ≤ LIM) : EXp K m (tCall (sp_law_sorts K) [] E tr) ρ n (fun x n' => ∃ d, x = .p d ∧ (∃ ss, d = .tup (ss.map eFr) ∧ LSorts ss ∧ n' ≤ n + 30)) :=
  (exp_call () h trivial hc).mono fun x n' ⟨⟨ss, e, hd⟩, hn⟩ => ⟨_, e, ss, rfl, hd, hn⟩
def sp_law_filling (K : PySem.W.Frag) : Sp := spP K (A := List Int × Nat) (fun a => [.pool, .p (.tup (a.1.map .int)), iD (a.2 : Int)]) (fun a => a.1.length ≤ 12 ∧ a.2 ≤ 100) 12 (fun a x => ∃ fl : List Int, x = .p (.tup (fl.map .int)) ∧ fl.length = a.1.length ∧ (∀ p ∈ fl.zip a.1, p.1 = 0 ∨ 0 < p.2) ∧ ∀ y ∈ fl, y.natAbs ≤ a.2)
theorem ok_law_filling (G : Gp K mg) (F : Fu K mg "_law_filling" "_law_filling" "_law_filling" s_law_filling ["_law_pool_here", "_law_widths_here", "_law_high"])
    (D_law_draw : Df P w K mg base 1 "_law_draw" ["_law_pool_here", "_law_many"] (sp_law_draw K)) : Df P w K mg base 2 "_law_filling" ["_law_pool_here", "_law_widths_here", "_law_high"] (sp_law_filling K) := by
  exact df_mkP F sc_law_filling (fun _ => rfl) fun f cdv A' outer s H E hr => ⟨_, (pss_cons (ps_set (i := 3) sc_law_filling.nd rfl (Or.inl rfl) (pe_lst pa_nil))
  (pss_cons (ps_for PassesOwn.never rfl (pi_tup (pv 1)) (pg_name (i := 4) sc_law_filling.nd rfl (Or.inl rfl))
   (pss_one (ps_expr (pe_bm PySem.F.plainAttrs_list PySem.F.slot_list_append PySem.F.type_list_append mt_append (pv 3) (pa_cons (pe_ifExp (pt_cmpR op_gt (pv 4) pe_int (nomark _)) (pe_op op_sub (pe_callD D_law_draw hr (by decide) (by rfl) (pa_cons (pv 0) (pa_cons (pe_op op_add (pe_op op_mulW pe_int (pv 2)) pe_int) pa_nil))) (pv 2)) pe_int) pa_nil)))))
  (pss_one (ps_ret (pe_callTy call_tuple_of (by rfl) G.n_tuple bb_tuple (pa_cons (pv 3) pa_nil)))))), fun m n a hc h => by
    obtain ⟨ws, hh⟩ := a
    obtain ⟨h1, h2⟩ := h
    have h1 : ws.length ≤ 12 := h1
    have h2 : hh ≤ 100 := h2
    have hc : n + 12 ≤ 1000000 := hc
    refine sxp_seqN (sx_setf (ev_lst evt_nil) fun q => ?_)
    refine sxp_seq (sxp_forX (P := fun ds n1 => ds = ws.map .int ∧ n1 = n) (IX.p (wx_tupV (ds := ws.map .int) (ev_p rfl))) (fun ds i ρ' n2 => ∃ (fl : List Int) (z : Option Dt), ρ' = [some .pool, some (.p (.tup (ws.map .int))), some (iD (hh : Int)), some (.m q (fl.map .int)), z] ∧ fl.length = i ∧ (∀ p ∈ fl.zip ws, p.1 = 0 ∨ 0 < p.2) ∧ (∀ y ∈ fl, y.natAbs ≤ hh) ∧ n2 ≤ n + i) (fun ds n1 ⟨_, e⟩ => ⟨[], none, rfl, rfl, (fun p hp => by simp at hp), (fun y hy => nomatch hy), by omega⟩) (fun _ _ _ _ _ => trivial) (fun ds i d ρ' n2 ⟨n1, e1, _⟩ hd ⟨fl, z, e, p1, p2, p3, p4⟩ => ?_) fun ds ρ' n2 ⟨n1, e1, _⟩ ⟨fl, z, e, p1, p2, p3, p4⟩ => ?_)
    · subst e1
      obtain ⟨v, hv, ed, hm⟩ := map_get hd
      subst e ed
      have hi : i < ws.length := (List.getElem?_eq_some_iff.mp hv).1
      refine gx_name (sxp_append (a := q) (ds := fl.map .int) (P := fun d n' => ∃ y : Int, d = .int y ∧ (y = 0 ∨ 0 < v) ∧ y.natAbs ≤ hh ∧ n' ≤ n2 + 1) rfl (exp_if (P := fun b => b = decide (v > 0)) (by walk_at "ev") (fun hb => ?_) fun hb => ?_) (by rw [List.length_map]; omega) fun d n3 ⟨y, ed, y1, y2, hn⟩ => ?_)
      · have hp : v > 0 := of_decide_eq_true hb.symm
        refine (exp_I0 (P1 := fun z n' => 0 ≤ z ∧ z < ((2 * hh + 1 : Nat) : Int) ∧ n' ≤ n2 + 1) (P2 := fun z n' => z = (hh : Int) ∧ n' ≤ n2 + 1) (P := fun z n' => z.natAbs ≤ hh ∧ n' ≤ n2 + 1) (exp_draw (a := 2 * hh + 1) (evs_cons (ev_pool rfl) (evs_cons (EV.to (x := iD (2 * (hh : Int) + 1)) (ev_I0 (a := 2 * (hh : Int)) (b := 1) (ev_I (a := 2) (b := (hh : Int)) ev_int (by walk_at "ev") (Sm.mulOk (.of (by decide)) (.of (by omega)))) ev_int) (congrArg iD (by omega))) evs_nil)) (by omega) (by omega) (by show n2 + 1 ≤ 1000000; omega)) (fun a n3 ⟨_, _, h3⟩ => (EX.p (P := fun x => x = iD (hh : Int)) (ev_p rfl)).mono fun x n' ⟨e, en⟩ => ⟨_, e, rfl, by omega⟩) fun a b n3 n4 ⟨a1, a2, _⟩ ⟨b1, b2⟩ => ⟨by subst b1; (try dsimp only); omega, b2⟩).mono fun x n' ⟨i, e, h1, h2⟩ => ⟨_, e, i, rfl, .inr hp, h1, h2⟩
      · exact (EX.p (P := fun x => x = iD 0) ev_int).mono fun x n' ⟨e, en⟩ => ⟨_, e, 0, rfl, .inl rfl, Nat.zero_le _, by omega⟩
      · subst ed
        refine ⟨fl ++ [y], _, by rw [List.map_append]; rfl, by rw [List.length_append, List.length_singleton, p1], fun p hp => ?_, fun x hx => ?_, by omega⟩
        · rcases zip_snoc (v := v) (by rw [p1]; exact hv) hp with q | q
          · exact p2 p q
          · rw [q]; exact y1
        · rcases List.mem_append.mp hx with q | q
          · exact p3 x q
          · rw [List.mem_singleton.mp q]; exact y2
    · subst e
      rw [e1, List.length_map] at p1 p4
      exact sxp_of (sx_retV (ev_tupL (ds := fl.map .int) (ev_m rfl)) ⟨⟨fl, rfl, p1, p2, p3⟩, by show n2 ≤ n + 12; omega⟩)⟩
def sp_law_list (K : PySem.W.Frag) : Sp := spP K (A := List Fr × Jn) (fun a => [.pool, .p (.tup (a.1.map eFr)), .p (eJ a.2)]) (fun a => JoinOk a.1 a.2 ∧ ∀ s ∈ a.1, LSort s) 100 (fun a x => ∃ st, x = .p (eSt st) ∧ StOk st)
theorem StOk.of_asc {xs ys : List Fr} (h : AscP xs ys) (h1 : 1 ≤ xs.length) (h2 : xs.length ≤ 6) (h3 : ∀ x ∈ xs, ThOk x) : StOk ys := by
  have e := h.1.length_eq
  refine ⟨by omega, by omega, fun x hx => h3 x (h.1.mem_iff.mp hx), ?_⟩
  rw [List.any_eq_false]
  intro p hp
  have := adj h.2 p hp
  rw [leF_iff.mp this]
  decide
theorem ok_law_list (G : Gp K mg) (F : Fu K mg "_law_list" "_law_list" "_law_list" s_law_list ["_law_pool_here", "_law_sorts_here", "_law_pair"])
    (D_law_pair_grains : Df P w K mg base 3 "_law_pair_grains" ["_law_sorts_here", "_law_pair"] (sp_law_pair_grains K))
    (D_law_room : Df P w K mg base 1 "_law_room" ["_law_sorts_here", "_law_pair", "_law_grains_here"] (sp_law_room K))
    (D_law_draw : Df P w K mg base 1 "_law_draw" ["_law_pool_here", "_law_many"] (sp_law_draw K))
    (D_law_lowest : Df P w K mg base 2 "_law_lowest" ["_law_top", "_law_bottom"] (sp_law_lowest K))
    (D_law_ascending : Df P w K mg base 1 "_law_ascending" ["_law_steps"] (sp_law_ascending K)) : Df P w K mg base 4 "_law_list" ["_law_pool_here", "_law_sorts_here", "_law_pair"] (sp_law_list K) := by
  exact df_mkP F sc_law_list (fun _ => rfl) fun f cdv A' outer s H E hr => ⟨_, (pss_cons (ps_set (i := 3) sc_law_list.nd rfl (Or.inl rfl) (pe_callD D_law_pair_grains hr (by decide) (by rfl) (pa_cons (pv 1) (pa_cons (pv 2) pa_nil))))
  (pss_cons (ps_set (i := 4) sc_law_list.nd rfl (Or.inl rfl) (pe_callD D_law_room hr (by decide) (by rfl) (pa_cons (pv 1) (pa_cons (pv 2) (pa_cons (pv 3) pa_nil)))))
  (pss_cons (ps_set (i := 5) sc_law_list.nd rfl (Or.inl rfl) (pe_callD D_law_draw hr (by decide) (by rfl) (pa_cons (pv 0) (pa_cons pe_int pa_nil))))
  (pss_cons (ps_set (i := 6) sc_law_list.nd rfl (Or.inl rfl) (pe_lst pa_nil))
  (pss_cons (ps_for PassesOwn.never rfl (pi_range2 (by rfl) G.n_range (pa_cons pe_int (pa_cons (pe_op op_add pe_int (pe_callD D_law_draw hr (by decide) (by rfl) (pa_cons (pv 0) (pa_cons (pe_ix ix_list (pe_lst (pa_cons pe_int (pa_cons pe_int (pa_cons pe_int pa_nil)))) (pe_callD D_law_draw hr (by decide) (by rfl) (pa_cons (pv 0) (pa_cons pe_int pa_nil))) (fun _ _ => rfl)) pa_nil)))) pa_nil))) (pg_name (i := 7) sc_law_list.nd rfl (Or.inl rfl))
   (pss_cons (ps_set (i := 8) sc_law_list.nd rfl (Or.inl rfl) (pe_op op_add (pe_op op_add (pe_op op_mulW (pv 7) (pv 4)) (pe_ix ix_list (pe_lst (pa_cons pe_int (pa_cons pe_int (pa_cons pe_int (pa_cons pe_int (pa_cons pe_int pa_nil)))))) (pv 5) (fun _ _ => rfl))) (pe_callD D_law_draw hr (by decide) (by rfl) (pa_cons (pv 0) (pa_cons pe_int pa_nil)))))
  (pss_cons (ps_if (pt_cmpR op_eq (pe_callD D_law_draw hr (by decide) (by rfl) (pa_cons (pv 0) (pa_cons pe_int pa_nil))) pe_int (nomark _))
   (pss_one (ps_set (i := 8) sc_law_list.nd rfl (Or.inl rfl) (pe_op op_sub (pe_op op_sub (pv 8) pe_int) (pe_callD D_law_draw hr (by decide) (by rfl) (pa_cons (pv 0) (pa_cons pe_int pa_nil))))))
   pss_nil)
  (pss_cons (ps_set (i := 9) sc_law_list.nd rfl (Or.inl rfl) (pe_op op_mulW pe_int (pv 3)))
  (pss_cons (ps_if (PW.pt (pw_and (pt_cmpR op_eq (pe_callD D_law_draw hr (by decide) (by rfl) (pa_cons (pv 0) (pa_cons pe_int pa_nil))) pe_int (nomark _)) (pw_and1 (pt_cmpR op_le (pv 9) pe_int (nomark _)))))
   (pss_one (ps_par (i := 8) (j := 9) rfl sc_law_list.nd rfl rfl (by decide) rfl rfl (pa_cons (pe_op op_sub (pe_op op_mulW pe_int (pv 8)) pe_int) (pa_cons (pe_op op_mulW pe_int (pv 9)) pa_nil)) (by rfl)))
   pss_nil)
  (pss_one (ps_expr (pe_bm PySem.F.plainAttrs_list PySem.F.slot_list_append PySem.F.type_list_append mt_append (pv 6) (pa_cons (pe_callD D_law_lowest hr (by decide) (by rfl) (pa_cons (pe_callB (call_max2 rfl) (by rfl) G.n_max bb_max (pa_cons pe_int (pa_cons (pv 8) pa_nil))) (pa_cons (pv 9) pa_nil))) pa_nil)))))))))
  (pss_cons (ps_if (pt_cmpR op_eq (pe_callD D_law_draw hr (by decide) (by rfl) (pa_cons (pv 0) (pa_cons pe_int pa_nil))) pe_int (nomark _))
   (pss_one (ps_setLc (i := 6) (own := [("_law_step", 10)]) rfl sc_law_list.nd rfl rfl (sw_true rfl rfl rfl (by decide +kernel)) (pi_list (pv 6)) (blkOk_by (own := [("_law_step", 10)]) (N := n_law_list) (sc := defScope s_law_list) (by decide +kernel)) (fun _ _ _ _ _ => (pg_name (i := 10) sc_law_list.nd rfl (Or.inl rfl))) (fun _ _ _ _ _ => pts_nil) (fun _ _ _ _ _ => (pe_callD D_law_lowest hr (by decide) (by rfl) (pa_cons (pe_op op_add pe_int (pe_callD D_law_draw hr (by decide) (by rfl) (pa_cons (pv 0) (pa_cons pe_int pa_nil)))) (pa_cons (pe_op op_add pe_int (pe_callD D_law_draw hr (by decide) (by rfl) (pa_cons (pv 0) (pa_cons pe_int pa_nil)))) pa_nil))))))
   pss_nil)
  (pss_one (ps_ret (pe_callD D_law_ascending hr (by decide) (by rfl) (pa_cons (pv 6) pa_nil)))))))))), fun m n a hc h => by
    obtain ⟨ss, j⟩ := a
    obtain ⟨h1, h2⟩ := h
    have h1 : JoinOk ss j := h1
    have h2 : ∀ s ∈ ss, LSort s := h2
    have hc : n + 100 ≤ 1000000 := hc
    obtain ⟨g1, g2⟩ := h1.at
    have s1 := h2 _ (List.mem_of_getElem? g1)
    have s2 := h2 _ (List.mem_of_getElem? g2)
    have hg := gr_bd s1.ok s2.ok
    have hg2 : gr (ssAt ss j.1) (ssAt ss j.2) ≤ 72 := s1.pog s2
    obtain ⟨g, eg⟩ : ∃ g : Nat, gr (ssAt ss j.1) (ssAt ss j.2) = (g : Int) := ⟨_, (Int.toNat_of_nonneg (by omega)).symm⟩
    refine sxp_seqN (sx_set (d := .int (g : Int)) (EV.to (ex_call (xs := [.p (.tup (ss.map eFr)), .p (eJ j)]) (by walk_at "ev") (so_law_pair_grains h1 fun s hs => (h2 s hs).ok)) (congrArg iD eg)) ?_)
    rw [eg] at hg hg2
    refine sxp_seqN (sx_setP (P := fun d => ∃ r : Int, d = .int r ∧ 0 ≤ r ∧ r ≤ 1728) ((ex_call (xs := [.p (.tup (ss.map eFr)), .p (eJ j), iD (g : Int)]) (by walk_at "ev") (so_law_room g1 g2 s1.ok s2.ok (by omega) (by omega))).mono fun x ⟨r, e, h⟩ => ⟨_, e, r, rfl, h⟩) fun d ⟨r, ed, r1, r2⟩ => ?_)
    subst ed
    refine sxp_seq (sxp_setP (P := fun d n' => ∃ z : Int, d = .int z ∧ 0 ≤ z ∧ z < 5 ∧ n' ≤ n + 1) ((exp_d 5 rfl (by decide) (by decide) (by show n + 1 ≤ 1000000; omega)).mono fun x n' ⟨i, e, h⟩ => ⟨_, e, i, rfl, h⟩) fun d n1 ⟨sl, ed, l1, l2, hn1⟩ => ?_)
    subst ed
    refine sxp_seqN (sx_setf (ev_lst evt_nil) fun q => ?_)
    refine sxp_seq (sxp_forX (P := fun ds n' => ∃ l : Nat, 1 ≤ l ∧ l ≤ 6 ∧ ds = rng 1 l ∧ n' ≤ n + 3) ((ixp_rng2 (k := 1) ev_int (exp_1p (b := 6) (exp_draw236 rfl (by show n1 + 2 ≤ 1000000; omega))) (by decide) (fun z n' ⟨h1, h2, _⟩ => by omega)).mono fun ds n' ⟨z, ⟨h1, h2, h3⟩, e⟩ => ⟨(z - 1).toNat, by omega, by omega, e, by omega⟩) (fun ds i ρ' n2 => ∃ (fs : List Fr) (z7 z8 z9 : Option Dt), ρ' = [some .pool, some (.p (.tup (ss.map eFr))), some (.p (eJ j)), some (iD (g : Int)), some (iD r), some (iD sl), some (.m q (fs.map eFr)), z7, z8, z9, none] ∧ fs.length = i ∧ (∀ x ∈ fs, ThOk x) ∧ n2 ≤ n + 3 + 5 * i) (fun ds n' ⟨l, _, _, _, h⟩ => ⟨[], none, none, none, rfl, rfl, (fun x hx => nomatch hx), by omega⟩) (fun _ _ _ _ _ => trivial) (fun ds i d ρ' n2 ⟨n', l, k1, k2, e1, k3⟩ hd ⟨fs, z7, z8, z9, e, p1, p2, p3⟩ => ?_) fun ds ρ' n2 ⟨n', l, k1, k2, e1, k3⟩ ⟨fs, z7, z8, z9, e, p1, p2, p3⟩ => ?_)
    · subst e1
      obtain ⟨hi, ed⟩ := rng_get hd
      subst e ed
      have t1 : 0 ≤ (1 + (i : Int)) * r := Int.mul_nonneg (by omega) r1
      have t2 : (1 + (i : Int)) * r ≤ 6 * 1728 := Int.mul_le_mul (by omega) r2 r1 (by decide)
      refine gx_name (sxp_seq (sxp_setP (P := fun d n' => ∃ t : Int, d = .int t ∧ 0 ≤ t ∧ t ≤ 11000 ∧ n' ≤ n2 + 1) ((exp_I0 (P1 := fun t n' => 0 ≤ t ∧ t ≤ 10900 ∧ n' = n2) (P2 := fun z n' => 0 ≤ z ∧ z < 3 ∧ n' ≤ n2 + 1) (P := fun t n' => 0 ≤ t ∧ t ≤ 11000 ∧ n' ≤ n2 + 1) ((EX.p (ex_I0 (P1 := fun t => t = (1 + (i : Int)) * r) (P2 := fun z => 0 ≤ z ∧ z ≤ 3) (P := fun t => 0 ≤ t ∧ t ≤ 10900) (ex_i (ev_I (a := 1 + (i : Int)) (b := r) (by walk_at "ev") (by walk_at "ev") (Sm.mulOk (.of (by omega)) (.of (by omega)))) rfl) ?_ fun a b ea hb => by subst ea; (try dsimp only); omega)).mono fun x n' ⟨⟨t, e, h⟩, en⟩ => ⟨t, e, h.1, h.2, en⟩) (fun a n' ⟨_, _, en⟩ => by subst en; exact exp_d 3 rfl (by decide) (by decide) (by show n' + 1 ≤ 1000000; omega)) fun a b n3 n4 ⟨a1, a2, _⟩ ⟨b1, b2, b3⟩ => ⟨by (try dsimp only); omega, by (try dsimp only); omega, b3⟩).mono fun x n' ⟨t, e, h⟩ => ⟨_, e, t, rfl, h⟩) fun d n3 ⟨t, ed, u1, u2, hn3⟩ => ?_))
      · refine (ex_ixL (ds := [.int 1, .int 2, .int 0, .int 3, .int 1]) (P1 := fun z => 0 ≤ z ∧ z < 5) (P := fun d => ∃ z : Int, d = .int z ∧ 0 ≤ z ∧ z ≤ 3) (EX.fl (ev_lst (by walk_at "ev"))) (ex_i (ev_p rfl) ⟨l1, l2⟩) fun z ⟨y1, y2⟩ => ?_).mono fun x ⟨d, e, z, ed, h⟩ => ⟨z, by rw [e, ed], h⟩
        have hz : z = 0 ∨ z = 1 ∨ z = 2 ∨ z = 3 ∨ z = 4 := by omega
        rcases hz with e | e | e | e | e
        · exact ⟨0, e, _, rfl, 1, rfl, by decide, by decide⟩
        · exact ⟨1, e, _, rfl, 2, rfl, by decide, by decide⟩
        · exact ⟨2, e, _, rfl, 0, rfl, by decide, by decide⟩
        · exact ⟨3, e, _, rfl, 3, rfl, by decide, by decide⟩
        · exact ⟨4, e, _, rfl, 1, rfl, by decide, by decide⟩
      · subst ed
        refine sxp_seq (SXp.mono (P := fun o n' => ∃ t : Int, o = .nx [some .pool, some (.p (.tup (ss.map eFr))), some (.p (eJ j)), some (iD (g : Int)), some (iD r), some (iD sl), some (.m q (fs.map eFr)), some (iD (1 + (i : Int))), some (iD t), z9, none] ∧ t.natAbs ≤ 11000 ∧ n' ≤ n2 + 3) (sxp_if (exp_eq0 (exp_d 12 rfl (by decide) (by decide) (by show n3 + 1 ≤ 1000000; omega))) (fun n4 hn4 => ?_) fun n4 hn4 => sxp_next ⟨t, rfl, by omega, by omega⟩) fun o n4 ⟨t, e, u3, hn4⟩ => ?_)
        · refine sxp_setP (P := fun d n' => ∃ t : Int, d = .int t ∧ t.natAbs ≤ 11000 ∧ n' ≤ n2 + 3) ((exp_I0 (P1 := fun z n' => z = t - 1 ∧ n' = n4) (P2 := fun z n' => 0 ≤ z ∧ z < 2 ∧ n' ≤ n4 + 1) (P := fun t n' => t.natAbs ≤ 11000 ∧ n' ≤ n2 + 3) ((EX.p (ev_I0 (a := t) (b := 1) (ev_p rfl) ev_int)).mono fun x n' ⟨e, en⟩ => ⟨_, e, rfl, en⟩) (fun a n' ⟨_, en⟩ => by subst en; exact exp_d 2 rfl (by decide) (by decide) (by show n' + 1 ≤ 1000000; omega)) fun a b n5 n6 ⟨ea, _⟩ ⟨b1, b2, b3⟩ => ⟨by subst ea; (try dsimp only); omega, by omega⟩).mono fun x n' ⟨t, e, h⟩ => ⟨_, e, t, rfl, h⟩) fun d n5 ⟨t, ed, h1, h2⟩ => ?_
          subst ed
          exact ⟨t, rfl, h1, h2⟩
        · subst e
          refine sxp_seqN (sx_set (d := .int ((2 * g : Nat) : Int)) (EV.to (x := iD (2 * (g : Int))) (ev_I (a := 2) (b := (g : Int)) ev_int (by walk_at "ev") (Sm.mulOk (.of (by decide)) (.of (by omega)))) (congrArg iD (by omega))) ?_)
          refine sxp_seq (SXp.mono (P := fun o n' => ∃ (t : Int) (b : Nat), o = .nx [some .pool, some (.p (.tup (ss.map eFr))), some (.p (eJ j)), some (iD (g : Int)), some (iD r), some (iD sl), some (.m q (fs.map eFr)), some (iD (1 + (i : Int))), some (iD t), some (iD (b : Int)), none] ∧ t.natAbs ≤ 40000 ∧ 0 < b ∧ b ≤ 144 ∧ n' ≤ n2 + 4) (sxp_if (P := fun c n' => (c = true → 2 * g ≤ 48) ∧ n' ≤ n2 + 4) (extp_and (P1 := fun c n' => n' ≤ n2 + 4) (P2 := fun c n' => (c = true → 2 * g ≤ 48) ∧ n' ≤ n2 + 4) ((exp_eq0 (exp_d 4 rfl (by decide) (by decide) (by show n4 + 1 ≤ 1000000; omega))).mono fun c n' h => by omega) (fun n5 hn5 => (EXT.p (et_test (ev_IB (a := ((2 * g : Nat) : Int)) (b := 48) (ev_p rfl) ev_int))).mono fun c n' ⟨e, en⟩ => ⟨fun hc => by rw [hc] at e; have := of_decide_eq_true e.symm; omega, by omega⟩) (fun c n' h => h) (fun n' h => ⟨(fun z => nomatch z), h⟩)) (fun n5 ⟨hb, hn5⟩ => ?_) fun n5 ⟨_, hn5⟩ => sxp_next ⟨t, 2 * g, rfl, by omega, by omega, by omega, hn5⟩) fun o n5 ⟨t, b, e, v1, v2, v3, hn5⟩ => ?_)
          · have hb := hb rfl
            exact sxp_of (sx_par (x := iD (3 * t - 1)) (y := iD ((6 * g : Nat) : Int)) (ev_I0 (a := 3 * t) (b := 1) (ev_I (a := 3) (b := t) ev_int (by walk_at "ev") (Sm.mulOk (.of (by decide)) (.of (by omega)))) ev_int) (EV.to (x := iD (3 * ((2 * g : Nat) : Int))) (ev_I (a := 3) (b := ((2 * g : Nat) : Int)) ev_int (by walk_at "ev") (Sm.mulOk (.of (by decide)) (.of (by omega)))) (congrArg iD (by omega))) ⟨3 * t - 1, 6 * g, rfl, by omega, by omega, by omega, hn5⟩)
          · subst e
            refine sxp_of (sx_append (a := q) (ds := fs.map eFr) (d := eFr (mk (max 1 t) (b : Int))) rfl (ex_call (xs := [iD (max 1 t), iD (b : Int)]) (by walk_at "ev") (so_law_lowest v2 (by omega))) (by rw [List.length_map]; omega) ⟨fs ++ [mk (max 1 t) (b : Int)], _, _, _, by rw [List.map_append]; rfl, by rw [List.length_append, List.length_singleton, p1], fun x hx => ?_, by omega⟩)
            rcases List.mem_append.mp hx with q | q
            · exact p2 x q
            · rw [List.mem_singleton.mp q]
              exact mk_th (by omega) (by omega) v2 v3
    · subst e
      rw [e1, rng_len] at p1 p3
      have fin1 : ∀ (q : Addr) (fs : List Fr) (z10 : Option Dt) (n' : Nat), 1 ≤ fs.length → fs.length ≤ 6 → (∀ x ∈ fs, ThOk x) → n' ≤ n + 100 → SXp K m (tRet (tCall (sp_law_ascending K) [] E0 (tCons (tVar 6) tNil))) [some .pool, some (.p (.tup (ss.map eFr))), some (.p (eJ j)), some (iD (g : Int)), some (iD r), some (iD sl), some (.m q (fs.map eFr)), z7, z8, z9, z10] n' (fun o n' => fin (fun x => ∃ st, x = .p (eSt st) ∧ StOk st) o ∧ n' ≤ n + 100) := fun q fs z10 n' f1 f2 f3 hn => sxp_of (sx_ret (ex_call (xs := [.l (fs.map eFr)]) (evs_cons (ev_m rfl) evs_nil) (so_law_ascending f2 f3)) fun x ⟨ys, e, h⟩ => ⟨⟨ys, e, .of_asc h f1 f2 f3⟩, hn⟩)
      refine sxp_seq (sxp_if (exp_eq0 (exp_d 8 rfl (by decide) (by decide) (by show n2 + 1 ≤ 1000000; omega))) (fun n3 hn3 => ?_) fun n3 hn3 => sxp_next (fin1 q fs none n3 (by omega) (by omega) p2 (by omega)))
      refine sxp_setF (P := fun ds n' => ∃ gs : List Fr, ds = gs.map eFr ∧ gs.length = fs.length ∧ (∀ x ∈ gs, ThOk x) ∧ n' ≤ n3 + 2 * fs.length) ((exp_lc (P := fun ds n' => ds = fs.map eFr ∧ n' = n3) (IX.p (wx_listM (s := 6) (a := q) (ds := fs.map eFr) rfl)) (fun ds i acc n' => ∃ gs : List Fr, acc = gs.map eFr ∧ gs.length = i ∧ (∀ x ∈ gs, ThOk x) ∧ n' ≤ n3 + 2 * i) (fun ds n' ⟨_, e⟩ => ⟨[], rfl, rfl, (fun x hx => nomatch hx), by omega⟩) (fun ds n' ⟨e, _⟩ => by rw [e, List.length_map]; omega) (fun ds n' ⟨e, _⟩ => rfl) fun ds i d acc n4 ⟨n', e, _⟩ hd ⟨gs, ea, f1, f2, f3⟩ => ?_).mono fun x n' ⟨acc, e, ds, ⟨n'', e2, _⟩, ⟨gs, ea, f1, f2, f3⟩, _⟩ => ⟨acc, e, gs, ea, by rw [f1, e2, List.length_map], f2, by rw [e2, List.length_map] at f3; exact f3⟩) fun q' ds n4 ⟨gs, ed, f1, f2, f3⟩ => by subst ed; exact fin1 q' gs none n4 (by omega) (by omega) f2 (by omega)
      subst e
      obtain ⟨y, hy, ed, hm⟩ := map_get hd
      have hif : i < fs.length := (List.getElem?_eq_some_iff.mp hy).1
      refine ⟨_, lg_name, fun c n' => c = true ∧ n' = n4, EXT.p ext_yes, (fun n' ⟨z, _⟩ => nomatch z), fun n5 ⟨_, en⟩ => ?_⟩
      subst en
      refine (exp_callA (P := fun xs n' => ∃ (a : Int) (b : Nat), xs = [iD a, iD (b : Int)] ∧ 1 ≤ a ∧ a < 10 ∧ 0 < b ∧ b < 5 ∧ n' ≤ n5 + 2) (R := fun x n' => ∃ f, x = frD f ∧ ThOk f ∧ n' ≤ n5 + 2) (exsp_cons (P1 := fun x n' => ∃ a : Int, x = iD a ∧ (1 ≤ a ∧ a < 1 + 9 ∧ n' ≤ n5 + 1)) (P2 := fun xs n' => ∃ b : Nat, xs = [iD (b : Int)] ∧ 0 < b ∧ b < 5 ∧ n' ≤ n5 + 2) (exp_1p (exp_d 9 rfl (by decide) (by decide) (by show n5 + 1 ≤ 1000000; omega))) (fun x n6 ⟨_, _, _, _, hn6⟩ => ?_) fun d ds n6 n7 ⟨a, e1, a1, a2, _⟩ ⟨b, e2, b1, b2, b3⟩ => ⟨a, b, by rw [e1, e2], a1, by omega, b1, b2, b3⟩) (fun xs n6 ⟨a, b, e, a1, a2, b1, b2, b3⟩ => by
        subst e
        exact (so_law_lowest b1 (by omega)).mono fun x e => ⟨_, e, mk_th a1 (by omega) b1 (by omega), b3⟩) fun xs n6 ⟨a, b, e, _⟩ => by rw [e]; rfl).mono fun x n6 ⟨f, e, hf, hn6⟩ => ⟨_, e, gs ++ [f], by rw [ea, List.map_append]; rfl, by rw [List.length_append, List.length_singleton, f1], fun x hx => ?_, by omega⟩
      · refine exsp_cons (P1 := fun x n' => ∃ b : Nat, x = iD (b : Int) ∧ 0 < b ∧ b < 5 ∧ n' ≤ n5 + 2) (P2 := fun xs n' => xs = [] ∧ n' ≤ n5 + 2) ((exp_1p (b := 4) (exp_d 4 rfl (by decide) (by decide) (by show n6 + 1 ≤ 1000000; omega))).mono fun x n' ⟨a, e, a1, a2, a3⟩ => ⟨a.toNat, by rw [e, Int.toNat_of_nonneg (by omega)], by omega, by omega, by omega⟩) (fun x n7 ⟨_, _, _, _, h⟩ => (EXs.p (P := fun xs => xs = []) evs_nil).mono' fun xs n8 ⟨e, en⟩ => ⟨e, by omega⟩) fun d ds n7 n8 ⟨b, e1, b1, b2, _⟩ ⟨e2, h⟩ => ⟨b, by rw [e1, e2], b1, b2, h⟩
      · rcases List.mem_append.mp hx with q | q
        · exact f2 x q
        · rw [List.mem_singleton.mp q]; exact hf⟩
end
end K37
end
section
set_option Elab.async false
set_option linter.all false
set_option maxRecDepth 100000
set_option maxHeartbeats 4000000
namespace K37
open PySem PySem.Spec PyProof.Rows L2
local macro_rules | `(tactic| walk_at "ev") => `(tactic| (repeat' (first
  | exact ev_p rfl | exact ev_m rfl | exact ev_l rfl | exact ev_o rfl | exact ev_pool rfl | exact ev_int | exact ev_bl | exact ev_non | exact evs_nil | exact evt_nil
  | apply evs_cons | apply evt_cons | apply ev_ix0 | apply ev_ix1 | apply ev_ix2
  | apply ev_I0 | apply ev_IB | apply ev_eqI | apply ev_neI | apply ev_neg | apply ev_abs
  | apply ev_lenT | apply ev_lenL | apply ev_lenF | apply ev_isN | apply ev_notN | apply et_test | apply et_B | apply et_not
  | apply ev_isiI | apply ev_isiB | apply ev_isiT | apply ev_chainI | apply ev_not | apply ev_max2 | apply ev_min2 | apply ev_max3 | apply ev_int1 | apply ev_sorts | apply ev_kinds | apply ev_widths | apply ev_pipes)))
abbrev s_law_parts_of_book : Stmt := topS 98
abbrev n_law_parts_of_book : List Str := ["_law_pool_here", "_law_sorts_here", "_law_pairs_here", "_law_kinds", "_law_k", "_law_joins_here", "_law_pair"]
theorem sc_law_parts_of_book : FnScope n_law_parts_of_book ["_law_pool_here"] (defScope s_law_parts_of_book) := ⟨rfl, rfl, rfl, by decide +kernel, rfl, by decide +kernel, by decide +kernel⟩

/-- a list of joins of a kind -/
structure JsOk (ss : List Fr) (js : List Jn) : Prop where
  ne : js ≠ []
  len : js.length ≤ 16
  ok : ∀ j ∈ js, JoinOk ss j
  asc : js.Pairwise ltJ
theorem JsOk.kind {ss : List Fr} {js : List Jn} {st : List Fr} (h : JsOk ss js) (hs : StOk st) : KindOk ss (st, js) := ⟨hs, h.ne, h.len, h.ok, adj h.asc⟩
structure LBk (b : Bk) : Prop where
  ss : LSorts b.ss
  len : b.ks.length ≤ 3
  ks : ∀ k ∈ b.ks, StOk k.1 ∧ JsOk b.ss k.2
theorem LBk.ok {b : Bk} (h : LBk b) : b.Ok := ⟨h.ss.so, by have := h.len; omega, fun k hk => (h.ks k hk).2.kind (h.ks k hk).1⟩
section
variable {P : Program} {w : World} {K : PySem.W.Frag} {mg : Str → Option Value} {base : Heap}
theorem exp_someM {α : Type} {m : Option (Addr × Addr)} {n : Nat} {ρ : Ev0} {tr : TA} {E : XK} {a : List α} {f : α → TD} (h : EVs K (m, n) tr ρ [.pool, .l (a.map f)]) (h1 : 0 < a.length) (h2 : a.length ≤ 1000) (hc : n + 1 ≤ LIM) : EXp K m (tCall (sp_law_some K) [] E tr) ρ n (fun x n' => ∃ d, x = .p d ∧ (∃ y, d = f y ∧ y ∈ a ∧ n' ≤ n + 1)) :=
  (exp_some h (by rw [List.length_map]; exact h1) (by rw [List.length_map]; exact h2) hc).mono fun x n' ⟨d, e, hd, hn⟩ => by
    obtain ⟨y, hy, ey⟩ := List.mem_map.mp hd
    exact ⟨d, e, y, ey.symm, hy, hn⟩
def sp_law_parts_of_book (K : PySem.W.Frag) : Sp := spP K (A := Unit) (fun _ => [.pool]) (fun _ => True) 500 (fun _ x => ∃ b : Bk, x = .p (.tup [.tup (b.ss.map eFr), .tup (b.ks.map eK)]) ∧ LBk b)
theorem ok_law_parts_of_book (G : Gp K mg) (F : Fu K mg "_law_parts_of_book" "_law_parts_of_book" "_law_parts_of_book" s_law_parts_of_book ["_law_pool_here"])
    (D_law_sorts : Df P w K mg base 3 "_law_sorts" ["_law_pool_here"] (sp_law_sorts K))
    (D_law_pairs : Df P w K mg base 1 "_law_pairs" ["_law_sorts_here"] (sp_law_pairs K))
    (D_law_some : Df P w K mg base 2 "_law_some" ["_law_pool_here", "_law_things"] (sp_law_some K))
    (D_law_draw : Df P w K mg base 1 "_law_draw" ["_law_pool_here", "_law_many"] (sp_law_draw K))
    (D_law_list : Df P w K mg base 4 "_law_list" ["_law_pool_here", "_law_sorts_here", "_law_pair"] (sp_law_list K)) : Df P w K mg base 5 "_law_parts_of_book" ["_law_pool_here"] (sp_law_parts_of_book K) := by
  exact df_mkP F sc_law_parts_of_book (fun _ => rfl) fun f cdv A' outer s H E hr => ⟨_, (pss_cons (ps_set (i := 1) sc_law_parts_of_book.nd rfl (Or.inl rfl) (pe_callD D_law_sorts hr (by decide) (by rfl) (pa_cons (pv 0) pa_nil)))
  (pss_cons (ps_set (i := 2) sc_law_parts_of_book.nd rfl (Or.inl rfl) (pe_callD D_law_pairs hr (by decide) (by rfl) (pa_cons (pv 1) pa_nil)))
  (pss_cons (ps_set (i := 3) sc_law_parts_of_book.nd rfl (Or.inl rfl) (pe_lst pa_nil))
  (pss_cons (ps_for PassesOwn.never rfl (pi_range1 (by rfl) G.n_range (pa_cons (pe_callD D_law_some hr (by decide) (by rfl) (pa_cons (pv 0) (pa_cons (pe_lst (pa_cons pe_int (pa_cons pe_int (pa_cons pe_int (pa_cons pe_int (pa_cons pe_int (pa_cons pe_int pa_nil))))))) pa_nil))) pa_nil)) (pg_name (i := 4) sc_law_parts_of_book.nd rfl (Or.inl rfl))
   (pss_cons (ps_setLc (i := 5) (own := [("_law_pair", 6)]) rfl sc_law_parts_of_book.nd rfl rfl (sw_true rfl rfl rfl (by decide +kernel)) (pi_list (pv 2)) (blkOk_by (own := [("_law_pair", 6)]) (N := n_law_parts_of_book) (sc := defScope s_law_parts_of_book) (by decide +kernel)) (fun _ _ _ _ _ => (pg_name (i := 6) sc_law_parts_of_book.nd rfl (Or.inl rfl))) (fun _ _ _ _ _ => pts_one (pt_cmpR op_eq (pe_callD D_law_draw hr (by decide) (by rfl) (pa_cons (pv 0) (pa_cons pe_int pa_nil))) pe_int (nomark _))) (fun _ _ _ _ _ => (pv 6)))
  (pss_cons (ps_if (pt_cmpR op_eq (pe_callB call_len_seq (by rfl) G.n_len bb_len (pa_cons (pv 5) pa_nil)) pe_int (nomark _))
   (pss_one (ps_set (i := 5) sc_law_parts_of_book.nd rfl (Or.inl rfl) (pe_lst (pa_cons (pe_callD D_law_some hr (by decide) (by rfl) (pa_cons (pv 0) (pa_cons (pv 2) pa_nil))) pa_nil))))
   pss_nil)
  (pss_one (ps_expr (pe_bm PySem.F.plainAttrs_list PySem.F.slot_list_append PySem.F.type_list_append mt_append (pv 3) (pa_cons (pe_tup (pa_cons (pe_callD D_law_list hr (by decide) (by rfl) (pa_cons (pv 0) (pa_cons (pv 1) (pa_cons (pe_callD D_law_some hr (by decide) (by rfl) (pa_cons (pv 0) (pa_cons (pv 5) pa_nil))) pa_nil)))) (pa_cons (pe_callTy call_tuple_of (by rfl) G.n_tuple bb_tuple (pa_cons (pv 5) pa_nil)) pa_nil))) pa_nil)))))))
  (pss_one (ps_ret (pe_tup (pa_cons (pv 1) (pa_cons (pe_callTy call_tuple_of (by rfl) G.n_tuple bb_tuple (pa_cons (pv 3) pa_nil)) pa_nil))))))))), fun m n a hc h => by
    have hc : n + 500 ≤ 1000000 := hc
    refine sxp_seq (sxp_setP (exp_sorts (evs_cons (ev_pool rfl) evs_nil) (by show n + 30 ≤ 1000000; omega)) fun d n1 ⟨ss, ed, hss, hn1⟩ => ?_)
    subst ed
    refine sxp_seqN (sx_setF (P := fun ds => ∃ js : List Jn, ds = js.map eJ ∧ PairsOk ss js) ((ex_call (xs := [.p (.tup (ss.map eFr))]) (by walk_at "ev") (so_law_pairs hss.len.2)).mono fun x ⟨js, e, h⟩ => ⟨_, e, js, rfl, h⟩) fun q1 ds ⟨js, ed, hjs⟩ => ?_)
    subst ed
    have hjl := hjs.len
    have hj0 : 0 < js.length := List.length_pos_iff.mpr (hjs.ne hss.pos)
    refine sxp_seqN (sx_setf (ev_lst evt_nil) fun q2 => ?_)
    refine sxp_seq (sxp_forX (P := fun ds n' => ∃ l : Nat, l ≤ 3 ∧ ds.length = l ∧ ds = rng 0 l ∧ n' ≤ n + 31) ((ixp_rng1 (P := fun z n' => 0 ≤ z ∧ z ≤ 3 ∧ n' ≤ n + 31) ((exp_someM (f := TD.int) (a := [1, 1, 2, 2, 3, 0]) (evs_cons (ev_pool rfl) (evs_cons (EX.fl (ev_lst (by walk_at "ev"))) evs_nil)) (by decide) (by decide) (by show n1 + 1 ≤ 1000000; omega)).mono fun x n' ⟨d, e, y, ed, hy, hn⟩ => ⟨y, by rw [e, ed], by
      simp only [List.mem_cons, List.not_mem_nil, or_false] at hy
      omega⟩) (fun z n' h => by omega)).mono fun ds n' ⟨z, ⟨h1, h2, h3⟩, e⟩ => ⟨z.toNat, by omega, by rw [e, rng_len], e, h3⟩) (fun ds i ρ' n2 => ∃ (ks : List Kind) (z4 z5 : Option Dt), ρ' = [some .pool, some (.p (.tup (ss.map eFr))), some (.m q1 (js.map eJ)), some (.m q2 (ks.map eK)), z4, z5, none] ∧ ks.length = i ∧ (∀ k ∈ ks, StOk k.1 ∧ JsOk ss k.2) ∧ n2 ≤ n + 31 + 130 * i) (fun ds n' ⟨l, _, _, _, h⟩ => ⟨[], none, none, rfl, rfl, (fun x hx => nomatch hx), by omega⟩) (fun _ _ _ _ _ => trivial) (fun ds i d ρ' n2 ⟨n', l, k1, k2, e1, k3⟩ hd ⟨ks, z4, z5, e, p1, p2, p3⟩ => ?_) fun ds ρ' n2 ⟨n', l, k1, k2, e1, k3⟩ ⟨ks, z4, z5, e, p1, p2, p3⟩ => ?_)
    · have hi : i < l := by rw [← k2]; exact (List.getElem?_eq_some_iff.mp hd).1
      subst e1
      obtain ⟨_, ed⟩ := rng_get hd
      subst e ed
      refine gx_name (sxp_seq (sxp_setF (P := fun ds n' => ∃ sub : List Jn, ds = sub.map eJ ∧ sub.Sublist js ∧ n' ≤ n2 + 16) ((exp_lc (P := fun ds n' => ds = js.map eJ ∧ n' = n2) (IX.p (wx_listM (s := 2) (a := q1) (ds := js.map eJ) rfl)) (fun ds i acc n' => ∃ sub : List Jn, acc = sub.map eJ ∧ sub.Sublist (js.take i) ∧ n' ≤ n2 + i) (fun ds n' ⟨_, e⟩ => ⟨[], rfl, List.nil_sublist _, by omega⟩) (fun ds n' ⟨e, _⟩ => by rw [e, List.length_map]; omega) (fun ds n' ⟨e, _⟩ => rfl) fun ds i2 d acc n4 ⟨n', e, _⟩ hd ⟨sub, ea, f1, f2⟩ => ?_).mono fun x n' ⟨acc, e, ds, ⟨n'', e2, _⟩, ⟨sub, ea, f1, f2⟩, _⟩ => ⟨acc, e, sub, ea, f1.trans (List.take_sublist _ _), by rw [e2, List.length_map] at f2; omega⟩) fun q3 ds n4 ⟨sub, ed, f1, hn4⟩ => ?_))
      · subst e
        obtain ⟨y, hy, ed, hm⟩ := map_get hd
        have hif : i2 < js.length := (List.getElem?_eq_some_iff.mp hy).1
        have ht : js.take (i2 + 1) = js.take i2 ++ [y] := by rw [List.take_add_one, hy]; rfl
        refine ⟨_, lg_name, fun c n' => n' ≤ n4 + 1, exp_eq0 (exp_d 3 rfl (by decide) (by decide) (by show n4 + 1 ≤ 1000000; omega)), (fun n' h => ⟨sub, ea, by rw [ht]; exact f1.trans (List.sublist_append_left _ _), by omega⟩), fun n5 hn5 => ?_⟩
        rw [ed]
        exact (EX.p (P := fun x => x = .p (eJ y)) (ev_p rfl)).mono fun x n' ⟨e, en⟩ => ⟨_, e, sub ++ [y], by rw [ea, List.map_append]; rfl, by rw [ht]; exact f1.append (.refl _), by omega⟩
      · subst ed
        refine sxp_seq (SXp.mono (P := fun o n' => ∃ (q4 : Addr) (sub : List Jn), o = .nx [some .pool, some (.p (.tup (ss.map eFr))), some (.m q1 (js.map eJ)), some (.m q2 (ks.map eK)), some (.p (.int (0 + (i : Int)))), some (.m q4 (sub.map eJ)), none] ∧ JsOk ss sub ∧ n' ≤ n2 + 17) (sxp_if (P := fun c n' => c = decide (sub.length = 0) ∧ n' = n4) ((EXT.p (et_test (ev_eqI (a := (sub.length : Int)) (b := 0) ((ev_lenL (ds := sub.map eJ) (ev_m rfl)).to (by rw [List.length_map])) ev_int))).mono fun c n' ⟨e, en⟩ => ⟨by rw [e]; exact decide_eq_decide.mpr (by omega), en⟩) (fun n5 ⟨hb, en⟩ => ?_) fun n5 ⟨hb, en⟩ => sxp_next ⟨q3, sub, rfl, ⟨fun z => by rw [z] at hb; exact absurd hb (by decide), by have := f1.length_le; omega, fun j hj => hjs.ok j (f1.subset hj), hjs.asc.sublist f1⟩, by omega⟩) fun o n5 ⟨q4, sub, e, hsub, hn5⟩ => ?_)
        · subst en
          refine sxp_setF (P := fun ds n' => ∃ j : Jn, ds = [eJ j] ∧ j ∈ js ∧ n' ≤ n5 + 1) (exp_lst (extp_cons (P1 := fun d n' => ∃ j : Jn, d = eJ j ∧ j ∈ js ∧ n' ≤ n5 + 1) (P2 := fun ds n' => ds = [] ∧ n' ≤ n5 + 1) (exp_someM (f := eJ) (a := js) (evs_cons (ev_pool rfl) (evs_cons (ev_m rfl) evs_nil)) hj0 (by omega) (by show n5 + 1 ≤ 1000000; omega)) (fun d n6 ⟨_, _, _, h⟩ => (EXt.p (P := fun xs => xs = []) evt_nil).mono' fun xs n8 ⟨e, en⟩ => ⟨e, by omega⟩) fun d ds n6 n7 ⟨j, e1, h1, _⟩ ⟨e2, h2⟩ => ⟨j, by rw [e1, e2], h1, h2⟩) fun ds n6 ⟨j, e, _⟩ => by rw [e]; show 1 ≤ 1000; decide) fun q4 ds n6 ⟨j, ed, hj, hn6⟩ => ?_
          subst ed
          exact ⟨q4, [j], rfl, ⟨by simp, by show 1 ≤ 16; decide, fun x hx => by rw [List.mem_singleton.mp hx]; exact hjs.ok j hj, List.pairwise_singleton ..⟩, by omega⟩
        · subst e
          have hsl := hsub.len
          have hs0 : 0 < sub.length := List.length_pos_iff.mpr hsub.ne
          refine sxp_append (a := q2) (ds := ks.map eK) (P := fun d n' => ∃ st, d = eK (st, sub) ∧ StOk st ∧ n' ≤ n2 + 118) rfl ((exp_tup (P := fun ds n' => ∃ st, ds = [eSt st, .tup (sub.map eJ)] ∧ StOk st ∧ n' ≤ n2 + 118) (extp_cons (P1 := fun d n' => ∃ st, d = eSt st ∧ StOk st ∧ n' ≤ n2 + 118) (P2 := fun ds n' => ds = [.tup (sub.map eJ)] ∧ n' ≤ n2 + 118) ?_ (fun d n6 ⟨_, _, _, h⟩ => (EXt.p (P := fun xs => xs = [.tup (sub.map eJ)]) (evt_cons (ev_tupL (ds := sub.map eJ) (ev_m rfl)) evt_nil)).mono' fun xs n8 ⟨e, en⟩ => ⟨e, by omega⟩) fun d ds n6 n7 ⟨st, e1, h1, _⟩ ⟨e2, h2⟩ => ⟨st, by rw [e1, e2], h1, h2⟩) fun ds n6 ⟨j, e, _⟩ => by rw [e]; show 2 ≤ 1000; decide).mono fun x n' ⟨ds, e, st, ed, h⟩ => ⟨_, e, st, by rw [ed], h⟩) (by rw [List.length_map]; omega) fun d n6 ⟨st, ed, hst, hn6⟩ => ?_
          · refine exp_callAP (P := fun xs n' => ∃ j : Jn, xs = [.pool, .p (.tup (ss.map eFr)), .p (eJ j)] ∧ j ∈ sub ∧ n' ≤ n5 + 1) (exsp_cons (P1 := fun x n' => x = .pool ∧ n' = n5) (P2 := fun xs n' => ∃ j : Jn, xs = [.p (.tup (ss.map eFr)), .p (eJ j)] ∧ j ∈ sub ∧ n' ≤ n5 + 1) (EX.p (ev_pool rfl)) (fun x n6 ⟨_, en⟩ => ?_) fun d ds n6 n7 ⟨e1, _⟩ ⟨j, e2, h⟩ => ⟨j, by rw [e1, e2], h⟩) (fun xs n6 ⟨j, e, hj, hn6⟩ => ⟨(ss, j), e, ⟨hsub.ok j hj, hss.ok⟩, by show n6 + 100 ≤ 1000000; omega, fun x n7 ⟨st, e, h⟩ hn => ⟨_, e, st, rfl, h, by omega⟩⟩) fun xs n6 ⟨j, e, _⟩ => by rw [e]; rfl
            subst en
            refine exsp_cons (P1 := fun x n' => x = .p (.tup (ss.map eFr)) ∧ n' = n6) (P2 := fun xs n' => ∃ j : Jn, xs = [.p (eJ j)] ∧ j ∈ sub ∧ n' ≤ n6 + 1) (EX.p (ev_p rfl)) (fun x n7 ⟨_, en⟩ => ?_) fun d ds n7 n8 ⟨e1, _⟩ ⟨j, e2, h⟩ => ⟨j, by rw [e1, e2], h⟩
            subst en
            exact exsp_cons (P1 := fun x n' => ∃ j : Jn, x = .p (eJ j) ∧ j ∈ sub ∧ n' ≤ n7 + 1) (P2 := fun xs n' => xs = [] ∧ n' ≤ n7 + 1) ((exp_someM (f := eJ) (a := sub) (evs_cons (ev_pool rfl) (evs_cons (ev_m rfl) evs_nil)) hs0 (by omega) (by show n7 + 1 ≤ 1000000; omega)).mono fun x n' ⟨d, e, j, ed, h⟩ => ⟨j, by rw [e, ed], h⟩) (fun x n8 ⟨_, _, _, h⟩ => (EXs.p (P := fun xs => xs = []) evs_nil).mono' fun xs n9 ⟨e, en⟩ => ⟨e, by omega⟩) fun d ds n8 n9 ⟨j, e1, h1, _⟩ ⟨e2, h2⟩ => ⟨j, by rw [e1, e2], h1, h2⟩
          · subst ed
            refine ⟨ks ++ [(st, sub)], _, _, by rw [List.map_append]; rfl, by rw [List.length_append, List.length_singleton, p1], fun k hk => ?_, by omega⟩
            rcases List.mem_append.mp hk with q | q
            · exact p2 k q
            · rw [List.mem_singleton.mp q]; exact ⟨hst, hsub⟩
    · subst e
      rw [k2] at p1 p3
      exact sxp_of (sx_retV (ev_tup (evt_cons (by walk_at "ev") (evt_cons (ev_tupL (ds := ks.map eK) (ev_m rfl)) evt_nil))) ⟨⟨⟨ss, ks⟩, rfl, hss, by show ks.length ≤ 3; omega, p2⟩, by show n2 ≤ n + 500; omega⟩)⟩
end
end K37
end
section
set_option Elab.async false
set_option linter.all false
set_option maxRecDepth 100000
set_option maxHeartbeats 4000000
namespace K37
open PySem PySem.Spec PyProof.Rows L2
local macro_rules | `(tactic| walk_at "ev") => `(tactic| (repeat' (first
  | exact ev_p rfl | exact ev_m rfl | exact ev_l rfl | exact ev_o rfl | exact ev_pool rfl | exact ev_int | exact ev_bl | exact ev_non | exact evs_nil | exact evt_nil
  | apply evs_cons | apply evt_cons | apply ev_ix0 | apply ev_ix1 | apply ev_ix2
  | apply ev_I0 | apply ev_IB | apply ev_eqI | apply ev_neI | apply ev_neg | apply ev_abs
  | apply ev_lenT | apply ev_lenL | apply ev_lenF | apply ev_isN | apply ev_notN | apply et_test | apply et_B | apply et_not
  | apply ev_isiI | apply ev_isiB | apply ev_isiT | apply ev_chainI | apply ev_not | apply ev_max2 | apply ev_min2 | apply ev_max3 | apply ev_int1 | apply ev_sorts | apply ev_kinds | apply ev_widths | apply ev_pipes)))
abbrev s_law_web : Stmt := topS 99
abbrev n_law_web : List Str := ["_law_pool_here", "_law_sorts_here", "_law_kinds", "_law_most", "_law_vessels", "_law_k", "_law_left", "_law_sort", "_law_pipes", "_law_turn", "_law_one", "_law_other", "_law_fits", "_law_pair", "_law_steps", "_law_joins_here"]
theorem sc_law_web : FnScope n_law_web ["_law_pool_here", "_law_sorts_here", "_law_kinds", "_law_most"] (defScope s_law_web) := ⟨rfl, rfl, rfl, by decide +kernel, rfl, by decide +kernel, by decide +kernel⟩

theorem add_get {L : List Int} {i v : Nat} {l d : Int} (h : L[v]? = some l) : (L.set i (L.getD i 0 + d))[v]? = some (if i = v then l + d else l) := by
  rw [List.getElem?_set]
  have hv := (List.getElem?_eq_some_iff.mp h).1
  by_cases e : i = v
  · subst e
    rw [if_pos rfl, if_pos rfl, if_pos hv, List.getD_eq_getElem?_getD, h]
    rfl
  · rw [if_neg e, if_neg e, h]
def dec (L : List Int) (i : Nat) : List Int := L.set i (L.getD i 0 - 1)
theorem dec_get {L : List Int} {i v : Nat} {l : Int} (h : L[v]? = some l) : (dec L i)[v]? = some (if i = v then l - 1 else l) := add_get (d := -1) h
theorem inc_get {L : List Int} {i v : Nat} {l : Int} (h : L[v]? = some l) : (inc L i)[v]? = some (if i = v then l + 1 else l) := add_get (d := 1) h
theorem dec_len (L : List Int) (i : Nat) : (dec L i).length = L.length := List.length_set
structure WebP (b : Bk) (vs : List Nat) (ps : List Pipe) (L : List Int) : Prop where
  llen : L.length = vs.length
  plen : ps.length ≤ 12
  pok : ∀ p ∈ ps, p.1.1 < p.1.2 ∧ p.1.2 < vs.length ∧ StOk p.2 ∧ ∃ i j : Nat, vs[p.1.1]? = some i ∧ vs[p.1.2]? = some j ∧ mayJoin b p.2 i j = true
  cap : ∀ (v s : Nat) (c : Fr), vs[v]? = some s → b.ss[s]? = some c → ∃ l k : Int, L[v]? = some l ∧ (pipesAt vs.length ps)[v]? = some k ∧ l + k = c.2 ∧ (0 < c.1 → 0 ≤ l)
theorem WebP.add {b : Bk} {vs : List Nat} {ps : List Pipe} {L : List Int} (h : WebP b vs ps L) {o t i j : Nat} {st : List Fr} (h1 : o < t) (h2 : t < vs.length) (hi : vs[o]? = some i) (hj : vs[t]? = some j) (hs : StOk st) (hm : mayJoin b st i j = true)
    (c1 : 0 < L.getD o 0 ∨ (ssAt b.ss i).1 = 0) (c2 : 0 < L.getD t 0 ∨ (ssAt b.ss j).1 = 0) (hl : ps.length < 12) : WebP b vs (ps ++ [((o, t), st)]) (dec (dec L o) t) := by
  refine ⟨by rw [dec_len, dec_len]; exact h.llen, by rw [List.length_append, List.length_singleton]; omega, fun p hp => ?_, fun v s c hv hc => ?_⟩
  · rcases List.mem_append.mp hp with q | q
    · exact h.pok p q
    · rw [List.mem_singleton.mp q]; exact ⟨h1, h2, hs, i, j, hi, hj, hm⟩
  · obtain ⟨l, k, hL, hP, e, hn⟩ := h.cap v s c hv hc
    have e2 : pipesAt vs.length (ps ++ [((o, t), st)]) = inc (inc (pipesAt vs.length ps) o) t := by
      unfold pipesAt
      rw [List.foldl_append]
      rfl
    refine ⟨_, _, dec_get (dec_get hL), by rw [e2]; exact inc_get (inc_get hP), ?_, fun hp => ?_⟩
    · split <;> split <;> omega
    · have hn := hn hp
      have g1 : o = v → 0 < l := fun e => by
        subst e
        rw [hi] at hv
        cases hv
        rw [ssAt_of hc] at c1
        rw [List.getD_eq_getElem?_getD, hL] at c1
        rcases c1 with q | q
        · exact q
        · omega
      have g2 : t = v → 0 < l := fun e => by
        subst e
        rw [hj] at hv
        cases hv
        rw [ssAt_of hc] at c2
        rw [List.getD_eq_getElem?_getD, hL] at c2
        rcases c2 with q | q
        · exact q
        · omega
      split <;> split <;> omega
/-- a web drawn of a book -/
structure LWeb (b : Bk) (vs : List Nat) (ps : List Pipe) : Prop where
  len : 2 ≤ vs.length ∧ vs.length ≤ 5
  vok : ∀ v ∈ vs, v < b.ss.length
  ex : ∃ L, WebP b vs ps L
section
variable {P : Program} {w : World} {K : PySem.W.Frag} {mg : Str → Option Value} {base : Heap}
theorem pair_sort {ms : List Int} {a b : Nat} (h : ms.Perm [(a : Int), (b : Int)]) (hs : ms.Pairwise (· ≤ ·)) : ms = [((min a b : Nat) : Int), ((max a b : Nat) : Int)] := by
  have hl := h.length_eq
  match ms, hl with
  | [x, y], _ =>
    have h1 := h.mem_iff (a := x)
    have h2 := h.mem_iff (a := y)
    have h3 := h.mem_iff (a := (a : Int))
    have h4 := h.mem_iff (a := (b : Int))
    have hxy : x ≤ y := (List.pairwise_cons.mp hs).1 y (List.mem_singleton.mpr rfl)
    simp only [List.mem_cons, List.not_mem_nil, or_false, true_or, or_true, true_iff, iff_true] at h1 h2 h3 h4
    rw [show x = ((min a b : Nat) : Int) by omega, show y = ((max a b : Nat) : Int) by omega]
theorem ev_pairS {M : PM} {ρ : Ev0} {ta tb : TE} {a b : Nat} (h1 : EV K M ta ρ (iD (a : Int))) (h2 : EV K M tb ρ (iD (b : Int))) : EV K M (tCB (rTupOf K) (tCons (tCB (rSorted K) (tCons (tLst (tCons ta (tCons tb tNil))) tNil)) tNil)) ρ (.p (eJ (min a b, max a b))) :=
  (ex_tupOf (P := fun ds => ds = [.int ((min a b : Nat) : Int), .int ((max a b : Nat) : Int)]) ((ex_sortedI (ns := [(a : Int), (b : Int)]) (EX.fl (ev_lst (evt_cons h1 (evt_cons h2 evt_nil)))) (by show 2 < 64; decide)).mono fun x ⟨ms, e, p, s⟩ => ⟨_, .inr e, by rw [pair_sort p s]; rfl⟩)).mono fun x ⟨ds, e, ed⟩ => by rw [e, ed]
def sp_law_web (K : PySem.W.Frag) : Sp := spP K (A := Bk) (fun b => [.pool, .p (.tup (b.ss.map eFr)), .p (.tup (b.ks.map eK)), iD 5]) LBk 100 (fun b x => ∃ (vs : List Nat) (ps : List Pipe), x = .p (.tup [eNs vs, .tup (ps.map eP)]) ∧ LWeb b vs ps)
theorem ok_law_web (G : Gp K mg) (F : Fu K mg "_law_web" "_law_web" "_law_web" s_law_web ["_law_pool_here", "_law_sorts_here", "_law_kinds", "_law_most"])
    (D_law_draw : Df P w K mg base 1 "_law_draw" ["_law_pool_here", "_law_many"] (sp_law_draw K))
    (D_law_some : Df P w K mg base 2 "_law_some" ["_law_pool_here", "_law_things"] (sp_law_some K)) : Df P w K mg base 3 "_law_web" ["_law_pool_here", "_law_sorts_here", "_law_kinds", "_law_most"] (sp_law_web K) := by
  exact df_mkP F sc_law_web (fun _ => rfl) fun f cdv A' outer s H E hr => ⟨_, (pss_cons (ps_setLc (i := 4) (own := [("_law_k", 5)]) rfl sc_law_web.nd rfl rfl (sw_true rfl rfl rfl (by decide +kernel)) (pi_range1 (by rfl) G.n_range (pa_cons (pe_op op_add pe_int (pe_callD D_law_draw hr (by decide) (by rfl) (pa_cons (pv 0) (pa_cons (pe_op op_sub (pv 3) pe_int) pa_nil)))) pa_nil)) (blkOk_by (own := [("_law_k", 5)]) (N := n_law_web) (sc := defScope s_law_web) (by decide +kernel)) (fun _ _ _ _ _ => (pg_name (i := 5) sc_law_web.nd rfl (Or.inl rfl))) (fun _ _ _ _ _ => pts_nil) (fun _ _ _ _ _ => (pe_callD D_law_draw hr (by decide) (by rfl) (pa_cons (pv 0) (pa_cons (pe_callB (call_len_seqK K) (by rfl) G.n_len bb_len (pa_cons (pv 1) pa_nil)) pa_nil)))))
  (pss_cons (ps_setLc (i := 6) (own := [("_law_sort", 7)]) rfl sc_law_web.nd rfl rfl (sw_true rfl rfl rfl (by decide +kernel)) (pi_list (pv 4)) (blkOk_by (own := [("_law_sort", 7)]) (N := n_law_web) (sc := defScope s_law_web) (by decide +kernel)) (fun _ _ _ _ _ => (pg_name (i := 7) sc_law_web.nd rfl (Or.inl rfl))) (fun _ _ _ _ _ => pts_nil) (fun _ _ _ _ _ => (pe_ix (ix_tupK K) (pe_ix (ix_tupK K) (pv 1) (pv 7) (fun _ _ => rfl)) pe_int (fun _ _ => rfl))))
  (pss_cons (ps_set (i := 8) sc_law_web.nd rfl (Or.inl rfl) (pe_lst pa_nil))
  (pss_cons (ps_for PassesOwn.never rfl (pi_range1 (by rfl) G.n_range (pa_cons (pe_op op_add pe_int (pe_op op_mulW pe_int (pe_callD D_law_draw hr (by decide) (by rfl) (pa_cons (pv 0) (pa_cons (pv 3) pa_nil))))) pa_nil)) (pg_name (i := 9) sc_law_web.nd rfl (Or.inl rfl))
   (pss_cons (ps_set (i := 10) sc_law_web.nd rfl (Or.inl rfl) (pe_callD D_law_draw hr (by decide) (by rfl) (pa_cons (pv 0) (pa_cons (pe_op op_sub (pe_callB call_len_seq (by rfl) G.n_len bb_len (pa_cons (pv 4) pa_nil)) pe_int) pa_nil))))
  (pss_cons (ps_set (i := 11) sc_law_web.nd rfl (Or.inl rfl) (pe_op op_add (pe_op op_add (pv 10) pe_int) (pe_callD D_law_draw hr (by decide) (by rfl) (pa_cons (pv 0) (pa_cons (pe_op op_sub (pe_op op_sub (pe_callB call_len_seq (by rfl) G.n_len bb_len (pa_cons (pv 4) pa_nil)) pe_int) (pv 10)) pa_nil)))))
  (pss_cons (ps_set (i := 12) sc_law_web.nd rfl (Or.inl rfl) (pe_lst pa_nil))
  (pss_cons (ps_set (i := 13) sc_law_web.nd rfl (Or.inl rfl) (pe_callTy call_tuple_of (by rfl) G.n_tuple bb_tuple (pa_cons (pe_callB cr_sorted (by rfl) G.n_sorted bb_sorted (pa_cons (pe_lst (pa_cons (pe_ix ix_list (pv 4) (pv 10) (fun _ _ => rfl)) (pa_cons (pe_ix ix_list (pv 4) (pv 11) (fun _ _ => rfl)) pa_nil))) pa_nil)) pa_nil)))
  (pss_cons (ps_for PassesOwn.never rfl (pi_tup (pv 2)) (pg_tup rfl (pgs_cons (pg_name (i := 14) sc_law_web.nd rfl (Or.inl rfl)) (pgs_cons (pg_name (i := 15) sc_law_web.nd rfl (Or.inl rfl)) pgs_nil)))
   (pss_one (ps_if (PW.pt (pw_and (pt_cmpR (op_inT (hu65 hr)) (pv 13) (pv 15) (by rfl)) (pw_and1 (PW.pt (pw_or (pt_cmpR op_gt (pe_ix ix_list (pv 6) (pv 10) (fun _ _ => rfl)) pe_int (nomark _)) (pw_or1 (pt_cmpR op_eq (pe_ix ix_tup (pe_ix ix_tup (pv 1) (pe_ix ix_list (pv 4) (pv 10) (fun _ _ => rfl)) (fun _ _ => rfl)) pe_int (fun _ _ => rfl)) pe_int (nomark _))))))))
   (pss_one (ps_if (PW.pt (pw_or (pt_cmpR op_gt (pe_ix ix_list (pv 6) (pv 11) (fun _ _ => rfl)) pe_int (nomark _)) (pw_or1 (pt_cmpR op_eq (pe_ix ix_tup (pe_ix ix_tup (pv 1) (pe_ix ix_list (pv 4) (pv 11) (fun _ _ => rfl)) (fun _ _ => rfl)) pe_int (fun _ _ => rfl)) pe_int (nomark _)))))
   (pss_one (ps_expr (pe_bm PySem.F.plainAttrs_list PySem.F.slot_list_append PySem.F.type_list_append mt_append (pv 12) (pa_cons (pv 14) pa_nil))))
   pss_nil))
   pss_nil)))
  (pss_one (ps_if (PW.pt (pw_and (pt_cmpR op_gt (pe_callB call_len_seq (by rfl) G.n_len bb_len (pa_cons (pv 12) pa_nil)) pe_int (nomark _)) (pw_and1 (pt_cmpR op_lt (pe_callB call_len_seq (by rfl) G.n_len bb_len (pa_cons (pv 8) pa_nil)) pe_int (nomark _)))))
   (pss_cons (ps_expr (pe_bm PySem.F.plainAttrs_list PySem.F.slot_list_append PySem.F.type_list_append mt_append (pv 8) (pa_cons (pe_tup (pa_cons (pv 10) (pa_cons (pv 11) (pa_cons (pe_callD D_law_some hr (by decide) (by rfl) (pa_cons (pv 0) (pa_cons (pv 12) pa_nil))) pa_nil)))) pa_nil)))
  (pss_cons (ps_asg (pe_op op_sub (pe_ix ix_list (pv 6) (pv 10) (fun _ _ => rfl)) pe_int) (pg_sub (pv 6) (pv 10) set_list))
  (pss_one (ps_asg (pe_op op_sub (pe_ix ix_list (pv 6) (pv 11) (fun _ _ => rfl)) pe_int) (pg_sub (pv 6) (pv 11) set_list)))))
   pss_nil))))))))
  (pss_one (ps_ret (pe_tup (pa_cons (pe_callTy call_tuple_of (by rfl) G.n_tuple bb_tuple (pa_cons (pv 4) pa_nil)) (pa_cons (pe_callTy call_tuple_of (by rfl) G.n_tuple bb_tuple (pa_cons (pv 8) pa_nil)) pa_nil))))))))), fun m n a hc h => by
    have hc : n + 100 ≤ 1000000 := hc
    have hB : LBk a := h
    obtain ⟨l1, l4⟩ := h.ss.len
    have hks := h.len
    refine sxp_seq (sxp_setF (P := fun ds n' => ∃ vs : List Nat, ds = vs.map eN ∧ 2 ≤ vs.length ∧ vs.length ≤ 5 ∧ (∀ v ∈ vs, v < a.ss.length) ∧ n' ≤ n + 6) ((exp_lc (P := fun ds n' => ∃ l : Nat, 2 ≤ l ∧ l ≤ 5 ∧ ds.length = l ∧ n' ≤ n + 1) ((ixp_rng1 (exp_1p (k := 2) (b := 4) (exp_draw (a := 4) (evs_cons (ev_pool rfl) (evs_cons (EV.to (ev_I0 (a := 5) (b := 1) (ev_p rfl) ev_int) rfl) evs_nil)) (by decide) (by decide) (by show n + 1 ≤ 1000000; omega))) (fun z n' ⟨h1, h2, _⟩ => by omega)).mono fun ds n' ⟨z, ⟨h1, h2, h3⟩, e⟩ => ⟨z.toNat, by omega, by omega, by rw [e, rng_len], h3⟩) (fun ds i acc n' => ∃ vs : List Nat, acc = vs.map eN ∧ vs.length = i ∧ (∀ v ∈ vs, v < a.ss.length) ∧ n' ≤ n + 1 + i) (fun ds n' ⟨l, _, _, _, h⟩ => ⟨[], rfl, rfl, (fun x hx => nomatch hx), by omega⟩) (fun ds n' ⟨l, _, h2, h3, _⟩ => by omega) (fun _ _ _ => trivial) fun ds i d acc n2 ⟨n', l, h1, h2, h3, _⟩ hd ⟨vs, ea, f1, f2, f3⟩ => ?_).mono fun x n' ⟨acc, e, ds, ⟨n'', l, h1, h2, h3, _⟩, ⟨vs, ea, f1, f2, f3⟩, _⟩ => ⟨acc, e, vs, ea, by omega, by omega, f2, by omega⟩) fun q4 ds n1 ⟨vs, ed, v1, v2, v3, hn1⟩ => ?_)
    · have hi : i < l := by rw [← h3]; exact (List.getElem?_eq_some_iff.mp hd).1
      refine ⟨_, lg_name, fun c n' => c = true ∧ n' = n2, EXT.p ext_yes, (fun n' ⟨z, _⟩ => nomatch z), fun n5 ⟨_, en⟩ => ?_⟩
      subst en
      refine (exp_draw (a := a.ss.length) (evs_cons (ev_pool rfl) (evs_cons ((ev_lenT (ds := a.ss.map eFr) (ev_p rfl)).to (by rw [List.length_map])) evs_nil)) (by omega) (by omega) (by show n5 + 1 ≤ 1000000; omega)).mono fun x n6 ⟨z, e, z1, z2, hn⟩ => ⟨.int z, e, vs ++ [z.toNat], ?_, by rw [List.length_append, List.length_singleton, f1], fun v hv => ?_, by omega⟩
      · rw [ea, List.map_append]
        show _ = vs.map eN ++ [TD.int ((z.toNat : Nat) : Int)]
        rw [Int.toNat_of_nonneg z1]
      · rcases List.mem_append.mp hv with q | q
        · exact f2 v q
        · rw [List.mem_singleton.mp q]; omega
    · subst ed
      refine sxp_seqN (sx_setf (ev_lcMap (xs := vs) (enc := eN) (h := fun v => .int (ssAt a.ss v).2) (wx_listM (s := 4) (a := q4) (ds := vs.map eN) rfl) rfl (by omega) fun v hv => ev_ix1 (ev_ixM (f := eFr) (x := ssAt a.ss v) (n := v) (by walk_at "ev") (by walk_at "ev") (ssAt_get (v3 v hv)))) fun q6 => ?_)
      refine sxp_seqN (sx_setf (ev_lst evt_nil) fun q8 => ?_)
      refine sxp_seq (sxp_forX (P := fun ds n' => ∃ l : Nat, l ≤ 19 ∧ ds.length = l ∧ ds = rng 0 l ∧ n' ≤ n + 7) ((ixp_rng1 (P := fun z n' => 0 ≤ z ∧ z ≤ 19 ∧ n' ≤ n + 7) (exp_I0 (P1 := fun z n' => z = 3 ∧ n' = n1) (P2 := fun z n' => 0 ≤ z ∧ z ≤ 16 ∧ n' ≤ n + 7) (P := fun z n' => 0 ≤ z ∧ z ≤ 19 ∧ n' ≤ n + 7) (exp_i ev_int) (fun z n' ⟨_, en⟩ => ?_) fun x y n2 n3 ⟨ex, _⟩ ⟨y1, y2, y3⟩ => by subst ex; exact ⟨by (try dsimp only); omega, by (try dsimp only); omega, y3⟩) (fun z n' h => by omega)).mono fun ds n' ⟨z, ⟨h1, h2, h3⟩, e⟩ => ⟨z.toNat, by omega, by rw [e, rng_len], e, h3⟩) (fun ds i ρ' n2 => ∃ (ps : List Pipe) (L : List Int) (z9 z10 z11 z12 z13 z14 z15 : Option Dt), ρ' = [some .pool, some (.p (.tup (a.ss.map eFr))), some (.p (.tup (a.ks.map eK))), some (iD 5), some (.m q4 (vs.map eN)), none, some (.m q6 (L.map .int)), none, some (.m q8 (ps.map eP)), z9, z10, z11, z12, z13, z14, z15] ∧ WebP a vs ps L ∧ n2 ≤ n + 7 + 3 * i) (fun ds n' ⟨l, _, _, _, h⟩ => ⟨[], vs.map fun v => (ssAt a.ss v).2, none, none, none, none, none, none, none, by rw [List.map_map]; rfl, ?_, by omega⟩) (fun _ _ _ _ _ => trivial) (fun ds i d ρ' n2 ⟨n', l, k1, k2, e1, k3⟩ hd ⟨ps, L, z9, z10, z11, z12, z13, z14, z15, e, W, p3⟩ => ?_) fun ds ρ' n2 ⟨n', l, k1, k2, e1, k3⟩ ⟨ps, L, z9, z10, z11, z12, z13, z14, z15, e, W, p3⟩ => ?_)
      · subst en
        exact exp_I (P1 := fun z n2 => z = 4 ∧ n2 = n') (P2 := fun z n2 => 0 ≤ z ∧ z < 5 ∧ n2 ≤ n + 7) (exp_i ev_int) (fun z n2 ⟨_, en⟩ => by subst en; exact (exp_draw (a := 5) (evs_cons (ev_pool rfl) (evs_cons (ev_p rfl) evs_nil)) (by decide) (by decide) (by show n2 + 1 ≤ 1000000; omega)).mono fun x n3 ⟨i, e, h1, h2, h3⟩ => ⟨i, e, h1, h2, by omega⟩) fun x y n2 n3 ⟨ex, _⟩ ⟨y1, y2, y3⟩ => by subst ex; exact ⟨Sm.mulOk (.of (by decide)) (.of (by omega)), by (try dsimp only); omega, by (try dsimp only); omega, y3⟩
      · refine ⟨List.length_map .., Nat.zero_le _, (fun p hp => nomatch hp), fun v s c hv hs => ?_⟩
        have hv2 := (List.getElem?_eq_some_iff.mp hv).1
        refine ⟨c.2, 0, by rw [List.getElem?_map, hv, ← ssAt_of hs]; rfl, ?_, by omega, fun _ => ?_⟩
        · show (List.replicate vs.length (0 : Int))[v]? = some 0
          rw [List.getElem?_replicate, if_pos hv2]
        · have := (hB.ss.ok c (List.mem_of_getElem? hs)).2.1
          omega
      · have hi : i < l := by rw [← k2]; exact (List.getElem?_eq_some_iff.mp hd).1
        subst e1
        obtain ⟨_, ed⟩ := rng_get hd
        subst e ed
        have hL := W.llen
        have hpl := W.plen
        refine gx_name (sxp_seq (sxp_setP (P := fun d n' => ∃ o : Nat, d = eN o ∧ o + 1 < vs.length ∧ n' ≤ n2 + 1) ((exp_draw (a := vs.length - 1) (evs_cons (ev_pool rfl) (evs_cons (EV.to (ev_I0 (a := (vs.length : Int)) (b := 1) ((ev_lenL (ds := vs.map eN) (ev_m rfl)).to (by rw [List.length_map])) ev_int) (congrArg iD (by omega))) evs_nil)) (by omega) (by omega) (by show n2 + 1 ≤ 1000000; omega)).mono fun x n' ⟨z, e, h1, h2, h3⟩ => ⟨_, e, z.toNat, by show TD.int z = TD.int ((z.toNat : Nat) : Int); rw [Int.toNat_of_nonneg h1], by omega, h3⟩) fun d n3 ⟨o, ed, ho, hn3⟩ => ?_))
        subst ed
        refine sxp_seq (sxp_setP (P := fun d n' => ∃ t : Nat, d = eN t ∧ o < t ∧ t < vs.length ∧ n' ≤ n2 + 2) ((exp_I0 (P1 := fun z n' => z = (o : Int) + 1 ∧ n' = n3) (P2 := fun z n' => 0 ≤ z ∧ z < ((vs.length - 1 - o : Nat) : Int) ∧ n' ≤ n2 + 2) (P := fun z n' => (o : Int) < z ∧ z < (vs.length : Int) ∧ n' ≤ n2 + 2) ((EX.p (ev_I0 (a := (o : Int)) (b := 1) (ev_p rfl) ev_int)).mono fun x n' ⟨e, en⟩ => ⟨_, e, rfl, en⟩) (fun z n' ⟨_, en⟩ => by
          subst en
          exact (exp_draw (a := vs.length - 1 - o) (evs_cons (ev_pool rfl) (evs_cons (EV.to (ev_I0 (a := (vs.length : Int) - 1) (b := (o : Int)) (ev_I0 (a := (vs.length : Int)) (b := 1) ((ev_lenL (ds := vs.map eN) (ev_m rfl)).to (by rw [List.length_map])) ev_int) (ev_p rfl)) (congrArg iD (by omega))) evs_nil)) (by omega) (by omega) (by show n' + 1 ≤ 1000000; omega)).mono fun x n4 ⟨i, e, h1, h2, h3⟩ => ⟨i, e, h1, h2, by omega⟩) fun x y n4 n5 ⟨ex, _⟩ ⟨y1, y2, y3⟩ => by subst ex; exact ⟨by (try dsimp only); omega, by (try dsimp only); omega, y3⟩).mono fun x n' ⟨z, e, h1, h2, h3⟩ => ⟨_, e, z.toNat, by show TD.int z = TD.int ((z.toNat : Nat) : Int); rw [Int.toNat_of_nonneg (by omega)], by omega, by omega, h3⟩) fun d n4 ⟨t, ed, ht1, ht2, hn4⟩ => ?_)
        subst ed
        obtain ⟨i1, hi1⟩ : ∃ i1, vs[o]? = some i1 := ⟨_, List.getElem?_eq_getElem (by omega)⟩
        obtain ⟨j1, hj1⟩ : ∃ j1, vs[t]? = some j1 := ⟨_, List.getElem?_eq_getElem (by omega)⟩
        have gi := ssAt_get (v3 i1 (List.mem_of_getElem? hi1))
        have gj := ssAt_get (v3 j1 (List.mem_of_getElem? hj1))
        refine sxp_seqN (sx_setf (ev_lst evt_nil) fun q12 => ?_)
        refine sxp_seqN (sx_set (d := eJ (min i1 j1, max i1 j1)) (ev_pairS (ev_ixL (ds := vs.map eN) (ev_m rfl) (ev_p rfl) o rfl (get_map (f := eN) hi1)) (ev_ixL (ds := vs.map eN) (ev_m rfl) (ev_p rfl) t rfl (get_map (f := eN) hj1))) ?_)
        have eLo := get_map (f := TD.int) (getD_of (xs := L) (i := o) (by omega))
        have eLt := get_map (f := TD.int) (getD_of (xs := L) (i := t) (by omega))
        refine sxp_seqN (sx_for (wx_tupV (ds := a.ks.map eK) (ev_p rfl)) (fun i2 ρ' => ∃ (fs : List (List Fr)) (z14 z15 : Option Dt), ρ' = [some .pool, some (.p (.tup (a.ss.map eFr))), some (.p (.tup (a.ks.map eK))), some (iD 5), some (.m q4 (vs.map eN)), none, some (.m q6 (L.map .int)), none, some (.m q8 (ps.map eP)), some (.p (.int (0 + (i : Int)))), some (.p (eN o)), some (.p (eN t)), some (.m q12 (fs.map eSt)), some (.p (eJ (min i1 j1, max i1 j1))), z14, z15] ∧ (∀ st ∈ fs, StOk st ∧ mayJoin a st i1 j1 = true ∧ (0 < L.getD o 0 ∨ (ssAt a.ss i1).1 = 0) ∧ (0 < L.getD t 0 ∨ (ssAt a.ss j1).1 = 0)) ∧ fs.length ≤ i2) ⟨[], z14, z15, rfl, (fun x hx => nomatch hx), Nat.le_refl _⟩ (fun _ _ _ => trivial) (fun i2 d ρ' hd ⟨fs, z14, z15, e, f1, f2⟩ => ?_) fun ρ' ⟨fs, z14, z15, e, f1, f2⟩ => ?_)
        · obtain ⟨⟨st, js⟩, hk, ed, hm⟩ := map_get hd
          subst e ed
          have hk2 := hB.ks _ hm
          have hi2 : i2 < a.ks.length := (List.getElem?_eq_some_iff.mp hk).1
          refine gx_tup2 (gx_name (gx_name (sx_ifB (b := decide ((min i1 j1, max i1 j1) ∈ js) && (decide (L.getD o 0 > 0) || decide ((ssAt a.ss i1).1 = 0))) (et_and ((et_test (ev_inT (a := eJ (min i1 j1, max i1 j1)) (ds := js.map eJ) (ev_p rfl) (ev_p rfl) (Nat.le_trans (enc_j.dep _) (by decide)) (Nat.lt_of_le_of_lt (deps_le enc_j.dep js) (by decide)))).to ?_) fun _ => et_or (et_test (ev_IB (a := L.getD o 0) (b := 0) (ev_ixL (ds := L.map .int) (ev_m rfl) (ev_p rfl) o rfl eLo) ev_int)) fun _ => et_test (ev_eqI (a := (ssAt a.ss i1).1) (b := 0) (ev_ix0 (ev_ixM (f := eFr) (x := ssAt a.ss i1) (n := i1) (by walk_at "ev") (ev_ixL (ds := vs.map eN) (ev_m rfl) (ev_p rfl) o rfl (get_map (f := eN) hi1)) gi)) ev_int)) (fun hb => ?_) fun hb => sx_next ⟨fs, _, _, rfl, f1, by omega⟩)))
          · rw [any_enc enc_j]; exact decide_eq_decide.mpr Iff.rfl
          · refine sx_ifB (b := decide (L.getD t 0 > 0) || decide ((ssAt a.ss j1).1 = 0)) (et_or (et_test (ev_IB (a := L.getD t 0) (b := 0) (ev_ixL (ds := L.map .int) (ev_m rfl) (ev_p rfl) t rfl eLt) ev_int)) fun _ => et_test (ev_eqI (a := (ssAt a.ss j1).1) (b := 0) (ev_ix0 (ev_ixM (f := eFr) (x := ssAt a.ss j1) (n := j1) (by walk_at "ev") (ev_ixL (ds := vs.map eN) (ev_m rfl) (ev_p rfl) t rfl (get_map (f := eN) hj1)) gj)) ev_int)) (fun hb2 => ?_) fun hb => sx_next ⟨fs, _, _, rfl, f1, by omega⟩
            refine sx_append (a := q12) (ds := fs.map eSt) (d := eSt st) rfl (by walk_at "ev") (by rw [List.length_map]; omega) ⟨fs ++ [st], _, _, by rw [List.map_append]; rfl, fun x hx => ?_, by rw [List.length_append, List.length_singleton]; omega⟩
            rcases List.mem_append.mp hx with q | q
            · exact f1 x q
            · rw [List.mem_singleton.mp q]
              rw [Bool.and_eq_true, Bool.or_eq_true, decide_eq_true_iff, decide_eq_true_iff, decide_eq_true_iff] at hb
              rw [Bool.or_eq_true, decide_eq_true_iff, decide_eq_true_iff] at hb2
              refine ⟨hk2.1, ?_, hb.2, hb2⟩
              unfold mayJoin
              rw [List.any_eq_true]
              exact ⟨(st, js), List.mem_filter.mpr ⟨hm, decide_eq_true rfl⟩, decide_eq_true hb.1⟩
        · subst e
          rw [List.length_map] at f2
          refine sxp_if (P := fun c n' => (c = true → 0 < fs.length ∧ ps.length < 12) ∧ n' = n4) ((EXT.p (et_and (et_test (ev_IB (a := (fs.length : Int)) (b := 0) ((ev_lenL (ds := fs.map eSt) (ev_m rfl)).to (by rw [List.length_map])) ev_int)) fun _ => (et_test (ev_IB (a := (ps.length : Int)) (b := 12) ((ev_lenL (ds := ps.map eP) (ev_m rfl)).to (by rw [List.length_map])) ev_int)))).mono fun c n' ⟨e, en⟩ => ⟨fun hc => ?_, en⟩) (fun n5 ⟨hb, en⟩ => ?_) fun n5 ⟨_, en⟩ => sxp_next ⟨ps, L, _, _, _, _, _, _, _, rfl, W, by omega⟩
          · rw [hc] at e
            have e' := e.symm
            rw [Bool.and_eq_true, decide_eq_true_iff, decide_eq_true_iff] at e'
            omega
          · subst en
            obtain ⟨hb1, hb2⟩ := hb rfl
            refine sxp_seq (sxp_append (a := q8) (ds := ps.map eP) (P := fun d n' => ∃ st, d = eP ((o, t), st) ∧ st ∈ fs ∧ n' ≤ n5 + 1) rfl ((exp_tup (P := fun ds n' => ∃ st, ds = [.int (o : Int), .int (t : Int), eSt st] ∧ st ∈ fs ∧ n' ≤ n5 + 1) (extp_cons (P1 := fun d n' => d = .int (o : Int) ∧ n' = n5) (P2 := fun ds n' => ∃ st, ds = [.int (t : Int), eSt st] ∧ st ∈ fs ∧ n' ≤ n5 + 1) ((EX.p (P := fun x => x = .p (.int (o : Int))) (ev_p rfl)).mono fun x n' ⟨e, en⟩ => ⟨_, e, rfl, en⟩) (fun d n6 ⟨_, en⟩ => ?_) fun d ds n6 n7 ⟨e1, _⟩ ⟨st, e2, h⟩ => ⟨st, by rw [e1, e2], h⟩) fun ds n6 ⟨st, e, _⟩ => by rw [e]; show 3 ≤ 1000; decide).mono fun x n' ⟨ds, e, st, e2, h⟩ => ⟨_, e, st, by rw [e2], h⟩) (by rw [List.length_map]; omega) fun d n6 ⟨st, ed, hst, hn6⟩ => ?_)
            · subst en
              refine extp_cons (P1 := fun d n' => d = .int (t : Int) ∧ n' = n6) (P2 := fun ds n' => ∃ st, ds = [eSt st] ∧ st ∈ fs ∧ n' ≤ n6 + 1) ((EX.p (P := fun x => x = .p (.int (t : Int))) (ev_p rfl)).mono fun x n' ⟨e, en⟩ => ⟨_, e, rfl, en⟩) (fun d n7 ⟨_, en⟩ => ?_) fun d ds n7 n8 ⟨e1, _⟩ ⟨st, e2, h⟩ => ⟨st, by rw [e1, e2], h⟩
              subst en
              exact extp_cons (P1 := fun d n' => ∃ st, d = eSt st ∧ st ∈ fs ∧ n' ≤ n7 + 1) (P2 := fun ds n' => ds = [] ∧ n' ≤ n7 + 1) (exp_someM (f := eSt) (a := fs) (evs_cons (ev_pool rfl) (evs_cons (ev_m rfl) evs_nil)) hb1 (by omega) (by show n7 + 1 ≤ 1000000; omega)) (fun d n8 ⟨_, _, _, h⟩ => (EXt.p (P := fun xs => xs = []) evt_nil).mono' fun xs n8 ⟨e, en⟩ => ⟨e, by omega⟩) fun d ds n8 n9 ⟨st, e1, h1, _⟩ ⟨e2, h2⟩ => ⟨st, by rw [e1, e2], h1, h2⟩
            · subst ed
              obtain ⟨w1, w2, w3, w4⟩ := f1 st hst
              refine sxp_seqN (sx_setI (a := q6) (ds := L.map .int) (P := fun d => d = .int (L.getD o 0 - 1)) (P2 := fun z => z = (o : Int)) rfl ((ev_I0 (a := L.getD o 0) (b := 1) (ev_ixL (ds := L.map .int) (ev_m rfl) (ev_p rfl) o rfl eLo) ev_int).mono fun x e => ⟨_, e, rfl⟩) (ex_i (ev_p rfl) rfl) fun z ez => ⟨o, ez, by rw [List.length_map]; omega, fun d ed => ?_⟩)
              subst ed
              rw [map_set]
              have eLt2 := get_map (f := TD.int) (getD_of (xs := dec L o) (i := t) (by rw [dec_len]; omega))
              refine sxp_of (sx_setI (a := q6) (ds := (dec L o).map .int) (P := fun d => d = .int ((dec L o).getD t 0 - 1)) (P2 := fun z => z = (t : Int)) rfl ((ev_I0 (a := (dec L o).getD t 0) (b := 1) (ev_ixL (ds := (dec L o).map .int) (ev_m rfl) (ev_p rfl) t rfl eLt2) ev_int).mono fun x e => ⟨_, e, rfl⟩) (ex_i (ev_p rfl) rfl) fun z ez => ⟨t, ez, by rw [List.length_map, dec_len]; omega, fun d ed => ?_⟩)
              subst ed
              rw [map_set]
              exact ⟨ps ++ [((o, t), st)], dec (dec L o) t, _, _, _, _, _, _, _, by rw [List.map_append]; rfl, W.add ht1 ht2 hi1 hj1 w1 w2 w3 w4 hb2, by omega⟩
      · subst e
        rw [k2] at p3
        exact sxp_of (sx_retV (ev_tup (evt_cons (ev_tupL (ds := vs.map eN) (ev_m rfl)) (evt_cons (ev_tupL (ds := ps.map eP) (ev_m rfl)) evt_nil))) ⟨⟨vs, ps, rfl, ⟨v1, v2⟩, v3, L, W⟩, by show n2 ≤ n + 100; omega⟩)⟩
end
end K37
end
section
set_option Elab.async false
set_option linter.all false
set_option maxRecDepth 100000
set_option maxHeartbeats 4000000
namespace K37
open PySem PySem.Spec PyProof.Rows L2
local macro_rules | `(tactic| walk_at "ev") => `(tactic| (repeat' (first
  | exact ev_p rfl | exact ev_m rfl | exact ev_l rfl | exact ev_o rfl | exact ev_pool rfl | exact ev_int | exact ev_bl | exact ev_non | exact evs_nil | exact evt_nil
  | apply evs_cons | apply evt_cons | apply ev_ix0 | apply ev_ix1 | apply ev_ix2
  | apply ev_I0 | apply ev_IB | apply ev_eqI | apply ev_neI | apply ev_neg | apply ev_abs
  | apply ev_lenT | apply ev_lenL | apply ev_lenF | apply ev_isN | apply ev_notN | apply et_test | apply et_B | apply et_not
  | apply ev_isiI | apply ev_isiB | apply ev_isiT | apply ev_chainI | apply ev_not | apply ev_max2 | apply ev_min2 | apply ev_max3 | apply ev_int1 | apply ev_sorts | apply ev_kinds | apply ev_widths | apply ev_pipes)))
abbrev s_law_joins : Stmt := topS 102
abbrev n_law_joins : List Str := ["_law_joins_here", "_law_new", "_law_found", "_law_one", "_law_other"]
theorem sc_law_joins : FnScope n_law_joins ["_law_joins_here", "_law_new"] (defScope s_law_joins) := ⟨rfl, rfl, rfl, by decide +kernel, rfl, by decide +kernel, by decide +kernel⟩

abbrev s_law_renumbered : Stmt := topS 103
abbrev n_law_renumbered : List Str := ["_law_sorts_here", "_law_kinds", "_law_new", "_law_order", "_law_back", "_law_sort", "_law_rows", "_law_kind"]
theorem sc_law_renumbered : FnScope n_law_renumbered ["_law_sorts_here", "_law_kinds", "_law_new", "_law_order"] (defScope s_law_renumbered) := ⟨rfl, rfl, rfl, by decide +kernel, rfl, by decide +kernel, by decide +kernel⟩

abbrev s_law_rooms_right : Stmt := topS 104
abbrev n_law_rooms_right : List Str := ["_law_sorts_here", "_law_book", "_law_other", "_law_new", "_law_one", "_law_two"]
theorem sc_law_rooms_right : FnScope n_law_rooms_right ["_law_sorts_here", "_law_book", "_law_other", "_law_new"] (defScope s_law_rooms_right) := ⟨rfl, rfl, rfl, by decide +kernel, rfl, by decide +kernel, by decide +kernel⟩

def leJn (a b : Jn) : Bool := decide (a.1 < b.1 ∨ (a.1 = b.1 ∧ a.2 ≤ b.2))
def jI (j : Jn) : List Int := [(j.1 : Int), (j.2 : Int)]
theorem leI_jn (a b : Jn) : leI (jI a) (jI b) = leJn a b := by
  have h : leI (jI a) (jI b) = PySem.W.dataLe false (fun p : Jn => PyData.tuple [.int (p.1 : Int), .int (p.2 : Int)]) a b := rfl
  rw [h, PySem.W.dataLe_ii (fun p : Jn => (p.1 : Int)) (fun p : Jn => (p.2 : Int))]
  exact decide_eq_decide.mpr (by omega)
def nuA (ν : List Nat) (i : Nat) : Nat := ν.getD i 0
def mapJ (ν : List Nat) (j : Jn) : Jn := (min (nuA ν j.1) (nuA ν j.2), max (nuA ν j.1) (nuA ν j.2))
def joinsV (ν : List Nat) (js : List Jn) : List Jn := (js.map (mapJ ν)).mergeSort leJn
theorem joins_sort (js : List Jn) : (js.map jI).mergeSort leI = (js.mergeSort leJn).map jI := (List.map_mergeSort fun a _ b _ => (leI_jn a b).symm).symm
theorem nuA_get {ν : List Nat} {i : Nat} (h : i < ν.length) : ν[i]? = some (nuA ν i) := by
  unfold nuA
  rw [List.getD_eq_getElem?_getD, List.getElem?_eq_getElem h]; rfl
section
variable {P : Program} {w : World} {K : PySem.W.Frag} {mg : Str → Option Value} {base : Heap}
def sp_law_joins (K : PySem.W.Frag) : Sp := spX K (A := List Jn × List Nat) (fun a => [.p (.tup (a.1.map eJ)), .l (a.2.map eN)]) (fun a => a.1.length ≤ 100 ∧ ∀ j ∈ a.1, j.1 < a.2.length ∧ j.2 < a.2.length) (fun a x => x = .p (.tup ((joinsV a.2 a.1).map eJ)))
theorem so_law_joins {M : PM} {js : List Jn} {ν : List Nat} (h : js.length ≤ 100) (h2 : ∀ j ∈ js, j.1 < ν.length ∧ j.2 < ν.length) : SpOk K M (sp_law_joins K) [.p (.tup (js.map eJ)), .l (ν.map eN)] (fun x => x = .p (.tup ((joinsV ν js).map eJ))) := spX_ok (js, ν) ⟨h, h2⟩
theorem ok_law_joins (G : Gp K mg) (F : Fu K mg "_law_joins" "_law_joins" "_law_joins" s_law_joins ["_law_joins_here", "_law_new"]) : Df P w K mg base 1 "_law_joins" ["_law_joins_here", "_law_new"] (sp_law_joins K) := by
  exact df_mk F sc_law_joins (fun _ => rfl) fun f cdv A' outer s H E hr => ⟨_, (pss_cons (ps_set (i := 2) sc_law_joins.nd rfl (Or.inl rfl) (pe_lst pa_nil))
  (pss_cons (ps_for PassesOwn.never rfl (pi_tup (pv 0)) (pg_tup rfl (pgs_cons (pg_name (i := 3) sc_law_joins.nd rfl (Or.inl rfl)) (pgs_cons (pg_name (i := 4) sc_law_joins.nd rfl (Or.inl rfl)) pgs_nil)))
   (pss_one (ps_expr (pe_bm PySem.F.plainAttrs_list PySem.F.slot_list_append PySem.F.type_list_append mt_append (pv 2) (pa_cons (pe_callTy call_tuple_of (by rfl) G.n_tuple bb_tuple (pa_cons (pe_callB cr_sorted (by rfl) G.n_sorted bb_sorted (pa_cons (pe_lst (pa_cons (pe_ix ix_list (pv 1) (pv 3) (fun _ _ => rfl)) (pa_cons (pe_ix ix_list (pv 1) (pv 4) (fun _ _ => rfl)) pa_nil))) pa_nil)) pa_nil)) pa_nil)))))
  (pss_one (ps_ret (pe_callTy call_tuple_of (by rfl) G.n_tuple bb_tuple (pa_cons (pe_callB (cr_sortedD hr) (by rfl) G.n_sorted bb_sorted (pa_cons (pv 2) pa_nil)) pa_nil)))))), fun M a h => by
    obtain ⟨js, ν⟩ := a
    obtain ⟨h1, h2⟩ := h
    have h1 : js.length ≤ 100 := h1
    have h2 : ∀ j ∈ js, j.1 < ν.length ∧ j.2 < ν.length := h2
    refine sx_seq (sx_setf (ev_lst evt_nil) fun q => ?_)
    refine sx_seq (sx_for (wx_tupV (ds := js.map eJ) (ev_p rfl)) (fun i ρ' => ∃ z1 z2, ρ' = [some (.p (.tup (js.map eJ))), some (.l (ν.map eN)), some (.m q (((js.take i).map (mapJ ν)).map eJ)), z1, z2]) ⟨none, none, rfl⟩ (fun _ _ _ => trivial) (fun i d ρ' hd ⟨z1, z2, e⟩ => ?_) fun ρ' ⟨z1, z2, e⟩ => ?_)
    · obtain ⟨j, hj, ed, hm⟩ := map_get hd
      subst e ed
      obtain ⟨b1, b2⟩ := h2 j hm
      have hi : i < js.length := (List.getElem?_eq_some_iff.mp hj).1
      refine gx_tup2 (gx_name (gx_name (sx_append (a := q) (ds := ((js.take i).map (mapJ ν)).map eJ) (d := eJ (mapJ ν j)) rfl (ev_pairS (ev_ixL (ds := ν.map eN) (ev_l rfl) (ev_p rfl) j.1 rfl (get_map (f := eN) (nuA_get b1))) (ev_ixL (ds := ν.map eN) (ev_l rfl) (ev_p rfl) j.2 rfl (get_map (f := eN) (nuA_get b2)))) (by rw [List.length_map, List.length_map, List.length_take]; omega) ⟨some (.p (.int (j.1 : Int))), some (.p (.int (j.2 : Int))), ?_⟩)))
      rw [List.take_add_one, hj, List.map_append, List.map_append]
      rfl
    · subst e
      rw [List.length_map, List.take_length]
      have e1 : ((js.map (mapJ ν)).map eJ) = ((js.map (mapJ ν)).map jI).map fun b => TD.tup (b.map TD.int) := by rw [List.map_map (f := jI)]; rfl
      refine sx_retV (x := .p (.tup ((joinsV ν js).map eJ))) ((ev_tupF (ev_sortedDL (bs := (js.map (mapJ ν)).map jI) ((ev_m rfl).to (congrArg Dt.l e1)) (fun b hb => by
        obtain ⟨j, _, ej⟩ := List.mem_map.mp hb
        rw [← ej]; exact List.cons_ne_nil _ _) (by rw [List.length_map, List.length_map]; omega))).to ?_) rfl
      rw [joins_sort, List.map_map]
      rfl⟩
/-- the renumbered book -/
def renB (b : Bk) (ν μ : List Nat) : Bk := ⟨(List.range b.ss.length).map fun s => ssAt b.ss (ν.idxOf s), μ.map fun k => ((b.ks.getD k ([], [])).1, joinsV ν (b.ks.getD k ([], [])).2)⟩
structure RenP (b : Bk) (ν μ : List Nat) : Prop where
  ν : ν.Perm (List.range b.ss.length)
  μ : μ.Perm (List.range b.ks.length)
theorem RenP.mem {b : Bk} {ν μ : List Nat} (h : RenP b ν μ) {s : Nat} : s ∈ ν ↔ s < b.ss.length := by rw [h.ν.mem_iff, List.mem_range]
theorem RenP.len {b : Bk} {ν μ : List Nat} (h : RenP b ν μ) : ν.length = b.ss.length := by rw [h.ν.length_eq, List.length_range]
theorem RenP.mlen {b : Bk} {ν μ : List Nat} (h : RenP b ν μ) : μ.length = b.ks.length := by rw [h.μ.length_eq, List.length_range]
theorem idx_first {ν : List Nat} {s : Nat} (h : s ∈ ν) : ν[ν.idxOf s]? = some s ∧ ∀ m, m < ν.idxOf s → ν[m]? ≠ some s := by
  have hl : ν.idxOf s < ν.length := List.idxOf_lt_length_of_mem h
  refine ⟨by rw [List.getElem?_eq_getElem hl, List.getElem_idxOf hl], fun m hm e => ?_⟩
  obtain ⟨h1, h2⟩ := List.getElem?_eq_some_iff.mp e
  have := List.not_of_lt_findIdx (p := (· == s)) (xs := ν) (i := m) hm
  rw [h2] at this
  simp at this
theorem ks_get {b : Bk} {k : Nat} (h : k < b.ks.length) : b.ks[k]? = some (b.ks.getD k ([], [])) := by
  rw [List.getD_eq_getElem?_getD, List.getElem?_eq_getElem h]; rfl
def sp_law_renumbered (K : PySem.W.Frag) : Sp := spX K (A := Bk × List Nat × List Nat) (fun a => [.p (.tup (a.1.ss.map eFr)), .p (.tup (a.1.ks.map eK)), .l (a.2.1.map eN), .l (a.2.2.map eN)]) (fun a => LBk a.1 ∧ RenP a.1 a.2.1 a.2.2) (fun a x => x = .p (.tup [.tup ((renB a.1 a.2.1 a.2.2).ss.map eFr), .tup ((renB a.1 a.2.1 a.2.2).ks.map eK)]))
theorem so_law_renumbered {M : PM} {b : Bk} {ν μ : List Nat} (h : LBk b) (h2 : RenP b ν μ) : SpOk K M (sp_law_renumbered K) [.p (.tup (b.ss.map eFr)), .p (.tup (b.ks.map eK)), .l (ν.map eN), .l (μ.map eN)] (fun x => x = .p (.tup [.tup ((renB b ν μ).ss.map eFr), .tup ((renB b ν μ).ks.map eK)])) := spX_ok (b, ν, μ) ⟨h, h2⟩
theorem ok_law_renumbered (G : Gp K mg) (F : Fu K mg "_law_renumbered" "_law_renumbered" "_law_renumbered" s_law_renumbered ["_law_sorts_here", "_law_kinds", "_law_new", "_law_order"])
    (D_law_joins : Df P w K mg base 1 "_law_joins" ["_law_joins_here", "_law_new"] (sp_law_joins K)) : Df P w K mg base 2 "_law_renumbered" ["_law_sorts_here", "_law_kinds", "_law_new", "_law_order"] (sp_law_renumbered K) := by
  exact df_mk F sc_law_renumbered (fun _ => rfl) fun f cdv A' outer s H E hr => ⟨_, (pss_cons (ps_setLc (i := 4) (own := [("_law_sort", 5)]) rfl sc_law_renumbered.nd rfl rfl (sw_true rfl rfl rfl (by decide +kernel)) (pi_range1 (by rfl) G.n_range (pa_cons (pe_callB call_len_seq (by rfl) G.n_len bb_len (pa_cons (pv 0) pa_nil)) pa_nil)) (blkOk_by (own := [("_law_sort", 5)]) (N := n_law_renumbered) (sc := defScope s_law_renumbered) (by decide +kernel)) (fun _ _ _ _ _ => (pg_name (i := 5) sc_law_renumbered.nd rfl (Or.inl rfl))) (fun _ _ _ _ _ => pts_nil) (fun _ _ _ _ _ => (pe_tbmK K (pe_bm PySem.F.plainAttrs_list PySem.F.slot_list_index PySem.F.type_list_index (mt_indexK K) (pv 2) (pa_cons (pv 5) pa_nil)))))
  (pss_cons (ps_setLc (i := 6) (own := [("_law_kind", 7)]) rfl sc_law_renumbered.nd rfl rfl (sw_true rfl rfl rfl (by decide +kernel)) (pi_list (pv 3)) (blkOk_by (own := [("_law_kind", 7)]) (N := n_law_renumbered) (sc := defScope s_law_renumbered) (by decide +kernel)) (fun _ _ _ _ _ => (pg_name (i := 7) sc_law_renumbered.nd rfl (Or.inl rfl))) (fun _ _ _ _ _ => pts_nil) (fun _ _ _ _ _ => (pe_tup (pa_cons (pe_ix (ix_tupK K) (pe_ix (ix_tupK K) (pv 1) (pv 7) (fun _ _ => rfl)) pe_int (fun _ _ => rfl)) (pa_cons (pe_callD D_law_joins hr (by decide) (by rfl) (pa_cons (pe_ix (ix_tupK K) (pe_ix (ix_tupK K) (pv 1) (pv 7) (fun _ _ => rfl)) pe_int (fun _ _ => rfl)) (pa_cons (pv 2) pa_nil))) pa_nil)))))
  (pss_one (ps_ret (pe_tup (pa_cons (pe_callTy call_tuple_of (by rfl) G.n_tuple bb_tuple (pa_cons (pe_lc (own := [("_law_sort", 5)]) rfl sc_law_renumbered.nd (pi_list (pv 4)) (blkOk_by (own := [("_law_sort", 5)]) (N := n_law_renumbered) (sc := defScope s_law_renumbered) (by decide +kernel)) (fun _ _ _ _ _ => (pg_name (i := 5) sc_law_renumbered.nd rfl (Or.inl rfl))) (fun _ _ _ _ _ => pts_nil) (fun _ _ _ _ _ => (pe_ix (ix_tupK K) (pv 0) (pv 5) (fun _ _ => rfl)))) pa_nil)) (pa_cons (pe_callTy call_tuple_of (by rfl) G.n_tuple bb_tuple (pa_cons (pv 6) pa_nil)) pa_nil))))))), fun M a h => by
    obtain ⟨b, ν, μ⟩ := a
    obtain ⟨hB, hR⟩ := h
    have hB : LBk b := hB
    have hR : RenP b ν μ := hR
    have l1 := hB.ss.len
    have l2 := hB.len
    have l3 := hR.len
    have l4 := hR.mlen
    have eν : (ν.map eN) = (ν.map fun n : Nat => (n : Int)).map TD.int := by rw [List.map_map]; rfl
    refine sx_seq (sx_setf (ev_lcMap (xs := List.range b.ss.length) (enc := eN) (h := fun s => eN (ν.idxOf s)) (wx_rng1V (n := b.ss.length) ((ev_lenT (ds := b.ss.map eFr) (ev_p rfl)).to (by rw [List.length_map])) (by omega)) trivial (by rw [List.length_range]; omega) fun s hs => ?_) fun q1 => ?_)
    · have hs' : s ∈ ν := hR.mem.mpr (List.mem_range.mp hs)
      obtain ⟨i1, i2⟩ := idx_first hs'
      refine ev_index (ns := ν.map fun n : Nat => (n : Int)) (k := (s : Int)) (j := ν.idxOf s) ((ev_l rfl).to (congrArg Dt.l eν)) (ev_p rfl) (by rw [List.getElem?_map, i1]; rfl) fun m hm e => ?_
      rw [List.getElem?_map] at e
      cases hx : ν[m]? with
      | none => rw [hx] at e; cases e
      | some x =>
        rw [hx] at e
        have ex : (x : Int) = (s : Int) := Option.some.inj e
        have ex2 : x = s := by omega
        exact i2 m hm (by rw [hx, ex2])
    · refine sx_seq (sx_setf (ev_lcMap (xs := μ) (enc := eN) (h := fun k => eK ((b.ks.getD k ([], [])).1, joinsV ν (b.ks.getD k ([], [])).2)) (wx_listL rfl) trivial (by omega) fun k hk => ?_) fun q2 => ?_)
      · have hk' : k < b.ks.length := List.mem_range.mp (hR.μ.mem_iff.mp hk)
        have gk := ks_get hk'
        have hko := hB.ks _ (List.mem_of_getElem? gk)
        have hjl := hko.2.len
        exact ev_tup (evt_cons (ev_ix0 (ev_ixM (f := eK) (x := b.ks.getD k ([], [])) (n := k) (by walk_at "ev") (by walk_at "ev") gk)) (evt_cons (ex_call (xs := [.p (.tup ((b.ks.getD k ([], [])).2.map eJ)), .l (ν.map eN)]) (evs_cons (ev_ix1 (ev_ixM (f := eK) (x := b.ks.getD k ([], [])) (n := k) (by walk_at "ev") (by walk_at "ev") gk)) (evs_cons (ev_l rfl) evs_nil)) (so_law_joins (by omega) fun j hj => by
          obtain ⟨x, y, g1, g2, _⟩ := hko.2.ok j hj
          have := (List.getElem?_eq_some_iff.mp g1).1
          have := (List.getElem?_eq_some_iff.mp g2).1
          omega)) evt_nil))
      · refine sx_retV (ev_tup (evt_cons (ev_tupF (ev_lcMap (xs := (List.range b.ss.length).map fun s => ν.idxOf s) (enc := eN) (h := fun i => eFr (ssAt b.ss i)) (wx_listM (s := 4) (a := q1) (ds := ((List.range b.ss.length).map fun s => ν.idxOf s).map eN) (by rw [List.map_map]; rfl)) (by rw [List.map_map]; rfl) (by rw [List.length_map, List.length_range]; omega) fun i hi => ?_)) (evt_cons (ev_tupL (ev_m rfl)) evt_nil))) ?_
        · obtain ⟨s, hs, es⟩ := List.mem_map.mp hi
          have hs' : s ∈ ν := hR.mem.mpr (List.mem_range.mp hs)
          have hl : ν.idxOf s < ν.length := List.idxOf_lt_length_of_mem hs'
          exact ev_ixM (f := eFr) (x := ssAt b.ss i) (n := i) (by walk_at "ev") (by walk_at "ev") (ssAt_get (by omega))
        · show _ = Dt.p (.tup [.tup ((renB b ν μ).ss.map eFr), .tup ((renB b ν μ).ks.map eK)])
          unfold renB
          rw [List.map_map, List.map_map, List.map_map]
          rfl⟩
def sp_law_rooms_right (K : PySem.W.Frag) : Sp := spX K (A := Bk × Bk × List Nat) (fun a => [.p (.tup (a.1.ss.map eFr)), bkD a.1, bkD a.2.1, .l (a.2.2.map eN)]) (fun a => a.1.ss.length ≤ 4 ∧ a.2.2.length = a.1.ss.length ∧ (∀ s ∈ a.1.ss, SortOk s) ∧ ∀ i, i < a.1.ss.length → a.2.1.ss[nuA a.2.2 i]? = some (ssAt a.1.ss i)) (fun _ x => x = bD true)
theorem so_law_rooms_right {M : PM} {b c : Bk} {ν : List Nat} (h1 : b.ss.length ≤ 4) (h2 : ν.length = b.ss.length) (h3 : ∀ s ∈ b.ss, SortOk s) (h4 : ∀ i, i < b.ss.length → c.ss[nuA ν i]? = some (ssAt b.ss i)) : SpOk K M (sp_law_rooms_right K) [.p (.tup (b.ss.map eFr)), bkD b, bkD c, .l (ν.map eN)] (fun x => x = bD true) := spX_ok (b, c, ν) ⟨h1, h2, h3, h4⟩
theorem ok_law_rooms_right (G : Gp K mg) (F : Fu K mg "_law_rooms_right" "_law_rooms_right" "_law_rooms_right" s_law_rooms_right ["_law_sorts_here", "_law_book", "_law_other", "_law_new"])
    (D_law_pairs : Df P w K mg base 1 "_law_pairs" ["_law_sorts_here"] (sp_law_pairs K))
    (D_room : Df P w K mg base 5 "room" ["book", "i", "j"] (sp_room K)) : Df P w K mg base 6 "_law_rooms_right" ["_law_sorts_here", "_law_book", "_law_other", "_law_new"] (sp_law_rooms_right K) := by
  exact df_mk F sc_law_rooms_right (fun _ => rfl) fun f cdv A' outer s H E hr => ⟨_, (pss_cons (ps_for PassesOwn.never rfl (pi_list (pe_callD D_law_pairs hr (by decide) (by rfl) (pa_cons (pv 0) pa_nil))) (pg_tup rfl (pgs_cons (pg_name (i := 4) sc_law_rooms_right.nd rfl (Or.inl rfl)) (pgs_cons (pg_name (i := 5) sc_law_rooms_right.nd rfl (Or.inl rfl)) pgs_nil)))
   (pss_one (ps_if (pt_cmpR (op_neD hr.units) (pe_callD D_room hr (by decide) (by rfl) (pa_cons (pv 1) (pa_cons (pv 4) (pa_cons (pv 5) pa_nil)))) (pe_callD D_room hr (by decide) (by rfl) (pa_cons (pv 2) (pa_cons (pe_ix ix_list (pv 3) (pv 4) (fun _ _ => rfl)) (pa_cons (pe_ix ix_list (pv 3) (pv 5) (fun _ _ => rfl)) pa_nil)))) (nomark _))
   (pss_one (ps_ret pe_bl))
   pss_nil)))
  (pss_one (ps_ret pe_bl))), fun M a h => by
    obtain ⟨b, c, ν⟩ := a
    obtain ⟨h1, h2, h3, h4⟩ := h
    have h2 : ν.length = b.ss.length := h2
    refine sx_seq (sx_forX (P := fun ds => ∃ js : List Jn, ds = js.map eJ ∧ PairsOk b.ss js) (wx_listF ((ex_call (xs := [.p (.tup (b.ss.map eFr))]) (by walk_at "ev") (so_law_pairs h1)).mono fun x ⟨js, e, h⟩ => ⟨_, e, js, rfl, h⟩)) (fun ds i ρ' => ∃ z1 z2, ρ' = [some (.p (.tup (b.ss.map eFr))), some (bkD b), some (bkD c), some (.l (ν.map eN)), z1, z2]) (fun _ _ => ⟨none, none, rfl⟩) (fun _ _ _ _ _ => trivial) (fun ds i d ρ' ⟨js, e1, hjs⟩ hd ⟨z1, z2, e⟩ => ?_) fun ds ρ' _ ⟨z1, z2, e⟩ => ?_)
    · subst e1
      obtain ⟨j, hj, ed, hm⟩ := map_get hd
      subst e ed
      obtain ⟨x, y, g1, g2, _, g3⟩ := hjs.ok j hm
      have b1 := (List.getElem?_eq_some_iff.mp g1).1
      have b2 := (List.getElem?_eq_some_iff.mp g2).1
      have k1 := h4 j.1 b1
      have k2 := h4 j.2 b2
      have s1 := h3 x (List.mem_of_getElem? g1)
      have s2 := h3 y (List.mem_of_getElem? g2)
      rw [ssAt_of g1] at k1
      rw [ssAt_of g2] at k2
      have er : roomV c (nuA ν j.1) (nuA ν j.2) = roomV b j.1 j.2 := by
        unfold roomV
        rw [ssAt_of k1, ssAt_of k2, ssAt_of g1, ssAt_of g2]
      refine gx_tup2 (gx_name (gx_name (sx_ifF ((et_test (ev_neD (a := eFr (roomV b j.1 j.2)) (b := eFr (roomV c (nuA ν j.1) (nuA ν j.2))) (ex_call (xs := [bkD b, iD (j.1 : Int), iD (j.2 : Int)]) (by walk_at "ev") (so_room g1 g2 s1 s2 g3)) (ex_call (xs := [bkD c, iD ((nuA ν j.1 : Nat) : Int), iD ((nuA ν j.2 : Nat) : Int)]) (evs_cons (ev_o rfl) (evs_cons (ev_ixL (ds := ν.map eN) (ev_l rfl) (ev_p rfl) j.1 rfl (get_map (f := eN) (nuA_get (by omega)))) (evs_cons (ev_ixL (ds := ν.map eN) (ev_l rfl) (ev_p rfl) j.2 rfl (get_map (f := eN) (nuA_get (by omega)))) evs_nil))) (so_room k1 k2 s1 s2 g3)) (Nat.le_trans (enc_fr.dep _) (by decide)) (Nat.le_trans (enc_fr.dep _) (by decide)))).to ?_) (sx_next ⟨_, _, rfl⟩))))
      rw [er, enc_fr.dec, decide_eq_true rfl]
      rfl
    · subst e
      exact sx_retV ev_bl rfl⟩
end
end K37
end
section
set_option Elab.async false
set_option linter.all false
set_option maxRecDepth 100000
set_option maxHeartbeats 4000000
namespace K37
open PySem PySem.Spec PyProof.Rows L2
local macro_rules | `(tactic| walk_at "ev") => `(tactic| (repeat' (first
  | exact ev_p rfl | exact ev_m rfl | exact ev_l rfl | exact ev_o rfl | exact ev_pool rfl | exact ev_int | exact ev_bl | exact ev_non | exact evs_nil | exact evt_nil
  | apply evs_cons | apply evt_cons | apply ev_ix0 | apply ev_ix1 | apply ev_ix2
  | apply ev_I0 | apply ev_IB | apply ev_eqI | apply ev_neI | apply ev_neg | apply ev_abs
  | apply ev_lenT | apply ev_lenL | apply ev_lenF | apply ev_isN | apply ev_notN | apply et_test | apply et_B | apply et_not
  | apply ev_isiI | apply ev_isiB | apply ev_isiT | apply ev_chainI | apply ev_not | apply ev_max2 | apply ev_min2 | apply ev_max3 | apply ev_int1 | apply ev_sorts | apply ev_kinds | apply ev_widths | apply ev_pipes)))
abbrev s_Book_init : Stmt := inClass (topS 47) 0
abbrev n_Book_init : List Str := ["self", "sorts", "kinds", "number", "kind"]
theorem sc_Book_init : FnScope n_Book_init ["self", "sorts", "kinds"] (defScope s_Book_init) := ⟨rfl, rfl, rfl, by decide +kernel, rfl, by decide +kernel, by decide +kernel⟩

abbrev s_Web_init : Stmt := inClass (topS 62) 0
abbrev n_Web_init : List Str := ["self", "widths", "pipes", "number", "pipe"]
theorem sc_Web_init : FnScope n_Web_init ["self", "widths", "pipes"] (defScope s_Web_init) := ⟨rfl, rfl, rfl, by decide +kernel, rfl, by decide +kernel, by decide +kernel⟩

abbrev s_Web_begin : Stmt := inClass (topS 62) 1
abbrev n_Web_begin : List Str := ["self", "widths", "pipes", "pipe"]
theorem sc_Web_begin : FnScope n_Web_begin ["self", "widths", "pipes"] (defScope s_Web_begin) := ⟨rfl, rfl, rfl, by decide +kernel, rfl, by decide +kernel, by decide +kernel⟩

section
variable {K : PySem.W.Frag} {H : Hp}
theorem sqT_ins {x C dx : Addr} {fs : List (Str × V)} {o : HO} (hx : H x = some (.ins C dx fs)) {a : Addr} {xs : List V} (h : SqT K H a xs) : SqT K (upd H x o) a xs := by
  rcases h with (h | ⟨u, h⟩) | h
  · exact .inl (.inl (by rw [upd_ne (ne_of h hx (by intro z; cases z))]; exact h))
  · exact .inl (.inr ⟨u, by rw [upd_ne (ne_of h hx (by intro z; cases z))]; exact h⟩)
  · exact .inr h
mutual
theorem Tp.insU {x C dx : Addr} {fs : List (Str × V)} {o : HO} (hx : H x = some (.ins C dx fs)) : ∀ {d : TD} {v : V}, Tp K H v d → Tp K (upd H x o) v d
  | .non, _, h => by cases h; exact .non
  | .bl b, _, h => by cases h; exact .bl b
  | .int i, _, h => by cases h; exact .int i
  | .tup ds, _, h => by
    cases h with
    | tup hs ha => exact .tup (sqT_ins hx hs) (TpAll.insU hx ha)
theorem TpAll.insU {x C dx : Addr} {fs : List (Str × V)} {o : HO} (hx : H x = some (.ins C dx fs)) : ∀ {ds : List TD} {vs : List V}, TpAll K H vs ds → TpAll K (upd H x o) vs ds
  | [], _, h => by cases h; exact .nil
  | d :: ds, _, h => by
    cases h with
    | cons h1 h2 => exact .cons (Tp.insU hx h1) (TpAll.insU hx h2)
end
end
def LeX (x : Addr) (M : PM) (H H' : Hp) : Prop := ∀ a o, H a = some o → ¬ MA M a → a ≠ x → H' a = some o
/-- an __init__ upon data: the fields that the instance then bears -/
def spI (K : PySem.W.Frag) {A : Type} (C : Addr) (args : A → List TD) (pre : A → Prop) (fs : A → List (Str × TD)) : Sp := fun vs H Q _ => ∃ (a : A) (M : PM) (x dx : Addr) (us : List V), vs = .ref x :: us ∧ Pool M H ∧ H x = some (.ins C dx []) ∧ TpAll K H us (args a) ∧ pre a ∧
  ∀ H', Ob K H' (.ref x) (fs a) → LeX x M H H' → Pool M H' → Q .non H'
/-- a method of a class, and its promise -/
structure DfM (P : Program) (w : World) (K : PySem.W.Frag) (mg : Str → Option Value) (base : Heap) (k : Nat) (f : Addr) (ps : List Str) (sp : Sp) : Prop where
  ex : ∃ fd, FnOk P w K mg base CX0 k f fd ps sp ∧ Binds K fd ps []
structure FuM (K : PySem.W.Frag) (f : Addr) (nm qual : Str) (st : Stmt) (ps : List Str) : Prop where
  ex : ∃ fd, Fun K nm qual st f fd ∧ Binds K fd ps []
/-- a class of the text, and its __init__'s promise -/
structure MkD (P : Program) (w : World) (K : PySem.W.Frag) (mg : Str → Option Value) (base : Heap) (k : Nat) (x : Str) (C : Addr) (ps : List Str) (sp : Sp) : Prop where
  ex : ∃ f fd, Mk K C f ∧ FnOk P w K mg base CX0 k f fd ps sp ∧ mg x = some (.ref C) ∧ Binds K fd ps []
theorem pe_makeD {X : Cx} {j k : Nat} {x : Str} {C : Addr} {ps : List Str} {sp : Sp} {e : Expr} {es : List Expr} {t : TA} {p pos : Pos} (D : MkD X.prog X.w X.K X.mg X.base j x C ps sp) (hr : Room k X.A) (hj : j + 1 ≤ k) (hg : Gl X x) (ha : PA X (e :: es) t)
    (hdb : (x == ("__debug__" : Str)) = false := by decide) (he : starEach (e :: es) X.env = (false, eval e X.env) :: starEach es X.env := by rfl) (hpl : (backTo pos (starEach es X.env)).any (·.1) = false := by rfl) :
    PE X (.Call (.Name x p) (e :: es) [] pos) (tMake C sp [] E0 t) := by
  obtain ⟨f, fd, M, F, hm, b⟩ := D.ex
  exact pe_make M F (hr.mono hj) hg hm b .nil pass0 ha hdb he hpl
theorem pe_methD {X : Cx} {pl : Sem Bool} {j k : Nat} {m : Str} {C f : Addr} {ps : List Str} {sp : Sp} {o e : Expr} {es : List Expr} {ta : TE} {t : TA} {apos pos : Pos} (c : Cls X.K C) (hm : Meth X.K C m f) (D : DfM X.prog X.w X.K X.mg X.base j f ps sp) (hr : Room k X.A) (hj : j ≤ k) (he : PE X o ta) (ha : PA X (e :: es) t)
    (hst : starEach (e :: es) X.env = (false, eval e X.env) :: starEach es X.env := by rfl) (hpl : (backTo pos (starEach es X.env)).any (·.1) = false := by rfl)
    (ht : eval (.Call (.Attribute o m apos) (e :: es) [] pos) X.env = (do
      let ov ← eval o X.env
      standAt apos.atName
      let (f, first) ← holding [ov] (getMethod ov m pl)
      callWith pos f first (backTo pos (starEach (e :: es) X.env)) (backToKw pos (keywordEach [] X.env))) := by rfl) :
    PE X (.Call (.Attribute o m apos) (e :: es) [] pos) (tMeth C m sp [] E0 ta t) := by
  obtain ⟨fd, F, b⟩ := D.ex
  exact pe_meth (pl := pl) he c hm F (hr.mono hj) b .nil pass0 ha hst hpl ht
section
variable {K : PySem.W.Frag} {M : PM} {ρ : Ev0} {tr : TA}
theorem ev_make {A : Type} {C : Addr} {args : A → List TD} {pre : A → Prop} {fs : A → List (Str × TD)} {E : XK} (a : A) (h : EVt K M tr ρ (args a)) (hp : pre a) : EV K M (tMake C (spI K C args pre fs) [] E tr) ρ (.o (fs a)) := fun B G H σ I Q q =>
  h B G H σ I _ fun vs H1 xs ex e1 hp1 r1 => by
    subst ex
    intro x dx hx hdx hne
    have hx2 : (upd H1 dx (.own x)) x = none := by rw [upd_ne (Ne.symm hne)]; exact hx
    have l1 : Le M H1 (upd (upd H1 dx (.own x)) x (.ins C dx [])) := (Le.new hdx).trans (Le.new hx2)
    have p1 : Pool M (upd (upd H1 dx (.own x)) x (.ins C dx [])) := (hp1.new hdx).new hx2
    rw [List.append_nil]
    refine ⟨a, M, x, dx, vs, rfl, p1, upd_same, r1.le hp1 l1, hp, fun H' ob le hp' => ⟨rfl, q _ H' _ rfl (fun b o hb nb => ?_) hp' ob⟩⟩
    have hb1 := e1 b o hb nb
    exact le b o (l1 b o hb1 nb) nb (ne_of_none hb1 hx)
end
theorem sfld_raw {K : PySem.W.Frag} {M : PM} {te to : TE} {f : Str} {ρ : Ev0} {P : Dt → Prop} (h : EX K M te ρ P) {B G H : Hp} {σ : L2.St} (I : En K M B G H σ ρ) {D : Ends}
    (k : ∀ v H' x, P x → Le M H H' → Pool M H' → Rp K M H H' v x → to σ H' (fun y H2 => ∃ a C dx fs, y = .ref a ∧ H2 a = some (.ins C dx fs) ∧ Cls K C ∧ NoAttr K C f ∧ fs.length < 1000 ∧ D.nx σ (upd H2 a (.ins C dx (putF f v fs))))) : sFld K to te f D σ H := h B G H σ I _ k
/-- a statement ahead, in the raw -/
theorem sx_pre {K : PySem.W.Frag} {M : PM} {t u : TS} {ρ : Ev0} {R : Ev0 → Prop} (h : SX K M t ρ (fun o => ∃ ρ', o = .nx ρ' ∧ R ρ')) {B G H : Hp} {σ : L2.St} (I : En K M B G H σ ρ) {D : Ends} (k : ∀ ρ' σ' H', R ρ' → En K M B G H' σ' ρ' → u D σ' H') : tSeq t u D σ H :=
  h B G H σ I { D with nx := u D } fun o ⟨ρ', e, r⟩ => by
    subst e
    exact fun σ' H' I' => k ρ' σ' H' r I'
section
variable {P : Program} {w : World} {K : PySem.W.Frag} {mg : Str → Option Value} {base : Heap} {CB CW fB fW fI : Addr}
def bkF (b : Bk) : List (Str × TD) := [("sorts", .tup (b.ss.map eFr)), ("kinds", .tup (b.ks.map eK))]
def wbF (b : Wb) : List (Str × TD) := [("widths", .tup (b.ws.map .int)), ("pipes", .tup (b.ps.map eP))]
def sp_Book_init (K : PySem.W.Frag) (CB : Addr) : Sp := spI K CB (fun b : Bk => [.tup (b.ss.map eFr), .tup (b.ks.map eK)]) Bk.Ok bkF
def sp_Web_init (K : PySem.W.Frag) (CW : Addr) : Sp := spI K CW (fun b : Wb => [.tup (b.ws.map .int), .tup (b.ps.map eP)]) Wb.Ok wbF
structure ClsB (K : PySem.W.Frag) (C : Addr) : Prop where
  c : Cls K C
  n1 : NoAttr K C "sorts"
  n2 : NoAttr K C "kinds"
structure ClsW (K : PySem.W.Frag) (C f : Addr) : Prop where
  c : Cls K C
  n1 : NoAttr K C "widths"
  n2 : NoAttr K C "pipes"
  n3 : NoAttr K C "gauges"
  m : Meth K C "begin" f
theorem ok_Book_init (G : Gp K mg) (F : FuM K fB "__init__" "Book.__init__" s_Book_init ["self", "sorts", "kinds"]) (c : ClsB K CB)
    (D_are_sorts : Df P w K mg base 5 "are_sorts" ["thing"] (sp_are_sorts K)) (D_is_kind : Df P w K mg base 5 "is_kind" ["thing", "sorts"] (sp_is_kind K)) : DfM P w K mg base 6 fB ["self", "sorts", "kinds"] (sp_Book_init K CB) := by
  obtain ⟨fd, F1, hb⟩ := F.ex
  refine ⟨fd, F1.ok sc_Book_init (fun vs H Q E h => ?_) (fun cdv A' outer s H vs Q E hr h => ?_), hb⟩
  · obtain ⟨b, M, x, dx, us, e, _, _, r, _⟩ := h
    rw [e, List.length_cons, r.length]
    rfl
  · refine ⟨_, (pss_cons (ps_if (pt_not (pt_val (pe_callD D_are_sorts hr (by decide) (by rfl) (pa_cons (pv 1) pa_nil))))
   (pss_one ps_never)
   pss_nil)
  (pss_cons (ps_if (PW.pt (pw_or (pt_not (pt_val (pe_callB call_isi (by rfl) G.n_isinstance bb_isinstance (pa_cons (pv 2) (pa_cons (pe_bltn (v := .ty "tuple") (by rfl) G.n_tuple bb_tuple rfl) pa_nil))))) (pw_or1 (pt_cmpR op_gt (pe_callB call_len_seq (by rfl) G.n_len bb_len (pa_cons (pv 2) pa_nil)) (pe_glob (v := .int 5) rfl (G.MOST_KINDS).choose_spec ⟨_, rfl⟩) (nomark _)))))
   (pss_one ps_never)
   pss_nil)
  (pss_cons (ps_for PassesOwn.never rfl (pi_enumT (by rfl) G.n_enumerate (pa_cons (pv 2) pa_nil)) (pg_tup rfl (pgs_cons (pg_name (i := 3) sc_Book_init.nd rfl (Or.inl rfl)) (pgs_cons (pg_name (i := 4) sc_Book_init.nd rfl (Or.inl rfl)) pgs_nil)))
   (pss_one (ps_if (pt_not (pt_val (pe_callD D_is_kind hr (by decide) (by rfl) (pa_cons (pv 4) (pa_cons (pv 1) pa_nil)))))
   (pss_one ps_never)
   pss_nil)))
  (pss_cons (ps_fld (pv 0) (pv 1) rfl)
  (pss_one (ps_fld (pv 0) (pv 2) rfl)))))), ?_⟩
    obtain ⟨b, M, x, dx, us, e, hp, hx, r, hB, q⟩ := h
    subst e
    have hB : b.Ok := hB
    cases r with
    | @cons v1 us1 _ _ r1 r2 =>
      cases r2 with
      | @cons v2 us2 _ _ r2 r3 =>
        cases r3
        have I := en_start (K := K) (M := M) (H := H) (N := n_Book_init) (xs := [.fix (.ref x), .p (.tup (b.ss.map eFr)), .p (.tup (b.ks.map eK))]) (vs := [.ref x, v1, v2]) hp (.cons rfl (.cons r1 (.cons r2 .nil)))
        refine sx_pre (R := fun ρ' => ρ' = slots n_Book_init [.fix (.ref x), .p (.tup (b.ss.map eFr)), .p (.tup (b.ks.map eK))]) (sx_ifF (et_notT (et_B (ex_call (xs := [.p (.tup (b.ss.map eFr))]) (by walk_at "ev") (so_are_sorts hB.ss)))) (sx_next ⟨_, rfl, rfl⟩)) I fun ρ1 σ1 H1 e1 I1 => ?_
        subst e1
        refine sx_pre (R := fun ρ' => ρ' = slots n_Book_init [.fix (.ref x), .p (.tup (b.ss.map eFr)), .p (.tup (b.ks.map eK))]) (sx_ifF (et_orF (et_notT (et_B (by walk_at "ev"))) ((et_test (ev_IB (a := (b.ks.length : Int)) (b := 5) ((ev_lenT (ds := b.ks.map eK) (by walk_at "ev")).to (by rw [List.length_map])) (by walk_at "ev"))).to (decide_eq_false (by have := hB.len; omega)))) (sx_next ⟨_, rfl, rfl⟩)) I1 fun ρ2 σ2 H2 e2 I2 => ?_
        subst e2
        refine sx_pre (R := fun ρ' => ∃ z1 z2, ρ' = [some (.fix (.ref x)), some (.p (.tup (b.ss.map eFr))), some (.p (.tup (b.ks.map eK))), z1, z2]) (sx_for (wx_enumT (ds := b.ks.map eK) (by walk_at "ev")) (fun i ρ' => ∃ z1 z2, ρ' = [some (.fix (.ref x)), some (.p (.tup (b.ss.map eFr))), some (.p (.tup (b.ks.map eK))), z1, z2]) ⟨none, none, rfl⟩ (fun _ _ _ => trivial) (fun i d ρ' hd ⟨z1, z2, e⟩ => ?_) fun ρ' h => ⟨ρ', rfl, h⟩) I2 fun ρ3 σ3 H3 e3 I3 => ?_
        · obtain ⟨k, hk, ed, hm⟩ := enumM_get hd
          subst e ed
          exact gx_tup2 (gx_name (gx_name (sx_ifF (et_notT (et_B (ex_call (xs := [.p (eK k), .p (.tup (b.ss.map eFr))]) (by walk_at "ev") (so_is_kind (hB.ks k hm))))) (sx_next ⟨_, _, rfl⟩))))
        · obtain ⟨z1, z2, e3⟩ := e3
          subst e3
          obtain ⟨u0, h0, t0⟩ := I3.sl 0 _ rfl
          obtain ⟨u1, h1, t1⟩ := I3.sl 1 _ rfl
          obtain ⟨u2, h2, t2⟩ := I3.sl 2 _ rfl
          have t0 : u0 = .ref x := t0
          subst t0
          have t1 : Tp K H3 u1 (.tup (b.ss.map eFr)) := t1
          have t2 : Tp K H3 u2 (.tup (b.ks.map eK)) := t2
          have nm := hp.notIns hx
          have hx3 := I3.kB x _ hx nm
          refine ⟨u1, h1, _, h0, x, CB, dx, [], rfl, hx3, c.c, c.n1, by decide, u2, h2, _, h0, x, CB, dx, [("sorts", u1)], rfl, upd_same, c.c, c.n2, by show 1 < 1000; decide, q _ ?_ ?_ ?_⟩
          · refine ⟨x, CB, dx, _, rfl, upd_same, c.c, fun f d hf => ?_⟩
            rcases List.mem_cons.mp hf with e | e
            · cases e
              exact ⟨c.n1, u1, rfl, (t1.insU hx3).insU upd_same⟩
            · have e := List.mem_singleton.mp e
              cases e
              exact ⟨c.n2, u2, rfl, (t2.insU hx3).insU upd_same⟩
          · intro a o ha na ne
            rw [upd_ne ne, upd_ne ne]
            exact I3.kB a o ha na
          · exact (I3.pool.other nm).other nm
theorem ok_Web_begin (G : Gp K mg) (F : FuM K fW "begin" "Web.begin" s_Web_begin ["self", "widths", "pipes"]) (c : ClsW K CW fW)
    (D_gauge : Df P w K mg base 4 "gauge" ["widths", "pipe"] (sp_gauge K)) : DfM P w K mg base 5 fW ["self", "widths", "pipes"] (sp_Web_init K CW) := by
  obtain ⟨fd, F1, hb⟩ := F.ex
  refine ⟨fd, F1.ok sc_Web_begin (fun vs H Q E h => ?_) (fun cdv A' outer s H vs Q E hr h => ?_), hb⟩
  · obtain ⟨b, M, x, dx, us, e, _, _, r, _⟩ := h
    rw [e, List.length_cons, r.length]
    rfl
  · refine ⟨_, (pss_cons (ps_fld (pv 0) (pv 1) rfl)
  (pss_cons (ps_fld (pv 0) (pv 2) rfl)
  (pss_one (ps_fld (pv 0) (pe_lc (own := [("pipe", 3)]) rfl sc_Web_begin.nd (pi_tup (pv 2)) (blkOk_by (own := [("pipe", 3)]) (N := n_Web_begin) (sc := defScope s_Web_begin) (by decide +kernel)) (fun _ _ _ _ _ => (pg_name (i := 3) sc_Web_begin.nd rfl (Or.inl rfl))) (fun _ _ _ _ _ => pts_nil) (fun _ _ _ _ _ => (pe_callD D_gauge hr (by decide) (by rfl) (pa_cons (pv 1) (pa_cons (pv 3) pa_nil))))) rfl)))), ?_⟩
    obtain ⟨b, M, x, dx, us, e, hp, hx, r, hB, q⟩ := h
    subst e
    have hB : b.Ok := hB
    cases r with
    | @cons v1 us1 _ _ r1 r2 =>
      cases r2 with
      | @cons v2 us2 _ _ r2 r3 =>
        cases r3
        have nm := hp.notIns hx
        have r1 : Tp K H v1 (.tup (b.ws.map .int)) := r1
        have r2 : Tp K H v2 (.tup (b.ps.map eP)) := r2
        have t1 := (r1.insU (o := .ins CW dx [("widths", v1)]) hx).insU (o := .ins CW dx [("widths", v1), ("pipes", v2)]) upd_same
        have t2 := (r2.insU (o := .ins CW dx [("widths", v1)]) hx).insU (o := .ins CW dx [("widths", v1), ("pipes", v2)]) upd_same
        have hp2 : Pool M (upd (upd H x (.ins CW dx [("widths", v1)])) x (.ins CW dx [("widths", v1), ("pipes", v2)])) := (hp.other nm).other nm
        have I2 := en_start (K := K) (M := M) (N := n_Web_begin) (xs := [.fix (.ref x), .p (.tup (b.ws.map .int)), .p (.tup (b.ps.map eP))]) (vs := [.ref x, v1, v2]) hp2 (.cons rfl (.cons t1 (.cons t2 .nil)))
        refine ⟨v1, rfl, _, rfl, x, CW, dx, [], rfl, hx, c.c, c.n1, by decide, v2, rfl, _, rfl, x, CW, dx, [("widths", v1)], rfl, upd_same, c.c, c.n2, by show 1 < 1000; decide, ?_⟩
        have e1 : putF "widths" v1 ([] : List (Str × V)) = [(("widths" : Str), v1)] := rfl
        have e2 : putF "pipes" v2 [(("widths" : Str), v1)] = [(("widths" : Str), v1), (("pipes" : Str), v2)] := rfl
        rw [e1, e2]
        dsimp only
        refine sfld_raw (ρ := slots n_Web_begin [.fix (.ref x), .p (.tup (b.ws.map .int)), .p (.tup (b.ps.map eP))]) (P := fun y => y = .f (b.ps.map fun p => eGauge b.ws p)) ?_ I2 fun v H3 y _ e3 hp3 _ => ?_
        · exact ev_lcMap (xs := b.ps) (enc := eP) (wx_tupV (ds := b.ps.map eP) (ev_p rfl)) trivial (by have := hB.plen; omega) fun p hm => ex_call (xs := [.p (.tup (b.ws.map .int)), .p (eP p)]) (by walk_at "ev") (so_gauge hB hm)
        have hx3 := e3 x _ upd_same nm
        refine ⟨_, rfl, x, CW, dx, _, rfl, hx3, c.c, c.n3, by show 2 < 1000; decide, q _ ?_ ?_ (hp3.other nm)⟩
        · refine ⟨x, CW, dx, _, rfl, upd_same, c.c, fun f d hf => ?_⟩
          rcases List.mem_cons.mp hf with e | e
          · cases e
            exact ⟨c.n1, v1, rfl, (t1.le hp2 e3).insU hx3⟩
          · have e := List.mem_singleton.mp e
            cases e
            exact ⟨c.n2, v2, rfl, (t2.le hp2 e3).insU hx3⟩
        · intro a o ha na ne
          rw [upd_ne ne]
          exact e3 a o (by rw [upd_ne ne, upd_ne ne]; exact ha) na
theorem ok_Web_init (G : Gp K mg) (F : FuM K fI "__init__" "Web.__init__" s_Web_init ["self", "widths", "pipes"]) (c : ClsW K CW fW)
    (D_are_widths : Df P w K mg base 4 "are_widths" ["thing"] (sp_are_widths K)) (D_is_pipe : Df P w K mg base 5 "is_pipe" ["thing", "many"] (sp_is_pipe K)) (D_Web_begin : DfM P w K mg base 5 fW ["self", "widths", "pipes"] (sp_Web_init K CW)) : DfM P w K mg base 6 fI ["self", "widths", "pipes"] (sp_Web_init K CW) := by
  have cW := c.c
  have mW := c.m
  obtain ⟨fd, F1, hb⟩ := F.ex
  refine ⟨fd, F1.ok sc_Web_init (fun vs H Q E h => ?_) (fun cdv A' outer s H vs Q E hr h => ?_), hb⟩
  · obtain ⟨b, M, x, dx, us, e, _, _, r, _⟩ := h
    rw [e, List.length_cons, r.length]
    rfl
  · refine ⟨_, (pss_cons (ps_if (pt_not (pt_val (pe_callD D_are_widths hr (by decide) (by rfl) (pa_cons (pv 1) pa_nil))))
   (pss_one ps_never)
   pss_nil)
  (pss_cons (ps_if (PW.pt (pw_or (pt_not (pt_val (pe_callB call_isi (by rfl) G.n_isinstance bb_isinstance (pa_cons (pv 2) (pa_cons (pe_bltn (v := .ty "tuple") (by rfl) G.n_tuple bb_tuple rfl) pa_nil))))) (pw_or1 (pt_cmpR op_gt (pe_callB call_len_seq (by rfl) G.n_len bb_len (pa_cons (pv 2) pa_nil)) (pe_glob (v := .int 36) rfl (G.MOST_PIPES).choose_spec ⟨_, rfl⟩) (nomark _)))))
   (pss_one ps_never)
   pss_nil)
  (pss_cons (ps_for PassesOwn.never rfl (pi_enumT (by rfl) G.n_enumerate (pa_cons (pv 2) pa_nil)) (pg_tup rfl (pgs_cons (pg_name (i := 3) sc_Web_init.nd rfl (Or.inl rfl)) (pgs_cons (pg_name (i := 4) sc_Web_init.nd rfl (Or.inl rfl)) pgs_nil)))
   (pss_one (ps_if (pt_not (pt_val (pe_callD D_is_pipe hr (by decide) (by rfl) (pa_cons (pv 4) (pa_cons (pe_callB call_len_seq (by rfl) G.n_len bb_len (pa_cons (pv 1) pa_nil)) pa_nil)))))
   (pss_one ps_never)
   pss_nil)))
  (pss_one (ps_expr (pe_methD cW mW D_Web_begin hr (by decide) (pv 0) (pa_cons (pv 1) (pa_cons (pv 2) pa_nil)))))))), ?_⟩
    obtain ⟨b, M, x, dx, us, e, hp, hx, r, hB, q⟩ := h
    subst e
    have hB : b.Ok := hB
    cases r with
    | @cons v1 us1 _ _ r1 r2 =>
      cases r2 with
      | @cons v2 us2 _ _ r2 r3 =>
        cases r3
        have I := en_start (K := K) (M := M) (H := H) (N := n_Web_init) (xs := [.fix (.ref x), .p (.tup (b.ws.map .int)), .p (.tup (b.ps.map eP))]) (vs := [.ref x, v1, v2]) hp (.cons rfl (.cons r1 (.cons r2 .nil)))
        refine sx_pre (R := fun ρ' => ρ' = slots n_Web_init [.fix (.ref x), .p (.tup (b.ws.map .int)), .p (.tup (b.ps.map eP))]) (sx_ifF (et_notT (et_B (ex_call (xs := [.p (.tup (b.ws.map .int))]) (by walk_at "ev") (so_are_widths hB)))) (sx_next ⟨_, rfl, rfl⟩)) I fun ρ1 σ1 H1 e1 I1 => ?_
        subst e1
        refine sx_pre (R := fun ρ' => ρ' = slots n_Web_init [.fix (.ref x), .p (.tup (b.ws.map .int)), .p (.tup (b.ps.map eP))]) (sx_ifF (et_orF (et_notT (et_B (by walk_at "ev"))) ((et_test (ev_IB (a := (b.ps.length : Int)) (b := 36) ((ev_lenT (ds := b.ps.map eP) (by walk_at "ev")).to (by rw [List.length_map])) (by walk_at "ev"))).to (decide_eq_false (by have := hB.plen; omega)))) (sx_next ⟨_, rfl, rfl⟩)) I1 fun ρ2 σ2 H2 e2 I2 => ?_
        subst e2
        refine sx_pre (R := fun ρ' => ∃ z1 z2, ρ' = [some (.fix (.ref x)), some (.p (.tup (b.ws.map .int))), some (.p (.tup (b.ps.map eP))), z1, z2]) (sx_for (wx_enumT (ds := b.ps.map eP) (by walk_at "ev")) (fun i ρ' => ∃ z1 z2, ρ' = [some (.fix (.ref x)), some (.p (.tup (b.ws.map .int))), some (.p (.tup (b.ps.map eP))), z1, z2]) ⟨none, none, rfl⟩ (fun _ _ _ => trivial) (fun i d ρ' hd ⟨z1, z2, e⟩ => ?_) fun ρ' h => ⟨ρ', rfl, h⟩) I2 fun ρ3 σ3 H3 e3 I3 => ?_
        · obtain ⟨p, hk, ed, hm⟩ := enumM_get hd
          subst e ed
          exact gx_tup2 (gx_name (gx_name (sx_ifF (et_notT (et_B (ex_call (xs := [.p (eP p), iD (b.ws.length : Int)]) (evs_cons (by walk_at "ev") (evs_cons ((ev_lenT (ds := b.ws.map .int) (by walk_at "ev")).to (by rw [List.length_map])) evs_nil)) (so_is_pipe (hB.ps p hm))))) (sx_next ⟨_, _, rfl⟩))))
        · obtain ⟨z1, z2, e3⟩ := e3
          subst e3
          obtain ⟨u0, h0, t0⟩ := I3.sl 0 _ rfl
          obtain ⟨u1, h1, t1⟩ := I3.sl 1 _ rfl
          obtain ⟨u2, h2, t2⟩ := I3.sl 2 _ rfl
          have t0 : u0 = .ref x := t0
          subst t0
          have nm := hp.notIns hx
          have hx3 := I3.kB x _ hx nm
          refine ⟨_, h0, x, dx, [], rfl, hx3, rfl, _, h1, _, h2, b, M, x, dx, [u1, u2], rfl, I3.pool, hx3, .cons t1 (.cons t2 .nil), hB, fun H' ob le hp' => q H' ob (fun a o ha na ne => le a o (I3.kB a o ha na) na ne) hp'⟩
end
end K37
end
section
set_option Elab.async false
set_option linter.all false
set_option maxRecDepth 100000
set_option maxHeartbeats 4000000
namespace K37
open PySem PySem.Spec PyProof.Rows L2
local macro_rules | `(tactic| walk_at "ev") => `(tactic| (repeat' (first
  | exact ev_p rfl | exact ev_m rfl | exact ev_l rfl | exact ev_o rfl | exact ev_pool rfl | exact ev_int | exact ev_bl | exact ev_non | exact evs_nil | exact evt_nil
  | apply evs_cons | apply evt_cons | apply ev_ix0 | apply ev_ix1 | apply ev_ix2
  | apply ev_I0 | apply ev_IB | apply ev_eqI | apply ev_neI | apply ev_neg | apply ev_abs
  | apply ev_lenT | apply ev_lenL | apply ev_lenF | apply ev_isN | apply ev_notN | apply et_test | apply et_B | apply et_not
  | apply ev_isiI | apply ev_isiB | apply ev_isiT | apply ev_chainI | apply ev_not | apply ev_max2 | apply ev_min2 | apply ev_max3 | apply ev_int1 | apply ev_sorts | apply ev_kinds | apply ev_widths | apply ev_pipes)))
abbrev s_parts : Stmt := topS 65
abbrev n_parts : List Str := ["web", "names", "found", "vessel", "name", "lot"]
theorem sc_parts : FnScope n_parts ["web"] (defScope s_parts) := ⟨rfl, rfl, rfl, by decide +kernel, rfl, by decide +kernel, by decide +kernel⟩

abbrev Gs := List (Int × List Int)
def gIx (gs : Gs) (name : Int) : Nat := gs.findIdx fun g => decide (g.1 = name)
def grpAdd (gs : Gs) (name v : Int) : Gs := match gs[gIx gs name]? with
  | some g => gs.set (gIx gs name) (g.1, g.2 ++ [v])
  | none => gs ++ [(name, [v])]
def groupsV (names : List Int) (i : Nat) : Gs := ((names.zipIdx).take i).foldl (fun gs p => grpAdd gs p.1 (p.2 : Int)) []
def partsV (w : Wb) : List (List Int) := ((groupsV (lotsV w.ws.length w.ps) w.ws.length).map (·.2)).mergeSort leI
theorem groups_succ {names : List Int} {i : Nat} {x : Int} (h : names[i]? = some x) : groupsV names (i + 1) = grpAdd (groupsV names i) x (i : Int) := by
  unfold groupsV
  rw [List.take_add_one, List.getElem?_zipIdx, h, List.foldl_append]
  simp
theorem grp_len (gs : Gs) (n v : Int) : (grpAdd gs n v).length ≤ gs.length + 1 := by
  unfold grpAdd
  split
  · rw [List.length_set]; omega
  · rw [List.length_append, List.length_singleton]; omega
theorem grp_ne {gs : Gs} {n v : Int} (h : ∀ g ∈ gs, g.2 ≠ [] ) : ∀ g ∈ grpAdd gs n v, g.2 ≠ [] := by
  intro g hg
  unfold grpAdd at hg
  split at hg
  · rcases List.mem_or_eq_of_mem_set hg with q | q
    · exact h g q
    · rw [q]; simp
  · rcases List.mem_append.mp hg with q | q
    · exact h g q
    · rw [List.mem_singleton.mp q]; simp
theorem grp_each {gs : Gs} {n v : Int} {k : Nat} (h : ∀ g ∈ gs, g.2.length ≤ k) : ∀ g ∈ grpAdd gs n v, g.2.length ≤ k + 1 := by
  intro g hg
  unfold grpAdd at hg
  split at hg
  · rename_i x hx
    rcases List.mem_or_eq_of_mem_set hg with q | q
    · have := h g q; omega
    · have := h x (List.mem_of_getElem? hx)
      rw [q, List.length_append, List.length_singleton]; omega
  · rcases List.mem_append.mp hg with q | q
    · have := h g q; omega
    · rw [List.mem_singleton.mp q, List.length_singleton]; omega
def pairs : Gs → List Addr → List (Key × V)
  | g :: gs, l :: ls => (.inl g.1, .ref l) :: pairs gs ls
  | _, _ => []
theorem pairs_len : ∀ {gs : Gs} {ls : List Addr}, ls.length = gs.length → (pairs gs ls).length = gs.length
  | [], [], _ => rfl
  | [], _ :: _, h => by cases h
  | _ :: _, [], h => by cases h
  | g :: gs, l :: ls, h => by
    show (pairs gs ls).length + 1 = gs.length + 1
    rw [pairs_len (by simpa using h)]
theorem pairs_get : ∀ {gs : Gs} {ls : List Addr} {i : Nat} {k : Key} {v : V}, ls.length = gs.length → (pairs gs ls)[i]? = some (k, v) → ∃ g l, gs[i]? = some g ∧ ls[i]? = some l ∧ v = .ref l
  | [], [], _, _, _, _, e => by simp [pairs] at e
  | [], _ :: _, _, _, _, h, _ => by cases h
  | _ :: _, [], _, _, _, h, _ => by cases h
  | g :: gs, l :: ls, 0, k, v, _, e => by
    have e2 : (Sum.inl g.1, V.ref l) = (k, v) := Option.some.inj e
    injection e2 with e3 e4
    exact ⟨g, l, rfl, rfl, e4.symm⟩
  | g :: gs, l :: ls, i + 1, k, v, h, e => by
    obtain ⟨g', l', h1, h2, h3⟩ := pairs_get (gs := gs) (ls := ls) (i := i) (by simpa using h) (by simpa [pairs] using e)
    exact ⟨g', l', by simpa using h1, by simpa using h2, h3⟩
theorem pairs_app : ∀ {gs : Gs} {ls : List Addr} (g : Int × List Int) (l : Addr), ls.length = gs.length → pairs (gs ++ [g]) (ls ++ [l]) = pairs gs ls ++ [(.inl g.1, .ref l)]
  | [], [], _, _, _ => rfl
  | [], _ :: _, _, _, h => by cases h
  | _ :: _, [], _, _, h => by cases h
  | x :: gs, y :: ls, g, l, h => by
    show (_ :: pairs (gs ++ [g]) (ls ++ [l])) = _ :: (pairs gs ls ++ _)
    rw [pairs_app g l (by simpa using h)]
theorem pairs_set : ∀ {gs : Gs} {ls : List Addr} {i : Nat} {g : Int × List Int} (b : List Int), gs[i]? = some g → pairs (gs.set i (g.1, b)) ls = pairs gs ls
  | [], _, _, _, _, h => by simp at h
  | _ :: _, [], 0, _, _, _ => rfl
  | _ :: _, [], _ + 1, _, _, _ => rfl
  | x :: gs, l :: ls, 0, g, b, h => by
    have : x = g := Option.some.inj h
    subst this
    rfl
  | x :: gs, l :: ls, i + 1, g, b, h => by
    show (_ :: pairs (gs.set i (g.1, b)) ls) = _ :: pairs gs ls
    rw [pairs_set b (by simpa using h)]
theorem valV_pairs (name : Int) : ∀ {gs : Gs} {ls : List Addr}, ls.length = gs.length → valV (pairs gs ls) (.inl name) = (ls[gIx gs name]?).map V.ref
  | [], [], _ => rfl
  | [], _ :: _, h => by cases h
  | _ :: _, [], h => by cases h
  | g :: gs, l :: ls, h => by
    unfold gIx
    rw [List.findIdx_cons]
    by_cases e : g.1 = name
    · rw [decide_eq_true e]
      show valV ((Sum.inl g.1, V.ref l) :: pairs gs ls) (.inl name) = _
      rw [valV_pos (by rw [e])]
      rfl
    · rw [decide_eq_false e]
      show valV ((Sum.inl g.1, V.ref l) :: pairs gs ls) (.inl name) = _
      rw [valV_neg (by intro z; exact e (Sum.inl.inj z))]
      have := valV_pairs name (gs := gs) (ls := ls) (by simpa using h)
      unfold gIx at this
      simpa using this
theorem putK_new {kvs : List (Key × V)} {k : Key} {v : V} (h : valV kvs k = none) : putK kvs k v = kvs ++ [(k, v)] := by
  unfold putK
  rw [valV_any, h]
  rfl
section
variable {K : PySem.W.Frag} {M : PM} {B G H : Hp} {σ : L2.St} {ρ : Ev0}
theorem im_upd {q : Addr} {u o : HO} (hq : H q = some u) (n : imm u = false) : Im H (upd H q o) := fun b w i e => by
  have ne : b ≠ q := fun z => by
    rw [z, hq] at e
    cases e
    rw [n] at i; cases i
  rw [upd_ne ne]; exact e
theorem Ob.im' {H' : Hp} (e : Im H H') {v : V} {fs : List (Str × TD)} (h : Ob K H v fs) : Ob K H' v fs := by
  obtain ⟨a, C, dx, gs, rfl, h1, c, h2⟩ := h
  refine ⟨a, C, dx, gs, rfl, e _ _ rfl h1, c, fun f d hf => ?_⟩
  obtain ⟨n, u, l, t⟩ := h2 f d hf
  exact ⟨n, u, l, t.im e⟩
/-- an object of nobody is changed -/
theorem En.otherN {D : Addr} {u o : HO} (I : En K M B G H σ ρ) (h : H D = some u) (n : imm u = false) (hB : B D = none) (hG : G D = none) (nm : ¬ MA M D) (hn : ∀ (i : Nat) (q : Addr) (ds : List TD), ρ[i]? = some (some (.m q ds)) → q ≠ D) : En K M B G (upd H D o) σ ρ := by
  have im := im_upd (o := o) h n
  refine ⟨I.len, I.pool.other nm, fun a w z na => ?_, fun a w z => ?_, fun j y hj => ?_, I.ds⟩
  · have ne : a ≠ D := fun e => by rw [e, hB] at z; cases z
    rw [upd_ne ne]
    exact I.kB a w z na
  · have ne : a ≠ D := fun e => by rw [e, hG] at z; cases z
    rw [upd_ne ne]
    exact I.kG a w z
  · obtain ⟨w, h1, h2⟩ := I.sl j y hj
    refine ⟨w, h1, ?_⟩
    cases y with
    | p d => exact Tp.im im (show Tp K H w d from h2)
    | l ds' =>
      obtain ⟨q', vs', g1, g2, g3, g4⟩ := h2
      exact ⟨q', vs', g1, g2, g3.im im, g4⟩
    | f _ => exact h2.elim
    | m q' ds' =>
      obtain ⟨vs', g1, g2, g3, g4, g5, g6⟩ := h2
      exact ⟨vs', g1, by rw [upd_ne (hn j q' ds' hj)]; exact g2, g3.im im, g4, g5, g6⟩
    | o fs => exact Ob.im' im (show Ob K H w fs from h2)
    | pool => exact h2
    | fix u => exact h2
end
/-- the dict of lists as it stands -/
structure DP (M : PM) (B G : Hp) (d q1 : Addr) (H : Hp) (gs : Gs) : Prop where
  nm : ¬ MA M d
  dB : B d = none
  dG : G d = none
  dq : q1 ≠ d
  ex : ∃ ls : List Addr, ls.length = gs.length ∧ H d = some (.dK (pairs gs ls)) ∧ ls.Nodup ∧ (∀ l ∈ ls, ¬ MA M l ∧ B l = none ∧ G l = none ∧ q1 ≠ l) ∧ ∀ (i : Nat) g l, gs[i]? = some g → ls[i]? = some l → H l = some (.lst (g.2.map V.int))
theorem DP.le {M : PM} {B G H H' : Hp} {d q1 : Addr} {gs : Gs} (h : DP M B G d q1 H gs) (e : Le M H H') : DP M B G d q1 H' gs := by
  obtain ⟨ls, h1, h2, h3, h4, h5⟩ := h.ex
  exact ⟨h.nm, h.dB, h.dG, h.dq, ls, h1, e _ _ h2 h.nm, h3, h4, fun i g l hg hl => e _ _ (h5 i g l hg hl) (h4 l (List.mem_of_getElem? hl)).1⟩
theorem nodup_ix {ls : List Addr} {i j : Nat} {l : Addr} (h : ls.Nodup) (hi : ls[i]? = some l) (hj : ls[j]? = some l) : i = j := by
  obtain ⟨b1, c1⟩ := List.getElem?_eq_some_iff.mp hi
  obtain ⟨b2, c2⟩ := List.getElem?_eq_some_iff.mp hj
  have h := List.pairwise_iff_getElem.mp h
  rcases Nat.lt_trichotomy i j with q | q | q
  · exact absurd (c1.trans c2.symm) (h i j b1 b2 q)
  · exact q
  · exact absurd (c2.trans c1.symm) (h j i b2 b1 q)
def Pz (z : Option Dt) : Prop := z = none ∨ ∃ d, z = some (.p d)
/-- the environment of the walk of parts -/
def eP5 (w : Wb) (q1 d : Addr) (ns : List Int) (z3 z4 : Option Dt) : Ev0 := [some (wbD w), some (.m q1 (ns.map .int)), some (.fix (.ref d)), z3, z4, none]
theorem eP5_m {w : Wb} {q1 d : Addr} {ns : List Int} {z3 z4 : Option Dt} (h3 : Pz z3) (h4 : Pz z4) : ∀ (i : Nat) (q : Addr) (ds : List TD), (eP5 w q1 d ns z3 z4)[i]? = some (some (.m q ds)) → q = q1 := by
  intro i q ds h
  unfold eP5 at h
  match i, h with
  | 0, h => cases h
  | 1, h =>
    have h := Option.some.inj (Option.some.inj h)
    injection h with h1 h2
    exact h1.symm
  | 2, h => cases h
  | 3, h =>
    have h : z3 = some (.m q ds) := Option.some.inj h
    rcases h3 with e | ⟨x, e⟩ <;> rw [e] at h <;> cases h
  | 4, h =>
    have h : z4 = some (.m q ds) := Option.some.inj h
    rcases h4 with e | ⟨x, e⟩ <;> rw [e] at h <;> cases h
  | 5, h => cases h
  | n + 6, h => simp at h
section
variable {K : PySem.W.Frag} {M : PM} {B G H : Hp} {σ : L2.St}
/-- found.setdefault(name, []).append(v) -/
theorem setd_app {w : Wb} {q1 d : Addr} {ns : List Int} {name v : Int} {gs : Gs} {D : Ends} (I : En K M B G H σ (eP5 w q1 d ns (some (iD v)) (some (iD name)))) (P : DP M B G d q1 H gs) (hl : gs.length ≤ 1000) (hg : ∀ g ∈ gs, g.2.length ≤ 1000)
    (k : ∀ H', En K M B G H' σ (eP5 w q1 d ns (some (iD v)) (some (iD name))) → DP M B G d q1 H' (grpAdd gs name v) → D.nx σ H') :
    tDrop (tBM K "list" rAppend (tDSetd (tVar 2) (tVar 4) (tLst tNil)) (tCons (tVar 3) tNil)) D σ H := by
  obtain ⟨u2, h2, e2⟩ := I.sl 2 (.fix (.ref d)) rfl
  obtain ⟨u3, h3, t3⟩ := I.sl 3 (iD v) rfl
  obtain ⟨u4, h4, t4⟩ := I.sl 4 (iD name) rfl
  have e2 : u2 = .ref d := e2
  have e3 := Tp.int_inv t3
  have e4 := Tp.int_inv t4
  subst e2 e3 e4
  obtain ⟨ls, g1, g2, g3, g4, g5⟩ := P.ex
  have hnq := eP5_m (w := w) (q1 := q1) (d := d) (ns := ns) (z3 := some (iD v)) (z4 := some (iD name)) (.inr ⟨_, rfl⟩) (.inr ⟨_, rfl⟩)
  refine ⟨_, h2, d, rfl, .inl ⟨_, .of g2⟩, _, h4, Nat.zero_le _, fun p hp => ?_⟩
  have pd : p ≠ d := fun z => by rw [z, g2] at hp; cases hp
  have np : ¬ MA M p := I.pool.free hp
  have Bp : B p = none := I.kB.back I.pool hp
  have Gp := I.freshG hp
  have qp : q1 ≠ p := I.freshNe hp 1 q1 _ rfl
  have hd5 : (upd H p (.lst [])) d = some (.dK (pairs gs ls)) := by rw [upd_ne (Ne.symm pd)]; exact g2
  have I5 := I.new (o := .lst []) hp
  have lp : ∀ l ∈ ls, l ≠ p := fun l hlm z => by
    obtain ⟨j, hj⟩ := List.mem_iff_getElem?.mp hlm
    have hjl := (List.getElem?_eq_some_iff.mp hj).1
    have := g5 j gs[j] l (List.getElem?_eq_getElem (by omega)) hj
    rw [z, hp] at this; cases this
  have ld : ∀ l ∈ ls, l ≠ d := fun l hlm z => by
    obtain ⟨j, hj⟩ := List.mem_iff_getElem?.mp hlm
    have hjl := (List.getElem?_eq_some_iff.mp hj).1
    have := g5 j gs[j] l (List.getElem?_eq_getElem (by omega)) hj
    rw [z, g2] at this; cases this
  refine ⟨pairs gs ls, .inl name, hd5, rfl, by rw [pairs_len g1]; exact sz_lt hl, fun u hu => ?_, fun hu => ?_⟩
  · rw [valV_pairs name g1] at hu
    cases hl0 : ls[gIx gs name]? with
    | none => rw [hl0] at hu; cases hu
    | some l =>
      rw [hl0] at hu
      have eu : V.ref l = u := Option.some.inj hu
      subst eu
      have hlm := List.mem_of_getElem? hl0
      obtain ⟨nl, Bl, Gl, ql⟩ := g4 l hlm
      have hlt := (List.getElem?_eq_some_iff.mp hl0).1
      obtain ⟨g, hg0⟩ : ∃ g, gs[gIx gs name]? = some g := ⟨_, List.getElem?_eq_getElem (by omega)⟩
      have hl5 : (upd H p (.lst [])) l = some (.lst (g.2.map V.int)) := by rw [upd_ne (lp l hlm)]; exact g5 _ g l hg0 hl0
      refine ⟨.inl ⟨rfl, _, SqL.of hl5⟩, _, h3, l, _, _, rfl, rfl, hl5, by rw [List.length_map]; exact sz_lt (hg g (List.mem_of_getElem? hg0)), k _ (I5.other hl5 Bl Gl nl fun i q ds hi => by rw [hnq i q ds hi]; exact ql) ?_⟩
      have eg : grpAdd gs name v = gs.set (gIx gs name) (g.1, g.2 ++ [v]) := by unfold grpAdd; rw [hg0]
      rw [eg]
      refine ⟨P.nm, P.dB, P.dG, P.dq, ls, by rw [List.length_set]; exact g1, ?_, g3, g4, fun i x y hx hy => ?_⟩
      · rw [pairs_set _ hg0, upd_ne (Ne.symm (ld l hlm))]; exact hd5
      · by_cases e : gIx gs name = i
        · subst e
          rw [List.getElem?_set_self (by omega)] at hx
          rw [hl0] at hy
          cases hx
          cases hy
          rw [upd_same, List.map_append]; rfl
        · rw [List.getElem?_set_ne e] at hx
          have yl : y ≠ l := fun z => by
            subst z
            exact e (nodup_ix g3 hl0 hy)
          rw [upd_ne yl, upd_ne (lp y (List.mem_of_getElem? hy))]
          exact g5 i x y hx hy
  · have hu2 := hu
    rw [valV_pairs name g1] at hu
    have hl0 : ls[gIx gs name]? = none := by
      cases hl0 : ls[gIx gs name]? with
      | none => rfl
      | some l => rw [hl0] at hu; cases hu
    have hg0 : gs[gIx gs name]? = none := by
      rw [List.getElem?_eq_none_iff] at hl0 ⊢
      omega
    have I6 := I5.otherN (o := .dK (putK (pairs gs ls) (.inl name) (.ref p))) hd5 rfl P.dB P.dG P.nm fun i q ds hi => by rw [hnq i q ds hi]; exact P.dq
    have hp6 : (upd (upd H p (.lst [])) d (.dK (putK (pairs gs ls) (.inl name) (.ref p)))) p = some (.lst []) := by rw [upd_ne pd]; exact upd_same
    refine ⟨.inl ⟨rfl, _, SqL.of hp6⟩, _, h3, p, _, _, rfl, rfl, hp6, sz_lt (by decide), k _ (I6.other hp6 Bp Gp np fun i q ds hi => by rw [hnq i q ds hi]; exact qp) ?_⟩
    have eg : grpAdd gs name v = gs ++ [(name, [v])] := by unfold grpAdd; rw [hg0]
    rw [eg]
    refine ⟨P.nm, P.dB, P.dG, P.dq, ls ++ [p], by rw [List.length_append, List.length_append, g1]; rfl, ?_, ?_, fun l hlm => ?_, fun i x y hx hy => ?_⟩
    · rw [pairs_app _ _ g1, upd_ne (Ne.symm pd), upd_same, putK_new hu2]
    · rw [List.nodup_append]
      refine ⟨g3, by simp, fun a ha b hb => ?_⟩
      rw [List.mem_singleton.mp hb]
      exact lp a ha
    · rcases List.mem_append.mp hlm with q | q
      · exact g4 l q
      · rw [List.mem_singleton.mp q]; exact ⟨np, Bp, Gp, qp⟩
    · by_cases e : i < gs.length
      · rw [List.getElem?_append_left e] at hx
        rw [List.getElem?_append_left (by omega)] at hy
        have ym := List.mem_of_getElem? hy
        rw [upd_ne (lp y ym), upd_ne (ld y ym), upd_ne (lp y ym)]
        exact g5 i x y hx hy
      · have hi := (List.getElem?_eq_some_iff.mp hx).1
        rw [List.length_append, List.length_singleton] at hi
        have ei : i = gs.length := by omega
        subst ei
        rw [List.getElem?_append_right (Nat.le_refl _), Nat.sub_self] at hx
        rw [← g1, List.getElem?_append_right (Nat.le_refl _), Nat.sub_self] at hy
        cases hx
        cases hy
        exact upd_same
end
section
variable {K : PySem.W.Frag} {H : Hp}
theorem sqT_frz {d : Addr} {od : Obj} {kvs : List (Key × V)} {o : HO} (hd : H d = some (.frz od (.dK kvs))) {a : Addr} {xs : List V} (h : SqT K H a xs) : SqT K (upd H d o) a xs := by
  rcases h with (h | ⟨u, h⟩) | h
  · exact .inl (.inl (by rw [upd_ne (ne_of h hd (by intro z; cases z))]; exact h))
  · exact .inl (.inr ⟨u, by rw [upd_ne (ne_of h hd (by intro z; cases z))]; exact h⟩)
  · exact .inr h
mutual
theorem Tp.frzU {d : Addr} {od : Obj} {kvs : List (Key × V)} {o : HO} (hd : H d = some (.frz od (.dK kvs))) : ∀ {t : TD} {v : V}, Tp K H v t → Tp K (upd H d o) v t
  | .non, _, h => by cases h; exact .non
  | .bl b, _, h => by cases h; exact .bl b
  | .int i, _, h => by cases h; exact .int i
  | .tup ds, _, h => by
    cases h with
    | tup hs ha => exact .tup (sqT_frz hd hs) (TpAll.frzU hd ha)
theorem TpAll.frzU {d : Addr} {od : Obj} {kvs : List (Key × V)} {o : HO} (hd : H d = some (.frz od (.dK kvs))) : ∀ {ds : List TD} {vs : List V}, TpAll K H vs ds → TpAll K (upd H d o) vs ds
  | [], _, h => by cases h; exact .nil
  | t :: ds, _, h => by
    cases h with
    | cons h1 h2 => exact .cons (Tp.frzU hd h1) (TpAll.frzU hd h2)
end
abbrev tI (b : List Int) : TD := TD.tup (b.map TD.int)
theorem paired_of : ∀ {bs : List (List Int)} {xs : List V}, TpAll K H xs (bs.map tI) → Paired (TupB K H) xs bs
  | [], _, h => by cases h; exact .nil
  | b :: bs, _, h => by
    cases h with
    | cons h1 h2 =>
      obtain ⟨t, ys, rfl, g1, g2⟩ := h1.tup_inv
      exact .cons ⟨t, rfl, by rw [← g2.ints]; exact g1⟩ (paired_of h2)
theorem paired_to {bs : List (List Int)} {xs : List V} (h : Paired (TupB K H) xs bs) : TpAll K H xs (bs.map tI) := by
  induction h with
  | nil => exact .nil
  | cons h1 h2 ih =>
    obtain ⟨t, e, g⟩ := h1
    rw [e]
    exact .cons (.tup g (TpAll.ofInts _)) ih
end
section
variable {K : PySem.W.Frag} {M : PM} {B G H : Hp} {σ : L2.St}
/-- return sorted([tuple(lot) for lot in found.values()]) -/
theorem vals_sorted {w : Wb} {q1 d : Addr} {ns : List Int} {z3 z4 : Option Dt} {gs : Gs} {D : Ends} (I : En K M B G H σ (eP5 w q1 d ns z3 z4)) (P : DP M B G d q1 H gs) (hl : gs.length ≤ 1000) (hg : ∀ g ∈ gs, g.2 ≠ [])
    (k : ∀ v H', Le M B H' → Pool M H' → Rp K M B H' v (.f (((gs.map (·.2)).mergeSort leI).map tI)) → D.rt v H') :
    tRet (tLockE (tCB (rSortD K) (tCons (tLc (iVals (tVar 2)) (gName 5) tYes (tCB (rTupOf K) (tCons (tVar 5) tNil)) [5]) tNil))) D σ H := by
  obtain ⟨u2, h2, e2⟩ := I.sl 2 (.fix (.ref d)) rfl
  have e2 : u2 = .ref d := e2
  subst e2
  obtain ⟨ls, g1, g2, g3, g4, g5⟩ := P.ex
  refine ⟨d, .dK (pairs gs ls), g2, trivial, fun od => ?_⟩
  obtain ⟨HL, eHL⟩ : ∃ HL, HL = upd H d (.frz od (.dK (pairs gs ls))) := ⟨_, rfl⟩
  rw [← eHL]
  have hdL : HL d = some (.frz od (.dK (pairs gs ls))) := by rw [eHL]; exact upd_same
  have pL : Pool M HL := by rw [eHL]; exact I.pool.other P.nm
  have hlL : ∀ (i : Nat) g l, gs[i]? = some g → ls[i]? = some l → HL l = some (.lst (g.2.map V.int)) := fun i g l hg hl => by
    have h5 := g5 i g l hg hl
    rw [eHL, upd_ne (fun z => by rw [z, g2] at h5; cases h5)]; exact h5
  have hBL : ∀ a o, B a = some o → ¬ MA M a → HL a = some o := fun a o ha na => by
    rw [eHL, upd_ne (fun z => by rw [z, P.dB] at ha; cases ha)]
    exact I.kB a o ha na
  have hlen := pairs_len g1
  refine ⟨_, h2, d, od, pairs gs ls, rfl, hdL, fun Dn hDn => ?_⟩
  have nDn : ¬ MA M Dn := pL.free hDn
  refine ⟨fun i m H2 => m = gs.length - i ∧ i ≤ gs.length ∧ ∃ acc, H2 Dn = some (.lst acc) ∧ TpAll K H2 acc (((gs.take i).map (·.2)).map tI) ∧ Le M HL H2 ∧ Pool M H2, ⟨gs.length, by simp, Nat.zero_le _, [], upd_same, .nil, Le.new hDn, pL.new hDn⟩, ?_⟩
  rintro i m H2 ⟨rfl, hle, acc, hD, tA, le2, p2⟩
  have hd2 := le2 d _ hdL P.nm
  by_cases hlt : i < gs.length
  · refine .inr ⟨⟨hd2, by omega⟩, fun H3 => (fun m => i + 1 ≤ gs.length ∧ ∃ acc, H3 Dn = some (.lst acc) ∧ TpAll K H3 acc (((gs.take (i + 1)).map (·.2)).map tI) ∧ Le M HL H3 ∧ Pool M H3) (), fun H3 h => ⟨gs.length - (i + 1), by omega, rfl, h⟩, fun x H3 y => ?_⟩
    obtain ⟨eH, ky, hk⟩ := y
    subst eH
    obtain ⟨g, l, hg0, hl0, ex⟩ := pairs_get g1 hk
    subst ex
    obtain ⟨nl, Bl, Gl, ql⟩ := g4 l (List.mem_of_getElem? hl0)
    have hl2 := le2 l _ (hlL i g l hg0 hl0) nl
    refine ⟨wipe1_set σ 5 _, ?_⟩
    have hσ5 : ((wipe σ [5]).set 5 (some (V.ref l)))[5]? = some (some (.ref l)) := by
      rw [List.getElem?_set_self (by rw [wipe_length, I.len]; show 5 < 6; decide)]
    unfold tYes
    dsimp only
    rw [if_pos rfl]
    refine ⟨_, hσ5, l, _, rfl, .inl ⟨SqL.of hl2, fun T hT => ?_⟩⟩
    have TD' : T ≠ Dn := fun z => by rw [z, hD] at hT; cases hT
    have hD4 : (upd H3 T (.tup (g.2.map V.int))) Dn = some (.lst acc) := by rw [upd_ne (Ne.symm TD')]; exact hD
    have hz : acc.length < sizeLine := by
      rw [tA.length, List.length_map, List.length_map, List.length_take]
      exact sz_lt (by omega)
    refine ⟨acc, hD4, hz, by omega, acc ++ [.ref T], upd_same, ?_, fun a o ha na => ?_, (p2.new hT).other nDn⟩
    · rw [List.take_add_one, hg0, List.map_append, List.map_append]
      refine TpAll.app ((tA.le p2 (Le.new hT)).mut hD4) (.cons (.tup (SqT.of (by rw [upd_ne TD']; exact upd_same)) (TpAll.ofInts _)) .nil)
    · have h3 := le2 a o ha na
      rw [upd_ne (fun z => by rw [z, hDn] at ha; cases ha), upd_ne (ne_of_none h3 hT)]
      exact h3
  · have e : i = gs.length := by omega
    subst e
    rw [List.take_length] at tA
    refine .inl ⟨⟨hd2, by omega⟩, Dn, gs.map (·.2), acc, rfl, SqL.of hD, paired_of tA, fun b hb => ?_, by rw [List.length_map]; omega, fun p ys hp hy => ?_⟩
    · obtain ⟨g, hgm, eb⟩ := List.mem_map.mp hb
      rw [← eb]; exact hg g hgm
    · have pd : p ≠ d := fun z => by rw [z, hd2] at hp; cases hp
      have hd6 : (upd H2 p (.lst ys)) d = some (.frz od (.dK (pairs gs ls))) := by rw [upd_ne (Ne.symm pd)]; exact hd2
      refine ⟨hd6, k _ _ (fun a o ha na => ?_) ((p2.new hp).other P.nm) ⟨p, ys, rfl, by rw [upd_ne pd]; exact upd_same, ((paired_to hy).le p2 (Le.new hp)).frzU hd6, ?_⟩⟩
      · have ha2 := le2 a o (hBL a o ha na) na
        rw [upd_ne (fun z => by rw [z, P.dB] at ha; cases ha), upd_ne (ne_of_none ha2 hp)]
        exact ha2
      · cases hB : B p with
        | none => rfl
        | some o =>
          have np : ¬ MA M p := p2.free hp
          have := le2 p o (hBL p o hB np) np
          rw [hp] at this; cases this
end
section
variable {P : Program} {w : World} {K : PySem.W.Frag} {mg : Str → Option Value} {base : Heap}
theorem enumM_raw {M : PM} {ρ : Ev0} {s : Nat} {a : Addr} {ds : List TD} (h : ρ[s]? = some (some (.m a ds))) {B G H : Hp} {σ : L2.St} {R : It → Hp → Prop} (I : En K M B G H σ ρ)
    (q : ∀ J Ok, Src K M J (enumD ds) Ok → (∀ (n : Nat) H2 σ2 ρ2, En K (M.1, n) B G H2 σ2 ρ2 → ρ2[s]? = some (some (.m a ds)) → Ok H2) → R J H) : iEnum K (tCons (tVar s) tNil) σ H R := by
  obtain ⟨v, hv, xs, rfl, hs, hx, _⟩ := I.sl s _ h
  refine ⟨_, hv, a, xs, rfl, SqL.of hs, q _ (fun H2 => ∃ ys, H2 a = some (.lst ys) ∧ TpAll K H2 ys ds) ⟨fun i H2 hi ok => ?_, fun H2 ok => ?_, fun n i H2 x H3 d hd ok hp y => ?_⟩ fun n2 H2 σ2 ρ2 J2 h2 => ?_⟩
  · obtain ⟨ys, g1, g2⟩ := ok
    rw [enum_len] at hi
    have hl : i < ys.length := by rw [g2.length]; exact hi
    exact ⟨ys, ys[i], SqL.of g1, List.getElem?_eq_getElem hl⟩
  · obtain ⟨ys, g1, g2⟩ := ok
    exact ⟨ys, SqL.of g1, by rw [enum_len, g2.length]; exact Nat.le_refl _⟩
  · obtain ⟨ys, g1, g2⟩ := ok
    obtain ⟨T, x1, rfl, hT, rfl, y⟩ := y
    obtain ⟨e, he, rfl⟩ := enum_get hd
    obtain ⟨w, hw, rw'⟩ := g2.get he
    have := y ys (SqL.of g1)
    rw [hw] at this
    cases this
    exact pair_new hp hT (Tp.int _) rw'
  · obtain ⟨v2, _, ys, _, g1, g2, _⟩ := J2.sl s _ h2
    exact ⟨ys, g1, g2⟩
def sp_parts (K : PySem.W.Frag) : Sp := spX K (A := Wb) (fun a => [wbD a]) Wb.Ok (fun a x => x = .f ((partsV a).map tI))
theorem so_parts {M : PM} {w : Wb} (h : w.Ok) : SpOk K M (sp_parts K) [wbD w] (fun x => x = .f ((partsV w).map tI)) := spX_ok w h
theorem groups_len (ns : List Int) : ∀ i, (groupsV ns i).length ≤ i ∧ (∀ g ∈ groupsV ns i, g.2 ≠ []) ∧ ∀ g ∈ groupsV ns i, g.2.length ≤ i := by
  intro i
  induction i with
  | zero => exact ⟨Nat.le_refl _, (fun g hg => nomatch hg), (fun g hg => nomatch hg)⟩
  | succ i ih =>
    obtain ⟨h1, h2, h3⟩ := ih
    cases e : ns[i]? with
    | none =>
      have : groupsV ns (i + 1) = groupsV ns i := by
        unfold groupsV
        rw [List.take_add_one, List.getElem?_zipIdx, e]
        simp
      rw [this]
      exact ⟨by omega, h2, fun g hg => by have := h3 g hg; omega⟩
    | some x =>
      rw [groups_succ e]
      have := grp_len (groupsV ns i) x (i : Int)
      exact ⟨by omega, grp_ne h2, grp_each h3⟩
theorem ok_parts (G : Gp K mg) (F : Fu K mg "parts" "parts" "parts" s_parts ["web"])
    (D_lots_of : Df P w K mg base 2 "lots_of" ["web"] (sp_lots_of K)) : Df P w K mg base 3 "parts" ["web"] (sp_parts K) := by
  exact df_mk F sc_parts (fun _ => rfl) fun f cdv A' outer s H E hr => ⟨_, (pss_cons (ps_set (i := 1) sc_parts.nd rfl (Or.inl rfl) (pe_callD D_lots_of hr (by decide) (by rfl) (pa_cons (pv 0) pa_nil)))
  (pss_cons (ps_set (i := 2) sc_parts.nd rfl (Or.inl rfl) pe_dnewK)
  (pss_cons (ps_for PassesOwn.never rfl (pi_enum (by rfl) G.n_enumerate (pa_cons (pv 1) pa_nil)) (pg_tup rfl (pgs_cons (pg_name (i := 3) sc_parts.nd rfl (Or.inl rfl)) (pgs_cons (pg_name (i := 4) sc_parts.nd rfl (Or.inl rfl)) pgs_nil)))
   (pss_one (ps_expr (pe_bm PySem.F.plainAttrs_list PySem.F.slot_list_append PySem.F.type_list_append mt_append (pe_dsetd (pv 2) (pv 4) (pe_lst pa_nil) ⟨by rfl, by rfl, by rfl, by rfl⟩) (pa_cons (pv 3) pa_nil)))))
  (pss_one (ps_ret (pe_lock (pe_callB (cr_sortedD hr) (by rfl) G.n_sorted bb_sorted (pa_cons (pe_lc (own := [("lot", 5)]) rfl sc_parts.nd (pi_values (pv 2)) (blkOk_by (own := [("lot", 5)]) (N := n_parts) (sc := defScope s_parts) (by decide +kernel)) (fun _ _ _ _ _ => (pg_name (i := 5) sc_parts.nd rfl (Or.inl rfl))) (fun _ _ _ _ _ => pts_nil) (fun _ _ _ _ _ => (pe_callTy (call_tuple_ofK K) (by rfl) G.n_tuple bb_tuple (pa_cons (pv 5) pa_nil)))) pa_nil)))))))), fun M a h => by
    have hn := lotsV_len a.ws.length a.ps
    have h12 := h.len.2
    refine sx_seq (sx_setf (ex_call (xs := [wbD a]) (by walk_at "ev") (so_lots_of h)) fun q1 => ?_)
    have epv : partsV a = ((groupsV (lotsV a.ws.length a.ps) a.ws.length).map (·.2)).mergeSort leI := rfl
    show SX K M _ _ (fin fun x => x = .f ((partsV a).map tI))
    rw [epv]
    generalize lotsV a.ws.length a.ps = ns at *
    intro B G0 H0 σ I D q d hd
    have I1 : En K M B G0 (upd H0 d (.dK [])) (σ.set 2 (some (.ref d))) (eP5 a q1 d ns none none) := (I.new (o := .dK []) hd).set (i := 2) (x := .fix (.ref d)) rfl trivial
    have qd : q1 ≠ d := I.freshNe hd 1 q1 _ rfl
    have P1 : DP M B G0 d q1 (upd H0 d (.dK [])) [] := ⟨I.pool.free hd, I.kB.back I.pool hd, I.freshG hd, qd, [], rfl, upd_same, List.nodup_nil, (fun l hl => nomatch hl), fun i g l hg => by simp at hg⟩
    change (tSeq (tFor (iEnum K (tCons (tVar 1) tNil)) _ _) _ : TS) D (σ.set 2 (some (V.ref d))) (upd H0 d (.dK []))
    unfold tSeq tFor
    refine enumM_raw (s := 1) (a := q1) (ds := ns.map .int) rfl I1 fun J Ok S ok => ?_
    have hds : (enumD (ns.map TD.int)).length = ns.length := by rw [enum_len, List.length_map]
    refine ⟨fun i m σ2 H2 => m = ns.length - i ∧ i ≤ ns.length ∧ ∃ z3 z4, Pz z3 ∧ Pz z4 ∧ En K M B G0 H2 σ2 (eP5 a q1 d ns z3 z4) ∧ DP M B G0 d q1 H2 (groupsV ns i), ⟨ns.length, by simp, Nat.zero_le _, none, none, .inl rfl, .inl rfl, I1, P1⟩, ?_⟩
    rintro i m σ2 H2 ⟨rfl, hle, z3, z4, Z3, Z4, I2, P2⟩
    obtain ⟨gl1, gl2, gl3⟩ := groups_len ns i
    have okH := ok M.2 H2 σ2 _ I2 rfl
    by_cases hlt : i < ns.length
    · refine .inr ⟨S.goes i H2 (by omega) okH, fun σ3 H3 => (fun _ : Unit => i + 1 ≤ ns.length ∧ ∃ z3 z4, Pz z3 ∧ Pz z4 ∧ En K M B G0 H3 σ3 (eP5 a q1 d ns z3 z4) ∧ DP M B G0 d q1 H3 (groupsV ns (i + 1))) (), fun σ3 H3 h => ⟨ns.length - (i + 1), by omega, rfl, h⟩, fun x H3 y => ?_⟩
      obtain ⟨r, e, hp⟩ := S.yields M.2 i H2 x H3 _ (List.getElem?_eq_getElem (by omega)) okH I2.pool y
      obtain ⟨nm, hnm, ed, _⟩ := enumM_get (List.getElem?_eq_getElem (l := enumD (ns.map TD.int)) (i := i) (by omega))
      rw [ed] at r
      refine (gx_tup2 (gx_name (gx_name (Pe := fun ρ2 => ρ2 = eP5 a q1 d ns (some (iD (i : Int))) (some (iD nm))) rfl))) B G0 H3 σ2 x (I2.step e hp) r _ fun σ4 H4 ρ4 e4 I4 l4 => ?_
      subst e4
      refine setd_app I4 ((P2.le e).le l4) (by omega) (fun g hg => by have := gl3 g hg; omega) fun H' I5 P5 => ⟨by omega, _, _, .inr ⟨_, rfl⟩, .inr ⟨_, rfl⟩, I5, ?_⟩
      rw [groups_succ hnm]
      exact P5
    · have ei : i = ns.length := by omega
      subst ei
      refine .inl ⟨by rw [← hds]; exact S.stops H2 okH, ?_⟩
      rw [hn] at P2
      rw [hn] at gl1 gl2
      exact vals_sorted I2 P2 (by omega) gl2 fun v H' k1 k2 k3 => q (.rt (.f ((((groupsV ns a.ws.length).map fun g : Int × List Int => g.2).mergeSort leI).map tI))) rfl v H' k1 k2 k3⟩
end
end K37
end
section
set_option Elab.async false
set_option linter.all false
set_option maxRecDepth 100000
set_option maxHeartbeats 4000000
namespace K37
open PySem PySem.Spec PyProof.Rows L2
local macro_rules | `(tactic| walk_at "ev") => `(tactic| (repeat' (first
  | exact ev_p rfl | exact ev_m rfl | exact ev_l rfl | exact ev_o rfl | exact ev_pool rfl | exact ev_int | exact ev_bl | exact ev_non | exact evs_nil | exact evt_nil
  | apply evs_cons | apply evt_cons | apply ev_ix0 | apply ev_ix1 | apply ev_ix2
  | apply ev_I0 | apply ev_IB | apply ev_eqI | apply ev_neI | apply ev_neg | apply ev_abs
  | apply ev_lenT | apply ev_lenL | apply ev_lenF | apply ev_isN | apply ev_notN | apply et_test | apply et_B | apply et_not
  | apply ev_isiI | apply ev_isiB | apply ev_isiT | apply ev_chainI | apply ev_not | apply ev_max2 | apply ev_min2 | apply ev_max3 | apply ev_int1 | apply ev_sorts | apply ev_kinds | apply ev_widths | apply ev_pipes)))
abbrev s_least_square : Stmt := topS 81
abbrev n_least_square : List Str := ["web", "filling", "found", "part", "vessel", "water"]
theorem sc_least_square : FnScope n_least_square ["web", "filling"] (defScope s_least_square) := ⟨rfl, rfl, rfl, by decide +kernel, rfl, by decide +kernel, by decide +kernel⟩

abbrev s_most_measures : Stmt := topS 82
abbrev n_most_measures : List Str := ["book", "web", "sorts", "filling", "least", "square", "water", "width", "found"]
theorem sc_most_measures : FnScope n_most_measures ["book", "web", "sorts", "filling"] (defScope s_most_measures) := ⟨rfl, rfl, rfl, by decide +kernel, rfl, by decide +kernel, by decide +kernel⟩

def Bd (k : Nat) (x : Int) : Prop := x.natAbs < 2 ^ k
theorem Bd.mono {j k : Nat} {x : Int} (h : Bd j x) (l : j ≤ k) : Bd k x := Nat.lt_of_lt_of_le h (Nat.pow_le_pow_right (by decide) l)
theorem Bd.mul {j k : Nat} {x y : Int} (h : Bd j x) (g : Bd k y) : Bd (j + k) (x * y) := L2.wide_lt h g
theorem Bd.add {k : Nat} {x y : Int} (h : Bd k x) (g : Bd k y) : Bd (k + 1) (x + y) := by
  unfold Bd at *
  have := Int.natAbs_add_le x y
  rw [Nat.pow_succ]
  omega
theorem Bd.sub {k : Nat} {x y : Int} (h : Bd k x) (g : Bd k y) : Bd (k + 1) (x - y) := by
  unfold Bd at *
  have := Int.natAbs_sub_le x y
  rw [Nat.pow_succ]
  omega
theorem Bd.sm {k : Nat} {x : Int} (h : Bd k x) (l : k ≤ 1000) : Sm x := h.mono l
theorem Bd.of {x : Int} (h : x.natAbs ≤ 1000000000) : Bd 30 x := Nat.lt_of_le_of_lt h (by decide)
theorem mk_bd {k j : Nat} {t b : Int} (h : 0 < b) (h1 : Bd k t) (h2 : Bd j b) : 0 < (mk t b).2 ∧ Bd k (mk t b).1 ∧ Bd j (mk t b).2 := by
  have m := mk_den (t := t) h
  refine ⟨m.1, Nat.lt_of_le_of_lt mk_num h1, Nat.lt_of_le_of_lt ?_ h2⟩
  omega
structure FB (x : Fr) : Prop where
  p : 0 < x.2
  n : Bd 30 x.1
  d : Bd 30 x.2
theorem sum_bd {xs : List Fr} (h : ∀ x ∈ xs, FB x) : ∀ i, 0 < (sumF (xs.take i)).2 ∧ Bd (31 * (i + 1)) (sumF (xs.take i)).1 ∧ Bd (31 * (i + 1)) (sumF (xs.take i)).2 := by
  intro i
  induction i with
  | zero =>
    rw [List.take_zero]
    exact ⟨by decide, Bd.mono (j := 30) (Bd.of (by decide)) (by decide), Bd.mono (j := 30) (Bd.of (by decide)) (by decide)⟩
  | succ i ih =>
    obtain ⟨h1, h2, h3⟩ := ih
    cases e : xs[i]? with
    | none =>
      have : xs.take (i + 1) = xs.take i := by rw [List.take_add_one, e]; simp
      rw [this]
      exact ⟨h1, h2.mono (by omega), h3.mono (by omega)⟩
    | some x =>
      rw [sumF_succ e]
      have hx := h x (List.mem_of_getElem? e)
      exact mk_bd (Int.mul_pos h1 hx.p) (((h2.mul hx.d).add ((hx.n.mul h3).mono (by omega))).mono (by omega)) ((h3.mul hx.d).mono (by omega))
theorem sum_all {xs : List Fr} (h : ∀ x ∈ xs, FB x) (hl : xs.length ≤ 12) : TotOk xs ∧ 0 < (sumF xs).2 ∧ Bd 403 (sumF xs).1 ∧ Bd 403 (sumF xs).2 := by
  refine ⟨⟨fun i hi => ?_, fun x hx => ⟨(h x hx).p, (h x hx).n.sm (by decide), (h x hx).d.sm (by decide)⟩⟩, ?_⟩
  · obtain ⟨h1, h2, h3⟩ := sum_bd h i
    exact ⟨h1, h2.sm (by omega), h3.sm (by omega)⟩
  · obtain ⟨h1, h2, h3⟩ := sum_bd h xs.length
    rw [List.take_length] at h1 h2 h3
    exact ⟨h1, h2.mono (by omega), h3.mono (by omega)⟩
/-! ### the lots' vessels -/
theorem grp_mem {gs : Gs} {n v : Int} {Q : Int → Prop} (h : ∀ g ∈ gs, ∀ x ∈ g.2, Q x) (hv : Q v) : ∀ g ∈ grpAdd gs n v, ∀ x ∈ g.2, Q x := by
  intro g hg x hx
  unfold grpAdd at hg
  split at hg
  · rename_i y hy
    rcases List.mem_or_eq_of_mem_set hg with q | q
    · exact h g q x hx
    · rw [q] at hx
      rcases List.mem_append.mp hx with r | r
      · exact h y (List.mem_of_getElem? hy) x r
      · rw [List.mem_singleton.mp r]; exact hv
  · rcases List.mem_append.mp hg with q | q
    · exact h g q x hx
    · rw [List.mem_singleton.mp q] at hx
      rw [List.mem_singleton.mp hx]; exact hv
theorem groups_mem (ns : List Int) : ∀ i, ∀ g ∈ groupsV ns i, ∀ x ∈ g.2, 0 ≤ x ∧ x < (ns.length : Int) := by
  intro i
  induction i with
  | zero => intro g hg; cases hg
  | succ i ih =>
    cases e : ns[i]? with
    | none =>
      have : groupsV ns (i + 1) = groupsV ns i := by
        unfold groupsV
        rw [List.take_add_one, List.getElem?_zipIdx, e]
        simp
      rw [this]
      exact ih
    | some x =>
      rw [groups_succ e]
      have hi := (List.getElem?_eq_some_iff.mp e).1
      exact grp_mem ih ⟨by omega, by omega⟩
theorem parts_ok (w : Wb) : (partsV w).length ≤ w.ws.length ∧ ∀ b ∈ partsV w, b ≠ [] ∧ b.length ≤ w.ws.length ∧ ∀ v ∈ b, 0 ≤ v ∧ v < (w.ws.length : Int) := by
  have hn := lotsV_len w.ws.length w.ps
  obtain ⟨h1, h2, h3⟩ := groups_len (lotsV w.ws.length w.ps) w.ws.length
  have h4 := groups_mem (lotsV w.ws.length w.ps) w.ws.length
  rw [hn] at h4
  unfold partsV
  refine ⟨by rw [List.length_mergeSort, List.length_map]; exact h1, fun b hb => ?_⟩
  rw [List.mem_mergeSort] at hb
  obtain ⟨g, hg, eb⟩ := List.mem_map.mp hb
  rw [← eb]
  exact ⟨h2 g hg, h3 g hg, h4 g hg⟩
def at0 (xs : List Int) (v : Int) : Int := xs.getD v.toNat 0
def lsqP (w : Wb) (b : List Int) : Bool := b.all fun v => decide (at0 w.ws v > 0)
def lsqF (w : Wb) (fl b : List Int) : Fr := mk ((b.map (at0 fl)).sum * (b.map (at0 fl)).sum) (b.map (at0 w.ws)).sum
def lsqL (w : Wb) (fl : List Int) (n : Nat) : List Fr := (((partsV w).take n).filter (lsqP w)).map (lsqF w fl)
def sqL (w : Wb) (fl : List Int) : List Fr := (fl.zip w.ws).map fun p => partF (p.1 * p.1) p.2
def mmV (l : Option Fr) (w : Wb) (fl : List Int) : Int := match l with
  | none => 0
  | some l => (byF (subF (sumF (sqL w fl)) (sumF (lsqL w fl w.ws.length))) l).1 / (byF (subF (sumF (sqL w fl)) (sumF (lsqL w fl w.ws.length))) l).2
theorem sum_range {xs : List Int} {lo hi : Int} (h : ∀ x ∈ xs, lo ≤ x ∧ x ≤ hi) : lo * (xs.length : Int) ≤ xs.sum ∧ xs.sum ≤ hi * (xs.length : Int) := by
  induction xs with
  | nil => simp
  | cons x xs ih =>
    have h1 := h x (List.mem_cons_self ..)
    have h2 := ih fun y hy => h y (List.mem_cons_of_mem _ hy)
    rw [List.sum_cons, List.length_cons]
    have e1 : lo * ((xs.length + 1 : Nat) : Int) = lo * (xs.length : Int) + lo := by rw [Int.natCast_add, Int.mul_add]; simp
    have e2 : hi * ((xs.length + 1 : Nat) : Int) = hi * (xs.length : Int) + hi := by rw [Int.natCast_add, Int.mul_add]; simp
    omega
structure FlOk (w : Wb) (fl : List Int) : Prop where
  f : FillOk w fl
  b : ∀ x ∈ fl, x.natAbs ≤ 1000
theorem at0_get {xs : List Int} {v : Int} (h : 0 ≤ v) (h2 : v < (xs.length : Int)) : xs[v.toNat]? = some (at0 xs v) := getD_of (by omega)
theorem at0_mem {xs : List Int} {v : Int} (h : 0 ≤ v) (h2 : v < (xs.length : Int)) : at0 xs v ∈ xs := List.mem_of_getElem? (at0_get h h2)
theorem lsq_fb {w : Wb} {fl : List Int} (hw : w.Ok) (hf : FlOk w fl) {b : List Int} (hb : b ∈ partsV w) (hp : lsqP w b = true) : FB (lsqF w fl b) ∧ 0 < (b.map (at0 w.ws)).sum ∧ (b.map (at0 w.ws)).sum ≤ 144 ∧ ((b.map (at0 fl)).sum).natAbs ≤ 12000 := by
  obtain ⟨_, p2⟩ := parts_ok w
  obtain ⟨q1, q2, q3⟩ := p2 b hb
  have hlen := hw.len.2
  have hfl := hf.f.1
  have hpos : 0 < b.length := List.length_pos_iff.mpr q1
  have a1 := sum_range (xs := b.map (at0 w.ws)) (lo := 1) (hi := 12) fun x hx => by
    obtain ⟨v, hv, e⟩ := List.mem_map.mp hx
    have h1 := q3 v hv
    have h2 := hw.ws _ (at0_mem h1.1 h1.2)
    have h3 := List.all_eq_true.mp hp v hv
    have h3 := of_decide_eq_true h3
    rw [← e]; omega
  have a2 := sum_range (xs := b.map (at0 fl)) (lo := -1000) (hi := 1000) fun x hx => by
    obtain ⟨v, hv, e⟩ := List.mem_map.mp hx
    have h1 := q3 v hv
    have h2 := hf.b _ (at0_mem (xs := fl) (v := v) h1.1 (by omega))
    rw [← e]; omega
  rw [List.length_map] at a1 a2
  have b1 : 0 < (b.map (at0 w.ws)).sum := by omega
  have b2 : (b.map (at0 w.ws)).sum ≤ 144 := by omega
  have b3 : ((b.map (at0 fl)).sum).natAbs ≤ 12000 := by omega
  have b4 : ((b.map (at0 fl)).sum * (b.map (at0 fl)).sum).natAbs ≤ 12000 * 12000 := by
    rw [Int.natAbs_mul]; exact Nat.mul_le_mul b3 b3
  have m := mk_bd (k := 30) (j := 30) b1 (Bd.of (by omega : ((b.map (at0 fl)).sum * (b.map (at0 fl)).sum).natAbs ≤ 1000000000)) (Bd.of (by omega))
  exact ⟨⟨m.1, m.2.1, m.2.2⟩, b1, b2, b3⟩
theorem lsqL_fb {w : Wb} {fl : List Int} (hw : w.Ok) (hf : FlOk w fl) (n : Nat) : ∀ x ∈ lsqL w fl n, FB x := by
  intro x hx
  obtain ⟨b, hb, e⟩ := List.mem_map.mp hx
  obtain ⟨h1, h2⟩ := List.mem_filter.mp hb
  rw [← e]
  exact (lsq_fb hw hf (List.mem_of_mem_take h1) h2).1
theorem sqL_fb {w : Wb} {fl : List Int} (hw : w.Ok) (hf : FlOk w fl) : ∀ x ∈ sqL w fl, FB x := by
  intro x hx
  obtain ⟨p, hp, e⟩ := List.mem_map.mp hx
  have h1 := hf.b _ (List.of_mem_zip hp).1
  have h2 := hw.ws _ (List.of_mem_zip hp).2
  have h3 : (p.1 * p.1).natAbs ≤ 1000 * 1000 := by rw [Int.natAbs_mul]; exact Nat.mul_le_mul h1 h1
  rw [← e]
  unfold partF
  by_cases h0 : p.2 = 0
  · rw [if_pos h0]; exact ⟨by decide, Bd.of (by decide), Bd.of (by decide)⟩
  · rw [if_neg h0]
    have m := mk_bd (k := 30) (j := 30) (t := p.1 * p.1) (b := p.2) (by omega) (Bd.of (by omega)) (Bd.of (by omega))
    exact ⟨m.1, m.2.1, m.2.2⟩
section
variable {P : Program} {w : World} {K : PySem.W.Frag} {mg : Str → Option Value} {base : Heap}
def sp_least_square (K : PySem.W.Frag) : Sp := spX K (A := Wb × List Int) (fun a => [wbD a.1, .p (.tup (a.2.map .int))]) (fun a => a.1.Ok ∧ FlOk a.1 a.2) (fun a x => x = frD (sumF (lsqL a.1 a.2 a.1.ws.length)))
theorem so_least_square {M : PM} {w : Wb} {fl : List Int} (h : w.Ok) (h2 : FlOk w fl) : SpOk K M (sp_least_square K) [wbD w, .p (.tup (fl.map .int))] (fun x => x = frD (sumF (lsqL w fl w.ws.length))) := spX_ok (w, fl) ⟨h, h2⟩
theorem ok_least_square (G : Gp K mg) (F : Fu K mg "least_square" "least_square" "least_square" s_least_square ["web", "filling"])
    (D_parts : Df P w K mg base 3 "parts" ["web"] (sp_parts K))
    (D_made : Df P w K mg base 2 "made" ["top", "bottom"] (sp_made K))
    (D_total : Df P w K mg base 4 "total" ["rows"] (sp_total K)) : Df P w K mg base 5 "least_square" ["web", "filling"] (sp_least_square K) := by
  exact df_mk F sc_least_square (fun _ => rfl) fun f cdv A' outer s H E hr => ⟨_, (pss_cons (ps_set (i := 2) sc_least_square.nd rfl (Or.inl rfl) (pe_lst pa_nil))
  (pss_cons (ps_for PassesOwn.never rfl (pi_list (pe_callD D_parts hr (by decide) (by rfl) (pa_cons (pv 0) pa_nil))) (pg_name (i := 3) sc_least_square.nd rfl (Or.inl rfl))
   (pss_one (ps_if (pt_val (pe_callB (cr_all rfl) (by rfl) G.n_all bb_all (pa_cons (pe_lc (own := [("vessel", 4)]) rfl sc_least_square.nd (pi_tup (pv 3)) (blkOk_by (own := [("vessel", 4)]) (N := n_least_square) (sc := defScope s_least_square) (by decide +kernel)) (fun _ _ _ _ _ => (pg_name (i := 4) sc_least_square.nd rfl (Or.inl rfl))) (fun _ _ _ _ _ => pts_nil) (fun _ _ _ _ _ => (pe_cmpR op_gt (pe_ix (ix_tupK K) (pe_fldK K (pv 0) rfl) (pv 4) (fun _ _ => rfl)) pe_int (nomark _)))) pa_nil)))
   (pss_cons (ps_set (i := 5) sc_least_square.nd rfl (Or.inl rfl) (pe_callB (cr_sum rfl) (by rfl) G.n_sum bb_sum (pa_cons (pe_lc (own := [("vessel", 4)]) rfl sc_least_square.nd (pi_tup (pv 3)) (blkOk_by (own := [("vessel", 4)]) (N := n_least_square) (sc := defScope s_least_square) (by decide +kernel)) (fun _ _ _ _ _ => (pg_name (i := 4) sc_least_square.nd rfl (Or.inl rfl))) (fun _ _ _ _ _ => pts_nil) (fun _ _ _ _ _ => (pe_ix (ix_tupK K) (pv 1) (pv 4) (fun _ _ => rfl)))) pa_nil)))
  (pss_one (ps_expr (pe_bm PySem.F.plainAttrs_list PySem.F.slot_list_append PySem.F.type_list_append mt_append (pv 2) (pa_cons (pe_callD D_made hr (by decide) (by rfl) (pa_cons (pe_op op_mulW (pv 5) (pv 5)) (pa_cons (pe_callB (cr_sum rfl) (by rfl) G.n_sum bb_sum (pa_cons (pe_lc (own := [("vessel", 4)]) rfl sc_least_square.nd (pi_tup (pv 3)) (blkOk_by (own := [("vessel", 4)]) (N := n_least_square) (sc := defScope s_least_square) (by decide +kernel)) (fun _ _ _ _ _ => (pg_name (i := 4) sc_least_square.nd rfl (Or.inl rfl))) (fun _ _ _ _ _ => pts_nil) (fun _ _ _ _ _ => (pe_ix (ix_tupK K) (pe_fldK K (pv 0) rfl) (pv 4) (fun _ _ => rfl)))) pa_nil)) pa_nil))) pa_nil)))))
   pss_nil)))
  (pss_one (ps_ret (pe_callD D_total hr (by decide) (by rfl) (pa_cons (pv 2) pa_nil)))))), fun M a h => by
    obtain ⟨w, fl⟩ := a
    obtain ⟨hw, hf⟩ := h
    have hw : w.Ok := hw
    have hf : FlOk w fl := hf
    have hlen := hw.len.2
    have hfl := hf.f.1
    obtain ⟨pl, pm⟩ := parts_ok w
    refine sx_seq (sx_setf (ev_lst evt_nil) fun q => ?_)
    refine sx_seq (sx_for (wx_listFV (ds := (partsV w).map tI) (ex_call (xs := [wbD w]) (by walk_at "ev") (so_parts hw))) (fun i ρ' => ∃ z3 z4 z5, ρ' = [some (wbD w), some (.p (.tup (fl.map .int))), some (.m q ((lsqL w fl i).map eFr)), z3, z4, z5]) ⟨none, none, none, rfl⟩ (fun _ _ _ => trivial) (fun i d ρ' hd ⟨z3, z4, z5, e⟩ => ?_) fun ρ' ⟨z3, z4, z5, e⟩ => ?_)
    · obtain ⟨b, hb, ed, hm⟩ := map_get hd
      subst e ed
      obtain ⟨q1, q2, q3⟩ := pm b hm
      have hi := (List.getElem?_eq_some_iff.mp hb).1
      have hll : (lsqL w fl i).length ≤ 1000 := by
        unfold lsqL
        rw [List.length_map]
        have := List.length_filter_le (lsqP w) ((partsV w).take i)
        rw [List.length_take] at this
        omega
      refine gx_name (sx_ifB (b := lsqP w b) (et_B (ev_allM (xs := b) (f := fun v => decide (at0 w.ws v > 0)) (ev_lcMap (enc := .int) (wx_tupV (ds := b.map .int) (by walk_at "ev")) trivial (by omega) fun v hv => ev_IB (a := at0 w.ws v) (b := 0) (ev_ixT (ds := w.ws.map .int) (i := v) (by walk_at "ev") (by walk_at "ev") v.toNat (Int.toNat_of_nonneg (q3 v hv).1).symm (get_map (at0_get (q3 v hv).1 (q3 v hv).2))) ev_int))) (fun hp => ?_) fun hp => ?_)
      · obtain ⟨_, b1, b2, b3⟩ := lsq_fb hw hf hm hp
        refine sx_seq (sx_set (d := .int (b.map (at0 fl)).sum) (ev_sumM (xs := b) (f := at0 fl) (ev_lcMap (enc := .int) (wx_tupV (ds := b.map .int) (by walk_at "ev")) trivial (by omega) fun v hv => ev_ixT (ds := fl.map .int) (i := v) (by walk_at "ev") (by walk_at "ev") v.toNat (Int.toNat_of_nonneg (q3 v hv).1).symm (get_map (at0_get (xs := fl) (q3 v hv).1 (by rw [hfl]; exact (q3 v hv).2))))) ?_)
        refine sx_append (a := q) (ds := (lsqL w fl i).map eFr) (d := eFr (lsqF w fl b)) rfl (ex_call (xs := [iD ((b.map (at0 fl)).sum * (b.map (at0 fl)).sum), iD (b.map (at0 w.ws)).sum]) (evs_cons (ev_I (a := (b.map (at0 fl)).sum) (b := (b.map (at0 fl)).sum) (by walk_at "ev") (by walk_at "ev") (Sm.mulOk (.of (by omega)) (.of (by omega)))) (evs_cons (ev_sumM (xs := b) (f := at0 w.ws) (ev_lcMap (enc := .int) (wx_tupV (ds := b.map .int) (by walk_at "ev")) trivial (by omega) fun v hv => ev_ixT (ds := w.ws.map .int) (i := v) (by walk_at "ev") (by walk_at "ev") v.toNat (Int.toNat_of_nonneg (q3 v hv).1).symm (get_map (at0_get (q3 v hv).1 (q3 v hv).2)))) evs_nil)) (so_made b1 (Sm.of (by omega)).bg)) (by rw [List.length_map]; exact hll) ⟨some (.p (tI b)), z4, some (iD (b.map (at0 fl)).sum), ?_⟩
        have : lsqL w fl (i + 1) = lsqL w fl i ++ [lsqF w fl b] := by
          unfold lsqL
          rw [List.take_add_one, hb, List.filter_append, List.map_append]
          show _ ++ List.map _ (List.filter _ [b]) = _
          rw [List.filter_cons, if_pos hp]
          rfl
        rw [this, List.map_append]
        rfl
      · have : lsqL w fl (i + 1) = lsqL w fl i := by
          unfold lsqL
          rw [List.take_add_one, hb, List.filter_append, List.map_append]
          show _ ++ List.map _ (List.filter _ [b]) = _
          rw [List.filter_cons, if_neg (by rw [hp]; decide)]
          simp
        rw [this]
        exact sx_next ⟨_, _, _, rfl⟩
    · subst e
      have e1 : lsqL w fl ((partsV w).map tI).length = lsqL w fl w.ws.length := by
        unfold lsqL
        rw [List.length_map, List.take_length, List.take_of_length_le pl]
      rw [e1]
      have hL : (lsqL w fl w.ws.length).length ≤ 12 := by
        unfold lsqL
        rw [List.length_map]
        have := List.length_filter_le (lsqP w) ((partsV w).take w.ws.length)
        rw [List.length_take] at this
        omega
      exact sx_retV (ex_call (xs := [.l ((lsqL w fl w.ws.length).map eFr)]) (evs_cons (ev_m rfl) evs_nil) (so_total (sum_all (lsqL_fb hw hf _) hL).1)) rfl⟩
theorem least_pos {b : Bk} (h : b.Ok) (hn : NoBr b) : ∀ x ∈ lossesV b true, 0 < x.1 := by
  intro x hx
  obtain ⟨k, hk, hx⟩ := List.mem_flatMap.mp hx
  obtain ⟨j, hj, hx⟩ := List.mem_flatMap.mp hx
  obtain ⟨u, hu, e⟩ := List.mem_map.mp hx
  obtain ⟨_, _, g3, g4⟩ := h.at hk hj
  have hnone := hn k hk j hj
  have e1 : ∀ s, capd true s = s := fun s => rfl
  rw [e1, e1] at hu e
  have hg := gr_bd g3 g4
  have hh : hit (units k.1 (gr (ssAt b.ss j.1) (ssAt b.ss j.2))) (swingV (ssAt b.ss j.1) (ssAt b.ss j.2) (gr (ssAt b.ss j.1) (ssAt b.ss j.2))) u = false := by
    have := List.find?_eq_none.mp hnone u hu
    exact Bool.eq_false_iff.mpr this
  have h2 := of_decide_eq_false hh
  rw [← e]
  exact mk_pos (by omega) (by omega)
theorem leastF_mem {xs : List Fr} {l : Fr} (h : leastF xs = some l) : l ∈ xs := by
  cases xs with
  | nil => cases h
  | cons x xs =>
    have := Option.some.inj h
    rw [← this]
    exact fold_mem (x :: xs) (fun y hy => hy) (List.mem_cons_self ..)
def sp_most_measures (K : PySem.W.Frag) : Sp := spX K (A := Bk × Wb × List Nat × List Int) (fun a => [bkD a.1, wbD a.2.1, .p (eNs a.2.2.1), .p (.tup (a.2.2.2.map .int))]) (fun a => a.1.Ok ∧ NoBr a.1 ∧ a.2.1.Ok ∧ Of a.1 a.2.1 a.2.2.1 ∧ FlOk a.2.1 a.2.2.2) (fun a x => x = iD (mmV (leastF (lossesV a.1 true)) a.2.1 a.2.2.2))
theorem so_most_measures {M : PM} {b : Bk} {w : Wb} {vs : List Nat} {fl : List Int} (h1 : b.Ok) (h2 : NoBr b) (h3 : w.Ok) (h4 : Of b w vs) (h5 : FlOk w fl) : SpOk K M (sp_most_measures K) [bkD b, wbD w, .p (eNs vs), .p (.tup (fl.map .int))] (fun x => x = iD (mmV (leastF (lossesV b true)) w fl)) := spX_ok (b, w, vs, fl) ⟨h1, h2, h3, h4, h5⟩
theorem ok_most_measures (G : Gp K mg) (F : Fu K mg "most_measures" "most_measures" "most_measures" s_most_measures ["book", "web", "sorts", "filling"])
    (D_loss : Df P w K mg base 8 "loss" ["book"] (sp_loss K))
    (D_fault : Df P w K mg base 3 "fault" ["book", "web", "sorts"] (sp_fault K))
    (D_check_filling : Df P w K mg base 4 "check_filling" ["web", "thing"] (sp_check_filling K))
    (D_total : Df P w K mg base 4 "total" ["rows"] (sp_total K))
    (D_part_of : Df P w K mg base 3 "part_of" ["top", "width"] (sp_part_of K))
    (D_by : Df P w K mg base 3 "by" ["one", "other"] (sp_by K))
    (D_less : Df P w K mg base 3 "less" ["one", "other"] (sp_F2 K subF))
    (D_least_square : Df P w K mg base 5 "least_square" ["web", "filling"] (sp_least_square K)) : Df P w K mg base 9 "most_measures" ["book", "web", "sorts", "filling"] (sp_most_measures K) := by
  exact df_mk F sc_most_measures (fun _ => rfl) fun f cdv A' outer s H E hr => ⟨_, (pss_cons (ps_set (i := 4) sc_most_measures.nd rfl (Or.inl rfl) (pe_callD D_loss hr (by decide) (by rfl) (pa_cons (pv 0) pa_nil)))
  (pss_cons (ps_if (pt_cmpR op_notN (pe_callD D_fault hr (by decide) (by rfl) (pa_cons (pv 0) (pa_cons (pv 1) (pa_cons (pv 2) pa_nil)))) pe_non (nomark _))
   (pss_one ps_never)
   pss_nil)
  (pss_cons (ps_expr (pe_callD D_check_filling hr (by decide) (by rfl) (pa_cons (pv 1) (pa_cons (pv 3) pa_nil))))
  (pss_cons (ps_if (pt_cmpR op_isN (pv 4) pe_non (nomark _))
   (pss_one (ps_ret pe_int))
   pss_nil)
  (pss_cons (ps_set (i := 5) sc_most_measures.nd rfl (Or.inl rfl) (pe_callD D_total hr (by decide) (by rfl) (pa_cons (pe_lc (own := [("water", 6), ("width", 7)]) rfl sc_most_measures.nd (RZ.pi_zipA (by rfl) G.n_zip (pa_cons (pv 3) (pa_cons (pe_fld (pv 1) rfl) pa_nil))) (blkOk_by (own := [("water", 6), ("width", 7)]) (N := n_most_measures) (sc := defScope s_most_measures) (by decide +kernel)) (fun _ _ _ _ _ => (pg_tupK K (n := 2) rfl (pgs_cons (pg_name (i := 6) sc_most_measures.nd rfl (Or.inl rfl)) (pgs_cons (pg_name (i := 7) sc_most_measures.nd rfl (Or.inl rfl)) pgs_nil)))) (fun _ _ _ _ _ => pts_nil) (fun _ _ _ _ _ => (pe_callD D_part_of hr (by decide) (by rfl) (pa_cons (pe_op op_mulW (pv 6) (pv 6)) (pa_cons (pv 7) pa_nil))))) pa_nil)))
  (pss_cons (ps_set (i := 8) sc_most_measures.nd rfl (Or.inl rfl) (pe_callD D_by hr (by decide) (by rfl) (pa_cons (pe_callD D_less hr (by decide) (by rfl) (pa_cons (pv 5) (pa_cons (pe_callD D_least_square hr (by decide) (by rfl) (pa_cons (pv 1) (pa_cons (pv 3) pa_nil))) pa_nil))) (pa_cons (pv 4) pa_nil))))
  (pss_one (ps_ret (pe_op op_fdivW (pe_ix ix_tup (pv 8) pe_int (fun _ _ => rfl)) (pe_ix ix_tup (pv 8) pe_int (fun _ _ => rfl))))))))))), fun M a h => by
    obtain ⟨b, w, vs, fl⟩ := a
    obtain ⟨h1, h2, h3, h4, h5⟩ := h
    have h1 : b.Ok := h1
    have h3 : w.Ok := h3
    have h5 : FlOk w fl := h5
    have hlen := h3.len.2
    have hfl := h5.f.1
    have hpos := least_pos h1 h2
    have hok := losses_ok (c := true) h1
    have hsm := losses_sm (c := true) h1
    have hmem : ∀ l, leastF (lossesV b true) = some l → l ∈ lossesV b true := fun l e => leastF_mem e
    have hloss : ∀ D : Dt, lossD (leastF (lossesV b true)) = D → EV K M (tCall (sp_loss K) [] E0 (tCons (tVar 0) tNil)) (slots n_most_measures [bkD b, wbD w, .p (eNs vs), .p (.tup (fl.map .int))]) D := fun D e => (ex_call (xs := [bkD b]) (evs_cons (ev_o rfl) evs_nil) (so_loss h1 h2)).mono fun x ex => by rw [ex, e]
    show SX K M _ _ (fin fun x => x = iD (mmV (leastF (lossesV b true)) w fl))
    generalize hlv : leastF (lossesV b true) = lv at *
    cases lv with
    | none =>
      refine sx_seq (sx_set (d := .non) (hloss _ rfl) ?_)
      refine sx_seq (sx_ifF (et_test (ev_notN (d := .non) (ex_call (xs := [bkD b, wbD w, .p (eNs vs)]) (by walk_at "ev") (so_fault h1 h3 h4)))) (sx_next ?_))
      refine sx_seq (sx_drop ((ex_call (xs := [wbD w, .p (.tup (fl.map .int))]) (by walk_at "ev") (so_check_filling hlen h5.f)).mono fun _ _ => trivial) ?_)
      exact sx_seq (sx_ifT (et_test (ev_isN (d := .non) (by walk_at "ev"))) (sx_retV ev_int rfl))
    | some l =>
      refine sx_seq (sx_set (d := eFr l) (hloss _ rfl) ?_)
      refine sx_seq (sx_ifF (et_test (ev_notN (d := .non) (ex_call (xs := [bkD b, wbD w, .p (eNs vs)]) (by walk_at "ev") (so_fault h1 h3 h4)))) (sx_next ?_))
      refine sx_seq (sx_drop ((ex_call (xs := [wbD w, .p (.tup (fl.map .int))]) (by walk_at "ev") (so_check_filling hlen h5.f)).mono fun _ _ => trivial) ?_)
      refine sx_seq (sx_ifF (et_test (ev_isN (d := eFr l) (by walk_at "ev"))) (sx_next ?_))
      have hl := hmem l rfl
      have lp := hpos l hl
      have lo := hok l hl
      have ls := hsm l hl
      have hzl : (fl.zip w.ws).length ≤ 12 := by rw [List.length_zip]; omega
      obtain ⟨s1, s2, s3, s4⟩ := sum_all (sqL_fb h3 h5) (by unfold sqL; rw [List.length_map]; exact hzl)
      have hL : (lsqL w fl w.ws.length).length ≤ 12 := by
        unfold lsqL
        rw [List.length_map]
        have := List.length_filter_le (lsqP w) ((partsV w).take w.ws.length)
        rw [List.length_take] at this
        omega
      obtain ⟨t1, t2, t3, t4⟩ := sum_all (lsqL_fb h3 h5 w.ws.length) hL
      refine sx_seq (sx_set (d := eFr (sumF (sqL w fl))) (ex_callX (P := fun xs => xs = [.l ((sqL w fl).map eFr)]) (exs_cons (P1 := fun x => x = .l ((sqL w fl).map eFr)) (P2 := fun xs => xs = []) (EX.fl ?_) evs_nil fun d ds e1 e2 => by rw [e1, e2]) (fun xs e => by rw [e]; exact so_total s1) fun xs e => by rw [e]; rfl) ?_)
      · unfold sqL
        rw [List.map_map]
        refine ev_lcMap2 (Side := noSide) (xs := fl.zip w.ws) (ea := fun p => .int p.1) (eb := fun p => .int p.2) ?_ trivial (by omega) fun p hp => ?_
        · rw [← zip_map2]
          exact wx_zipT (by walk_at "ev") (by walk_at "ev")
        · have b1 := h5.b _ (List.of_mem_zip hp).1
          have b2 := h3.ws _ (List.of_mem_zip hp).2
          exact ex_call (xs := [iD (p.1 * p.1), iD p.2]) (evs_cons (ev_I (a := p.1) (b := p.1) (by walk_at "ev") (by walk_at "ev") (Sm.mulOk (.of (by omega)) (.of (by omega)))) (evs_cons (by walk_at "ev") evs_nil)) (so_part_of b2.1 (Sm.of (by omega)).bg)
      · have d1 := mk_bd (k := 807) (j := 806) (t := (sumF (sqL w fl)).1 * (sumF (lsqL w fl w.ws.length)).2 - (sumF (lsqL w fl w.ws.length)).1 * (sumF (sqL w fl)).2) (b := (sumF (sqL w fl)).2 * (sumF (lsqL w fl w.ws.length)).2) (Int.mul_pos s2 t2) ((s3.mul t4).sub (t3.mul s4)) (s4.mul t4)
        have d1 : 0 < (subF (sumF (sqL w fl)) (sumF (lsqL w fl w.ws.length))).2 ∧ Bd 807 (subF (sumF (sqL w fl)) (sumF (lsqL w fl w.ws.length))).1 ∧ Bd 806 (subF (sumF (sqL w fl)) (sumF (lsqL w fl w.ws.length))).2 := d1
        refine sx_seq (sx_set (d := eFr (byF (subF (sumF (sqL w fl)) (sumF (lsqL w fl w.ws.length))) l)) (ex_call (xs := [frD (subF (sumF (sqL w fl)) (sumF (lsqL w fl w.ws.length))), frD l]) (evs_cons (ex_call (xs := [frD (sumF (sqL w fl)), frD (sumF (lsqL w fl w.ws.length))]) (evs_cons (by walk_at "ev") (evs_cons (ex_call (xs := [wbD w, .p (.tup (fl.map .int))]) (by walk_at "ev") (so_least_square h3 h5)) evs_nil)) (so_F2 s2 t2 (s3.sm (by decide)) (s4.sm (by decide)) (t3.sm (by decide)) (t4.sm (by decide)))) (evs_cons (by walk_at "ev") evs_nil)) (so_by d1.1 lp (d1.2.1.sm (by decide)) (d1.2.2.sm (by decide)) ls.1 ls.2)) ?_)
        have d2 := mk_snd (t := (subF (sumF (sqL w fl)) (sumF (lsqL w fl w.ws.length))).1 * l.2) (b := (subF (sumF (sqL w fl)) (sumF (lsqL w fl w.ws.length))).2 * l.1) (Int.mul_pos d1.1 lp) (Sm.mulBg (d1.2.2.sm (by decide)) ls.1)
        exact sx_retV (ev_I (a := (byF (subF (sumF (sqL w fl)) (sumF (lsqL w fl w.ws.length))) l).1) (b := (byF (subF (sumF (sqL w fl)) (sumF (lsqL w fl w.ws.length))) l).2) (by walk_at "ev") (by walk_at "ev") (Bg.divOk d2.1 d2.2)) rfl⟩
end
end K37
end
section
set_option Elab.async false
set_option linter.all false
set_option maxRecDepth 100000
set_option maxHeartbeats 4000000
namespace K37
open PySem PySem.Spec PyProof.Rows L2
local macro_rules | `(tactic| walk_at "ev") => `(tactic| (repeat' (first
  | exact ev_p rfl | exact ev_m rfl | exact ev_l rfl | exact ev_o rfl | exact ev_pool rfl | exact ev_int | exact ev_bl | exact ev_non | exact evs_nil | exact evt_nil
  | apply evs_cons | apply evt_cons | apply ev_ix0 | apply ev_ix1 | apply ev_ix2
  | apply ev_I0 | apply ev_IB | apply ev_eqI | apply ev_neI | apply ev_neg | apply ev_abs
  | apply ev_lenT | apply ev_lenL | apply ev_lenF | apply ev_isN | apply ev_notN | apply et_test | apply et_B | apply et_not
  | apply ev_isiI | apply ev_isiB | apply ev_isiT | apply ev_chainI | apply ev_not | apply ev_max2 | apply ev_min2 | apply ev_max3 | apply ev_int1 | apply ev_sorts | apply ev_kinds | apply ev_widths | apply ev_pipes)))
abbrev s_law_pool : Stmt := topS 85
abbrev n_law_pool : List Str := ["_law_script", "_law_seed", "_law_cell"]
theorem sc_law_pool : FnScope n_law_pool ["_law_script"] (defScope s_law_pool) := ⟨rfl, rfl, rfl, by decide +kernel, rfl, by decide +kernel, by decide +kernel⟩

section
variable {P : Program} {w : World} {K : PySem.W.Frag} {mg : Str → Option Value} {base : Heap}
/-- the pool is made: its list and its cells -/
def sp_law_pool (K : PySem.W.Frag) : Sp := fun vs H Q _ => ∃ (M : PM) (xs : List Int), Pool M H ∧ RpAll K M H H vs [.l (xs.map .int)] ∧ xs.length ≤ 63 ∧
  ∀ p c (s : Int) (cs : List Int) H', 0 ≤ s → s < 2147483647 → H' p = some (.lst [.int s, .int 0, .ref c]) → H' c = some (.lst (cs.map V.int)) → p ≠ c → H p = none → H c = none → Le M H H' → Pool M H' → Q (.ref p) H'
theorem ret3 {te : TE} {i : Int} {σ : L2.St} {H : Hp} {D : Ends} (h1 : σ[1]? = some (some (.int i))) (h : te σ H (fun v H1 => ([V.int i, V.int 0, v] : List V).length ≤ sizeLine ∧ ∀ p, H1 p = none → D.rt (.ref p) (upd H1 p (.lst [.int i, .int 0, v])))) : tRet (tLst (tCons (tVar 1) (tCons (tC (.int 0)) (tCons te tNil)))) D σ H := by
  unfold tRet tLst
  exact ⟨_, h1, h⟩
theorem ok_law_pool (G : Gp K mg) (F : Fu K mg "_law_pool" "_law_pool" "_law_pool" s_law_pool ["_law_script"]) : Df P w K mg base 1 "_law_pool" ["_law_script"] (sp_law_pool K) := by
  obtain ⟨f, fd, F1, hm, hb⟩ := F.ex
  refine ⟨f, fd, F1.ok sc_law_pool (fun vs H Q E h => ?_) (fun cdv A' outer s H vs Q E hr h => ?_), hm, F1.kp, hb⟩
  · obtain ⟨M, xs, _, r, _⟩ := h
    rw [r.length]
    rfl
  · refine ⟨_, (pss_cons (ps_set (i := 1) sc_law_pool.nd rfl (Or.inl rfl) (pe_op op_add (pe_callB call_len_seq (by rfl) G.n_len bb_len (pa_cons (pv 0) pa_nil)) pe_int))
  (pss_cons (ps_for PassesOwn.never rfl (pi_list (pe_slice sl_list (pv 0) po_none (po_some pe_int))) (pg_name (i := 2) sc_law_pool.nd rfl (Or.inl rfl))
   (pss_one (ps_set (i := 1) sc_law_pool.nd rfl (Or.inl rfl) (pe_op op_mod (pe_callTy call_int1 (by rfl) G.n_int bb_int (pa_cons (pe_op op_add (pe_op op_add (pe_op op_mulW (pv 1) pe_int) (pe_op op_mod (pe_callTy call_int1 (by rfl) G.n_int bb_int (pa_cons (pv 2) pa_nil)) pe_int)) pe_int) pa_nil)) pe_int))))
  (pss_one (ps_ret (pe_lst (pa_cons (pv 1) (pa_cons pe_int (pa_cons (pe_lc (own := [("_law_cell", 2)]) rfl sc_law_pool.nd (pi_list (pe_slice sl_list (pv 0) po_none (po_some pe_int))) (blkOk_by (own := [("_law_cell", 2)]) (N := n_law_pool) (sc := defScope s_law_pool) (by decide +kernel)) (fun _ _ _ _ _ => (pg_name (i := 2) sc_law_pool.nd rfl (Or.inl rfl))) (fun _ _ _ _ _ => pts_one (pt_cmpR op_ge (pe_callB call_abs (by rfl) G.n_abs bb_abs (pa_cons (pv 2) pa_nil)) (pe_op op_pow pe_int pe_int) (nomark _))) (fun _ _ _ _ _ => (pe_callB call_abs (by rfl) G.n_abs bb_abs (pa_cons (pv 2) pa_nil)))) pa_nil)))))))), ?_⟩
    obtain ⟨M, xs, hp, r, hl, q⟩ := h
    have I := en_start (K := K) (M := M) (H := H) (N := n_law_pool) (xs := [.l (xs.map .int)]) (vs := vs) hp r
    have hll : (xs.map TD.int).length ≤ 63 := by rw [List.length_map]; exact hl
    refine sx_pre (R := fun ρ' => ∃ i : Int, ρ' = [some (.l (xs.map .int)), some (iD i), none] ∧ 0 ≤ i ∧ i < 2147483647) (sx_set (d := .int ((xs.length : Int) + 1)) (ev_I0 (a := (xs.length : Int)) (b := 1) ((ev_lenL (ds := xs.map .int) (by walk_at "ev")).to (by rw [List.length_map])) ev_int) ⟨_, rfl, _, rfl, by omega, by omega⟩) I fun ρ1 σ1 H1 ⟨i1, e1, hi1⟩ I1 => ?_
    subst e1
    refine sx_pre (R := fun ρ' => ∃ (i : Int) (z : Option Dt), ρ' = [some (.l (xs.map .int)), some (iD i), z] ∧ 0 ≤ i ∧ i < 2147483647) (sx_for (wx_listFV (ds := xs.map .int) (ev_headL (ev_l rfl) 63 hll)) (fun _ ρ' => ∃ (i : Int) (z : Option Dt), ρ' = [some (.l (xs.map .int)), some (iD i), z] ∧ 0 ≤ i ∧ i < 2147483647) ⟨i1, none, rfl, hi1⟩ (fun _ _ _ => trivial) (fun k d ρ' hd ⟨i, z, e, hi⟩ => ?_) fun ρ' h => ⟨ρ', rfl, h⟩) I1 fun ρ2 σ2 H2 ⟨i, z, e2, hi⟩ I2 => ?_
    · obtain ⟨y, hy, ed, hm⟩ := map_get hd
      subst e ed
      refine gx_name (sx_setP (P := fun d => ∃ i, d = .int i ∧ (0 ≤ i ∧ i < 2147483647)) ((ex_I (P1 := fun _ => True) (P2 := fun i => i = 2147483647) (P := fun i => 0 ≤ i ∧ i < 2147483647) (ex_int1 (ex_I0 (P1 := fun _ => True) (P2 := fun _ => True) (P := fun _ => True) (ex_I0 (P1 := fun _ => True) (P2 := fun _ => True) (P := fun _ => True) (ex_i (P := fun _ => True) (ev_I (a := i) (b := 48271) (by walk_at "ev") ev_int (Sm.mulOk (Nat.lt_of_lt_of_le (by omega : i.natAbs < 2147483648) (Nat.le_trans (by decide : 2147483648 ≤ 2 ^ 31) (Nat.pow_le_pow_right (by decide) (by decide)))) (.of (by decide)))) trivial) (ex_i (P := fun _ => True) (ev_I (a := y) (b := 2147483629) (ev_int1 (by walk_at "ev")) ev_int (by decide)) trivial) fun _ _ _ _ => trivial) (ex_i ev_int trivial) fun _ _ _ _ => trivial)) (ex_i ev_int rfl) (fun a b _ e => by subst e; exact ⟨by decide, by (try dsimp only); omega⟩)).mono fun x ⟨i, e, p⟩ => ⟨_, e, i, rfl, p⟩) fun d ⟨i, ed, hi⟩ => ?_)
      subst ed
      exact ⟨i, _, rfl, hi⟩
    · subst e2
      obtain ⟨u1, h1, t1⟩ := I2.sl 1 (iD i) rfl
      have e1 := Tp.int_inv t1
      subst e1
      refine ret3 h1 ?_
      have hc : EV K M (tLc (iList K (tSl (rSlL K) (tVar 0) tNoPart (tPart (tC (.int ((63 : Nat) : Int)))))) (gName 2) (tTest (tOp (rI0 fun i j => .bl (decide (j ≤ i))) (tCB rAbs (tCons (tVar 2) tNil)) (tOp (rI CPow fun i j => .int (i ^ j.toNat)) (tC (.int 10)) (tC (.int 18))))) (tCB rAbs (tCons (tVar 2) tNil)) [2]) [some (.l (xs.map .int)), some (iD i), z] (.f ((xs.filter fun x => decide ((10 : Int) ^ 18 ≤ absI x)).map fun x => TD.int (absI x))) :=
        ev_lcFM (xs := xs) (enc := .int) (wx_listFV (ds := xs.map .int) (ev_headL (ev_l rfl) 63 hll)) trivial (by omega) (fun x hx => et_test (ev_IB (g := fun i j => decide (j ≤ i)) (a := absI x) (b := (10 : Int) ^ 18) (by walk_at "ev") (ev_I (a := 10) (b := 18) ev_int ev_int ⟨by decide, by decide, by decide⟩))) fun x hx _ => by walk_at "ev"
      refine hc _ _ _ _ I2 _ fun v H3 y ey e3 hp3 r3 => ?_
      subst ey
      obtain ⟨c, ws, rfl, g1, g2, g3⟩ := r3
      refine ⟨by show 3 ≤ sizeLine; decide, fun p hp4 => ?_⟩
      have pc : p ≠ c := fun z => by rw [z, g1] at hp4; cases hp4
      have e4 : Le M H H3 := I2.kB.trans e3
      have ew : ws = ((xs.filter fun x => decide ((10 : Int) ^ 18 ≤ absI x)).map absI).map V.int := by
        have : (xs.filter fun x => decide ((10 : Int) ^ 18 ≤ absI x)).map (fun x => TD.int (absI x)) = ((xs.filter fun x => decide ((10 : Int) ^ 18 ≤ absI x)).map absI).map TD.int := by rw [List.map_map]; rfl
        rw [this] at g2
        exact g2.ints
      refine q p c i _ _ hi.1 hi.2 upd_same (by rw [upd_ne (Ne.symm pc), g1, ew]) pc (e4.back hp3 hp4) (I2.kB.back I2.pool g3) (e4.trans (Le.new hp4)) (hp3.new hp4)
end
end K37
end
section
set_option Elab.async false
set_option linter.all false
set_option maxHeartbeats 4000000
/-! MD: the plain law: the renumbered book against the book. -/
namespace K37
theorem pog_comm (a b : Int) : pog a b = pog b a := by
  unfold pog
  by_cases h : a = 0 ∨ b = 0
  · rw [if_pos h, if_pos (show b = 0 ∨ a = 0 by omega)]; omega
  · rw [if_neg h, if_neg (show ¬ (b = 0 ∨ a = 0) by omega), Int.gcd_comm b a, cross (Int.gcd_dvd_left a b) (Int.gcd_dvd_right a b), Int.mul_comm]
theorem gr_comm (a c : Fr) : gr a c = gr c a := pog_comm _ _
theorem swing_comm (a c : Fr) (g : Int) : swingV a c g = swingV c a g := by
  unfold swingV
  by_cases h1 : a.1 > 0 <;> by_cases h2 : c.1 > 0 <;> simp [h1, h2, Int.add_comm]
theorem fb_comm (st : List Fr) (a c : Fr) : fb st a c = fb st c a := by
  unfold fb
  rw [gr_comm, swing_comm]
theorem lossAt_comm (st : List Fr) (a c : Fr) : lossAt st a c = lossAt st c a := by
  unfold lossAt
  rw [gr_comm, swing_comm]
section
variable {b : Bk} {ν μ : List Nat}
theorem RenP.nd (h : RenP b ν μ) : ν.Nodup := h.ν.nodup_iff.mpr List.nodup_range
theorem RenP.md (h : RenP b ν μ) : μ.Nodup := h.μ.nodup_iff.mpr List.nodup_range
theorem nodup_ixN {ls : List Nat} {i j l : Nat} (h : ls.Nodup) (hi : ls[i]? = some l) (hj : ls[j]? = some l) : i = j := by
  obtain ⟨b1, c1⟩ := List.getElem?_eq_some_iff.mp hi
  obtain ⟨b2, c2⟩ := List.getElem?_eq_some_iff.mp hj
  have h := List.pairwise_iff_getElem.mp h
  rcases Nat.lt_trichotomy i j with q | q | q
  · exact absurd (c1.trans c2.symm) (h i j b1 b2 q)
  · exact q
  · exact absurd (c2.trans c1.symm) (h j i b2 b1 q)
theorem RenP.nu (h : RenP b ν μ) {i : Nat} (hi : i < b.ss.length) : ν[i]? = some (nuA ν i) ∧ nuA ν i < b.ss.length := by
  have h1 := nuA_get (ν := ν) (i := i) (by rw [h.len]; exact hi)
  exact ⟨h1, h.mem.mp (List.mem_of_getElem? h1)⟩
theorem RenP.inj (h : RenP b ν μ) {i j : Nat} (hi : i < b.ss.length) (hj : j < b.ss.length) (e : nuA ν i = nuA ν j) : i = j :=
  nodup_ixN h.nd (h.nu hi).1 (by rw [e]; exact (h.nu hj).1)
theorem RenP.idx (h : RenP b ν μ) {i : Nat} (hi : i < b.ss.length) : ν.idxOf (nuA ν i) = i :=
  nodup_ixN h.nd (idx_first (List.mem_of_getElem? (h.nu hi).1)).1 (h.nu hi).1
theorem RenP.ss (h : RenP b ν μ) {i : Nat} (hi : i < b.ss.length) : (renB b ν μ).ss[nuA ν i]? = some (ssAt b.ss i) := by
  have h2 := (h.nu hi).2
  show ((List.range b.ss.length).map fun s => ssAt b.ss (ν.idxOf s))[nuA ν i]? = _
  rw [List.getElem?_map, List.getElem?_range h2]
  show some (ssAt b.ss (ν.idxOf (nuA ν i))) = _
  rw [h.idx hi]
theorem RenP.ssA (h : RenP b ν μ) {i : Nat} (hi : i < b.ss.length) : ssAt (renB b ν μ).ss (nuA ν i) = ssAt b.ss i := ssAt_of (h.ss hi)
theorem RenP.slen (h : RenP b ν μ) : (renB b ν μ).ss.length = b.ss.length := by
  show ((List.range b.ss.length).map _).length = _
  rw [List.length_map, List.length_range]
theorem RenP.perm (h : RenP b ν μ) : b.ss.Perm (renB b ν μ).ss := by
  have e : b.ss = ν.map fun s => ssAt b.ss (ν.idxOf s) := by
    apply List.ext_getElem?
    intro i
    rw [List.getElem?_map]
    by_cases hi : i < b.ss.length
    · rw [(h.nu hi).1]
      show _ = some (ssAt b.ss (ν.idxOf (nuA ν i)))
      rw [h.idx hi]
      exact ssAt_get hi
    · rw [List.getElem?_eq_none (by omega), List.getElem?_eq_none (by rw [h.len]; omega)]; rfl
  have := h.ν.map fun s => ssAt b.ss (ν.idxOf s)
  rw [← e] at this
  exact this
theorem RenP.sorts (h : RenP b ν μ) (hs : SortsOk b.ss) : SortsOk (renB b ν μ).ss := by
  obtain ⟨h1, h2, h3, h4⟩ := hs
  have hp := h.perm
  have hl := hp.length_eq
  refine ⟨by omega, by omega, fun s hm => h3 s (hp.mem_iff.mpr hm), ?_⟩
  have := (hp.filter fun s => decide (s.1 = 0)).length_eq
  omega
/-- a kind of the renumbered book -/
abbrev kd (b : Bk) (k : Nat) : Kind := b.ks.getD k ([], [])
theorem RenP.kk (h : RenP b ν μ) {m k : Nat} (e : μ[m]? = some k) : (renB b ν μ).ks[m]? = some ((kd b k).1, joinsV ν (kd b k).2) ∧ b.ks[k]? = some (kd b k) := by
  have hk : k < b.ks.length := List.mem_range.mp (h.μ.mem_iff.mp (List.mem_of_getElem? e))
  refine ⟨?_, ks_get hk⟩
  show (μ.map _)[m]? = _
  rw [List.getElem?_map, e]; rfl
theorem RenP.of_k (h : RenP b ν μ) {k : Kind} (hk : k ∈ (renB b ν μ).ks) : ∃ q, q ∈ b.ks ∧ k = (q.1, joinsV ν q.2) := by
  obtain ⟨n, hn, e⟩ := List.mem_map.mp (show k ∈ μ.map _ from hk)
  have hk : n < b.ks.length := List.mem_range.mp (h.μ.mem_iff.mp hn)
  exact ⟨_, List.mem_of_getElem? (ks_get hk), e.symm⟩
theorem RenP.to_k (h : RenP b ν μ) {k : Kind} (hk : k ∈ b.ks) : (k.1, joinsV ν k.2) ∈ (renB b ν μ).ks := by
  obtain ⟨n, hn⟩ := List.mem_iff_getElem?.mp hk
  have hl := (List.getElem?_eq_some_iff.mp hn).1
  have hm : n ∈ μ := h.μ.mem_iff.mpr (List.mem_range.mpr hl)
  have e : kd b n = k := by
    have := ks_get hl
    rw [hn] at this
    exact (Option.some.inj this).symm
  exact List.mem_map.mpr ⟨n, hm, by rw [← e]⟩
theorem joinsV_mem {js : List Jn} {j : Jn} : j ∈ joinsV ν js ↔ ∃ i ∈ js, mapJ ν i = j := by
  unfold joinsV
  rw [List.mem_mergeSort, List.mem_map]
theorem JoinOk.lt {ss : List Fr} {j : Jn} (h : JoinOk ss j) : j.1 < ss.length ∧ j.2 < ss.length ∧ j.1 ≤ j.2 ∧ (0 < (ssAt ss j.1).1 ∨ 0 < (ssAt ss j.2).1) := by
  obtain ⟨x, y, h1, h2, h3, h4⟩ := h
  rw [ssAt_of h1, ssAt_of h2]
  exact ⟨(List.getElem?_eq_some_iff.mp h1).1, (List.getElem?_eq_some_iff.mp h2).1, h3, h4⟩
/-- the two sorts of a moved join -/
theorem RenP.two (h : RenP b ν μ) {j : Jn} (hj : JoinOk b.ss j) : (ssAt (renB b ν μ).ss (mapJ ν j).1 = ssAt b.ss j.1 ∧ ssAt (renB b ν μ).ss (mapJ ν j).2 = ssAt b.ss j.2) ∨ (ssAt (renB b ν μ).ss (mapJ ν j).1 = ssAt b.ss j.2 ∧ ssAt (renB b ν μ).ss (mapJ ν j).2 = ssAt b.ss j.1) := by
  obtain ⟨h1, h2, _, _⟩ := hj.lt
  unfold mapJ
  rcases Nat.le_total (nuA ν j.1) (nuA ν j.2) with q | q
  · left
    rw [Nat.min_eq_left q, Nat.max_eq_right q]
    exact ⟨h.ssA h1, h.ssA h2⟩
  · right
    rw [Nat.min_eq_right q, Nat.max_eq_left q]
    exact ⟨h.ssA h2, h.ssA h1⟩
theorem RenP.fb (h : RenP b ν μ) {j : Jn} (hj : JoinOk b.ss j) (st : List Fr) : K37.fb st (ssAt (renB b ν μ).ss (mapJ ν j).1) (ssAt (renB b ν μ).ss (mapJ ν j).2) = K37.fb st (ssAt b.ss j.1) (ssAt b.ss j.2) := by
  rcases h.two hj with ⟨e1, e2⟩ | ⟨e1, e2⟩
  · rw [e1, e2]
  · rw [e1, e2, fb_comm]
theorem RenP.loss (h : RenP b ν μ) {j : Jn} (hj : JoinOk b.ss j) (st : List Fr) (c : Bool) : lossAt st (capd c (ssAt (renB b ν μ).ss (mapJ ν j).1)) (capd c (ssAt (renB b ν μ).ss (mapJ ν j).2)) = lossAt st (capd c (ssAt b.ss j.1)) (capd c (ssAt b.ss j.2)) := by
  rcases h.two hj with ⟨e1, e2⟩ | ⟨e1, e2⟩
  · rw [e1, e2]
  · rw [e1, e2, lossAt_comm]
theorem RenP.gr (h : RenP b ν μ) {j : Jn} (hj : JoinOk b.ss j) : K37.gr (ssAt (renB b ν μ).ss (mapJ ν j).1) (ssAt (renB b ν μ).ss (mapJ ν j).2) = K37.gr (ssAt b.ss j.1) (ssAt b.ss j.2) := by
  rcases h.two hj with ⟨e1, e2⟩ | ⟨e1, e2⟩
  · rw [e1, e2]
  · rw [e1, e2, gr_comm]
theorem RenP.sw (h : RenP b ν μ) {j : Jn} (hj : JoinOk b.ss j) (g : Int) : swingV (ssAt (renB b ν μ).ss (mapJ ν j).1) (ssAt (renB b ν μ).ss (mapJ ν j).2) g = swingV (ssAt b.ss j.1) (ssAt b.ss j.2) g := by
  rcases h.two hj with ⟨e1, e2⟩ | ⟨e1, e2⟩
  · rw [e1, e2]
  · rw [e1, e2, swing_comm]
theorem RenP.join (h : RenP b ν μ) {j : Jn} (hj : JoinOk b.ss j) : JoinOk (renB b ν μ).ss (mapJ ν j) := by
  obtain ⟨h1, h2, h3, h4⟩ := hj.lt
  have n1 := (h.nu h1).2
  have n2 := (h.nu h2).2
  have g1 := ssAt_get (ss := (renB b ν μ).ss) (i := (mapJ ν j).1) (by rw [h.slen]; show min _ _ < _; omega)
  have g2 := ssAt_get (ss := (renB b ν μ).ss) (i := (mapJ ν j).2) (by rw [h.slen]; show max _ _ < _; omega)
  refine ⟨_, _, g1, g2, by show min _ _ ≤ max _ _; omega, ?_⟩
  rcases h.two hj with ⟨e1, e2⟩ | ⟨e1, e2⟩
  · rw [e1, e2]; exact h4
  · rw [e1, e2]; exact h4.symm
theorem RenP.mapJ_inj (h : RenP b ν μ) {i j : Jn} (hi : JoinOk b.ss i) (hj : JoinOk b.ss j) (e : mapJ ν i = mapJ ν j) : i = j := by
  obtain ⟨a1, a2, a3, _⟩ := hi.lt
  obtain ⟨b1, b2, b3, _⟩ := hj.lt
  unfold mapJ at e
  injection e with e1 e2
  have c : (nuA ν i.1 = nuA ν j.1 ∧ nuA ν i.2 = nuA ν j.2) ∨ (nuA ν i.1 = nuA ν j.2 ∧ nuA ν i.2 = nuA ν j.1) := by omega
  rcases c with ⟨c1, c2⟩ | ⟨c1, c2⟩
  · have := h.inj a1 b1 c1
    have := h.inj a2 b2 c2
    exact Prod.ext (by omega) (by omega)
  · have := h.inj a1 b2 c1
    have := h.inj a2 b1 c2
    exact Prod.ext (by omega) (by omega)
theorem leJn_trans (a b c : Jn) (h1 : leJn a b = true) (h2 : leJn b c = true) : leJn a c = true := by
  unfold leJn at *
  rw [decide_eq_true_iff] at *
  omega
theorem leJn_total (a b : Jn) : (leJn a b || leJn b a) = true := by
  unfold leJn
  rw [Bool.or_eq_true, decide_eq_true_iff, decide_eq_true_iff]
  omega
theorem RenP.js (h : RenP b ν μ) {js : List Jn} (hj : JsOk b.ss js) : JsOk (renB b ν μ).ss (joinsV ν js) := by
  have hperm : (joinsV ν js).Perm (js.map (mapJ ν)) := List.mergeSort_perm ..
  refine ⟨fun z => ?_, ?_, fun j hm => ?_, ?_⟩
  · have := hperm.length_eq
    rw [z, List.length_map] at this
    exact hj.ne (List.eq_nil_of_length_eq_zero this.symm)
  · have := hperm.length_eq
    rw [List.length_map] at this
    have := hj.len
    omega
  · obtain ⟨i, hi, e⟩ := joinsV_mem.mp hm
    rw [← e]
    exact h.join (hj.ok i hi)
  · have hnd : (js.map (mapJ ν)).Nodup := by
      have : (js.map (mapJ ν)).Pairwise (· ≠ ·) := by
        rw [List.pairwise_map]
        refine hj.asc.imp_of_mem fun {x y} hx hy hl e => ?_
        have := h.mapJ_inj (hj.ok x hx) (hj.ok y hy) e
        subst this
        rcases hl with q | ⟨_, q⟩ <;> omega
      exact this
    have hnd2 : (joinsV ν js).Nodup := hperm.nodup_iff.mpr hnd
    have hs : (joinsV ν js).Pairwise fun x y => leJn x y = true := List.pairwise_mergeSort leJn_trans leJn_total _
    refine (hs.and hnd2).imp fun {x y} ⟨h1, h2⟩ => ?_
    unfold leJn at h1
    rw [decide_eq_true_iff] at h1
    rcases h1 with q | ⟨q1, q2⟩
    · exact .inl q
    · right
      refine ⟨q1, ?_⟩
      rcases Nat.lt_or_ge x.2 y.2 with r | r
      · exact r
      · exact absurd (Prod.ext q1 (by omega)) h2
theorem RenP.ok (h : RenP b ν μ) (hB : LBk b) : (renB b ν μ).Ok := by
  refine ⟨h.sorts hB.ss.so, ?_, fun k hk => ?_⟩
  · show (μ.map _).length ≤ 5
    rw [List.length_map, h.mlen]
    have := hB.len; omega
  · obtain ⟨q, hq, e⟩ := h.of_k hk
    have := hB.ks q hq
    rw [e]
    exact (h.js this.2).kind this.1
theorem RenP.nobr (h : RenP b ν μ) (hB : LBk b) : NoBr b ↔ NoBr (renB b ν μ) := by
  constructor
  · intro hn k hk j hj
    obtain ⟨q, hq, e⟩ := h.of_k hk
    subst e
    obtain ⟨i, hi, ei⟩ := joinsV_mem.mp hj
    rw [← ei, h.fb ((hB.ks q hq).2.ok i hi)]
    exact hn q hq i hi
  · intro hn k hk j hj
    have := hn _ (h.to_k hk) (mapJ ν j) (joinsV_mem.mpr ⟨j, hj, rfl⟩)
    rw [h.fb ((hB.ks k hk).2.ok j hj)] at this
    exact this
theorem RenP.loss_mem (h : RenP b ν μ) (hB : LBk b) (c : Bool) (x : Fr) : x ∈ lossesV b c ↔ x ∈ lossesV (renB b ν μ) c := by
  constructor
  · intro hx
    obtain ⟨k, hk, hx⟩ := List.mem_flatMap.mp hx
    obtain ⟨j, hj, hx⟩ := List.mem_flatMap.mp hx
    refine List.mem_flatMap.mpr ⟨_, h.to_k hk, List.mem_flatMap.mpr ⟨mapJ ν j, joinsV_mem.mpr ⟨j, hj, rfl⟩, ?_⟩⟩
    rw [h.loss ((hB.ks k hk).2.ok j hj)]
    exact hx
  · intro hx
    obtain ⟨k, hk, hx⟩ := List.mem_flatMap.mp hx
    obtain ⟨j, hj, hx⟩ := List.mem_flatMap.mp hx
    obtain ⟨q, hq, e⟩ := h.of_k hk
    subst e
    obtain ⟨i, hi, ei⟩ := joinsV_mem.mp hj
    rw [← ei, h.loss ((hB.ks q hq).2.ok i hi)] at hx
    exact List.mem_flatMap.mpr ⟨q, hq, List.mem_flatMap.mpr ⟨i, hi, hx⟩⟩
theorem leastF_le {xs : List Fr} {l : Fr} (hd : ∀ x ∈ xs, 0 < x.2) (h : leastF xs = some l) : ∀ y ∈ xs, leF l y := by
  cases xs with
  | nil => cases h
  | cons x xs =>
    have e := Option.some.inj h
    have key : ∀ (ys zs : List Fr) (m : Fr), (∀ y ∈ ys, 0 < y.2) → 0 < m.2 → (∀ z ∈ zs, leF m z ∧ 0 < z.2) → (∀ y ∈ ys, leF (ys.foldl (fun m y => if below y m then y else m) m) y) ∧ ∀ z ∈ zs, leF (ys.foldl (fun m y => if below y m then y else m) m) z := by
      intro ys
      induction ys with
      | nil => intro zs m _ _ hz; exact ⟨(fun y hy => nomatch hy), fun z hzm => (hz z hzm).1⟩
      | cons y ys ih =>
        intro zs m hy hm hz
        have y0 := hy y (List.mem_cons_self ..)
        rw [List.foldl_cons]
        have step : ∀ m', 0 < m'.2 → leF m' m → leF m' y → (∀ q ∈ y :: ys, leF (ys.foldl (fun m y => if below y m then y else m) m') q) ∧ ∀ z ∈ zs, leF (ys.foldl (fun m y => if below y m then y else m) m') z := by
          intro m' h0 h1 h2
          obtain ⟨k1, k2⟩ := ih (y :: zs) m' (fun q hq => hy q (List.mem_cons_of_mem _ hq)) h0 (fun z hzm => by
            rcases List.mem_cons.mp hzm with e | e
            · rw [e]; exact ⟨h2, y0⟩
            · obtain ⟨z1, z2⟩ := hz z e
              exact ⟨leF_trans hm (by omega) (by omega) h1 z1, z2⟩)
          refine ⟨fun q hq => ?_, fun z hzm => k2 z (List.mem_cons_of_mem _ hzm)⟩
          rcases List.mem_cons.mp hq with e | e
          · rw [e]; exact k2 y (List.mem_cons_self ..)
          · exact k1 q e
        cases hb : below y m with
        | true =>
          rw [if_pos rfl]
          refine step y y0 ?_ (Int.le_refl _)
          have := of_decide_eq_true hb
          unfold leF; omega
        | false =>
          rw [if_neg (by decide)]
          exact step m hm (Int.le_refl _) (leF_iff.mpr hb)
    rw [← e]
    exact (key (x :: xs) [] x hd (hd x (List.mem_cons_self ..)) (fun z hz => nomatch hz)).1
theorem frac_eq {a b : Fr} (ha : 1 ≤ a.2) (hb : 1 ≤ b.2) (ga : Int.gcd a.1 a.2 = 1) (gb : Int.gcd b.1 b.2 = 1) (h : a.1 * b.2 = b.1 * a.2) : a = b := by
  have hn : a.1.natAbs * b.2.natAbs = b.1.natAbs * a.2.natAbs := by rw [← Int.natAbs_mul, ← Int.natAbs_mul, h]
  have ca : Nat.Coprime a.2.natAbs a.1.natAbs := by
    show Nat.gcd _ _ = 1
    rw [Nat.gcd_comm]; exact ga
  have cb : Nat.Coprime b.2.natAbs b.1.natAbs := by
    show Nat.gcd _ _ = 1
    rw [Nat.gcd_comm]; exact gb
  have d1 : a.2.natAbs ∣ b.2.natAbs := ca.dvd_of_dvd_mul_left ⟨b.1.natAbs, by rw [hn, Nat.mul_comm]⟩
  have d2 : b.2.natAbs ∣ a.2.natAbs := cb.dvd_of_dvd_mul_left ⟨a.1.natAbs, by rw [← hn, Nat.mul_comm]⟩
  have e2 : a.2 = b.2 := by
    have := Nat.dvd_antisymm d1 d2
    omega
  have e1 : a.1 = b.1 := by
    rw [e2] at h
    exact Int.eq_of_mul_eq_mul_right (by omega) h
  exact Prod.ext e1 e2
theorem leastF_eq {xs ys : List Fr} (hm : ∀ x, x ∈ xs ↔ x ∈ ys) (ok : ∀ x ∈ xs, 1 ≤ x.2 ∧ Int.gcd x.1 x.2 = 1) : leastF xs = leastF ys := by
  have ok2 : ∀ x ∈ ys, 1 ≤ x.2 ∧ Int.gcd x.1 x.2 = 1 := fun x hx => ok x ((hm x).mpr hx)
  cases hx : leastF xs with
  | none =>
    cases xs with
    | nil =>
      cases ys with
      | nil => rfl
      | cons y ys => exact absurd ((hm y).mpr (List.mem_cons_self ..)) (by simp)
    | cons x xs => cases hx
  | some a =>
    cases hy : leastF ys with
    | none =>
      cases ys with
      | nil => exact absurd ((hm a).mp (leastF_mem hx)) (by simp)
      | cons y ys => cases hy
    | some c =>
      have ma := leastF_mem hx
      have mc := leastF_mem hy
      have l1 := leastF_le (fun x h => by have := (ok x h).1; omega) hx c ((hm c).mpr mc)
      have l2 := leastF_le (fun x h => by have := (ok2 x h).1; omega) hy a ((hm a).mp ma)
      have oa := ok a ma
      have oc := ok2 c mc
      unfold leF at l1 l2
      rw [frac_eq oa.1 oc.1 oa.2 oc.2 (by omega)]
theorem RenP.least (h : RenP b ν μ) (hB : LBk b) : leastF (lossesV (renB b ν μ) true) = leastF (lossesV b true) :=
  leastF_eq (fun x => (h.loss_mem hB true x).symm) fun x hx => by
    obtain ⟨h1, _, _, h4⟩ := losses_ok (h.ok hB) x hx
    exact ⟨h1, h4⟩
theorem RenP.singly (h : RenP b ν μ) (hB : LBk b) : ((lossesV (renB b ν μ) false).all fun x => decide (x.1 > 0)) = (lossesV b false).all fun x => decide (x.1 > 0) := by
  rw [Bool.eq_iff_iff, List.all_eq_true, List.all_eq_true]
  exact ⟨fun q x hx => q x ((h.loss_mem hB false x).mp hx), fun q x hx => q x ((h.loss_mem hB false x).mpr hx)⟩
theorem RenP.may (h : RenP b ν μ) {st : List Fr} {i j : Nat} (hi : i < b.ss.length) (hj : j < b.ss.length) (hm : mayJoin b st i j = true) : mayJoin (renB b ν μ) st (nuA ν i) (nuA ν j) = true := by
  unfold mayJoin at *
  rw [List.any_eq_true] at *
  obtain ⟨k, hk, e⟩ := hm
  obtain ⟨hk1, hk2⟩ := List.mem_filter.mp hk
  refine ⟨(k.1, joinsV ν k.2), List.mem_filter.mpr ⟨h.to_k hk1, hk2⟩, ?_⟩
  rw [decide_eq_true_iff] at *
  refine joinsV_mem.mpr ⟨_, e, ?_⟩
  unfold mapJ
  rcases Nat.le_total i j with q | q
  · rw [Nat.min_eq_left q, Nat.max_eq_right q]
  · rw [Nat.min_eq_right q, Nat.max_eq_left q, Nat.min_comm, Nat.max_comm]
/-- the web that is drawn of the book -/
def drawnW (b : Bk) (vs : List Nat) (ps : List Pipe) : Wb := ⟨vs.map fun v => (ssAt b.ss v).1, ps⟩
theorem LWeb.ok {vs : List Nat} {ps : List Pipe} (hB : LBk b) (h : LWeb b vs ps) : (drawnW b vs ps).Ok := by
  obtain ⟨L, W⟩ := h.ex
  have hl := h.len
  have e : (drawnW b vs ps).ws.length = vs.length := List.length_map ..
  refine ⟨by rw [e]; omega, fun x hx => ?_, by have := W.plen; show ps.length ≤ 36; omega, fun p hp => ?_⟩
  · obtain ⟨v, hv, ex⟩ := List.mem_map.mp hx
    have := (hB.ss.ok _ (List.mem_of_getElem? (ssAt_get (h.vok v hv)))).ok
    rw [← ex]
    exact ⟨this.1, this.2.1⟩
  · obtain ⟨h1, h2, h3, _⟩ := W.pok p hp
    exact ⟨h1, by rw [e]; exact h2, h3⟩
theorem LWeb.of {vs : List Nat} {ps : List Pipe} (h : LWeb b vs ps) : Of b (drawnW b vs ps) vs := by
  obtain ⟨L, W⟩ := h.ex
  have e : (drawnW b vs ps).ws.length = vs.length := List.length_map ..
  refine ⟨e.symm, fun v s hv => ?_, fun v s c n hv hc hn hp => ?_, fun p hp => ?_⟩
  · have hs := ssAt_get (h.vok s (List.mem_of_getElem? hv))
    refine ⟨_, hs, ?_⟩
    show (vs.map _)[v]? = _
    rw [List.getElem?_map, hv]; rfl
  · obtain ⟨l, k, _, hk, hs, hl⟩ := W.cap v s c hv hc
    rw [e] at hn
    have hn : (pipesAt vs.length ps)[v]? = some n := hn
    rw [hk] at hn
    cases hn
    have := hl hp
    omega
  · obtain ⟨_, _, _, i, j, h1, h2, h3⟩ := W.pok p hp
    exact ⟨i, j, h1, h2, h3⟩
theorem RenP.of (h : RenP b ν μ) {vs : List Nat} {w : Wb} (hv : ∀ v ∈ vs, v < b.ss.length) (ho : Of b w vs) : Of (renB b ν μ) w (vs.map (nuA ν)) := by
  refine ⟨by rw [List.length_map]; exact ho.len, fun v s hs => ?_, fun v s c n hs hc hn hp => ?_, fun p hp => ?_⟩
  · rw [List.getElem?_map] at hs
    cases e : vs[v]? with
    | none => rw [e] at hs; cases hs
    | some x =>
      rw [e] at hs
      have es : nuA ν x = s := Option.some.inj hs
      obtain ⟨c, h1, h2⟩ := ho.ws v x e
      refine ⟨c, ?_, h2⟩
      rw [← es, h.ss (hv x (List.mem_of_getElem? e)), ssAt_of h1]
  · rw [List.getElem?_map] at hs
    cases e : vs[v]? with
    | none => rw [e] at hs; cases hs
    | some x =>
      rw [e] at hs
      have es : nuA ν x = s := Option.some.inj hs
      have hx := hv x (List.mem_of_getElem? e)
      rw [← es, h.ss hx] at hc
      have ec := Option.some.inj hc
      exact ho.cap v x c n e (by rw [← ec]; exact ssAt_get hx) hn hp
  · obtain ⟨i, j, h1, h2, h3⟩ := ho.ps p hp
    refine ⟨nuA ν i, nuA ν j, by rw [List.getElem?_map, h1]; rfl, by rw [List.getElem?_map, h2]; rfl, h.may (hv i (List.mem_of_getElem? h1)) (hv j (List.mem_of_getElem? h2)) h3⟩
/-- a perm of the first n numbers, as naturals -/
theorem nat_perm {ys : List Int} {n : Nat} (h : ys.Perm ((List.range n).map fun k : Nat => (k : Int))) : ∃ ν : List Nat, ys = ν.map (fun k : Nat => (k : Int)) ∧ ν.Perm (List.range n) := by
  refine ⟨ys.map Int.toNat, ?_, ?_⟩
  · rw [List.map_map]
    have : ∀ y ∈ ys, ((fun k : Nat => (k : Int)) ∘ Int.toNat) y = y := fun y hy => by
      obtain ⟨k, _, e⟩ := List.mem_map.mp (h.mem_iff.mp hy)
      show ((y.toNat : Nat) : Int) = y
      rw [← e]; rfl
    rw [List.map_congr_left this, List.map_id']
  · have := h.map Int.toNat
    rw [List.map_map] at this
    have e : (List.range n).map (Int.toNat ∘ fun k : Nat => (k : Int)) = List.range n := by
      have : ∀ k ∈ List.range n, (Int.toNat ∘ fun k : Nat => (k : Int)) k = k := fun k _ => rfl
      rw [List.map_congr_left this, List.map_id']
    rw [e] at this
    exact this
end
end K37
end
section
set_option Elab.async false
set_option linter.all false
set_option maxRecDepth 100000
set_option maxHeartbeats 4000000
namespace K37
open PySem PySem.Spec PyProof.Rows L2
local macro_rules | `(tactic| walk_at "ev") => `(tactic| (repeat' (first
  | exact ev_p rfl | exact ev_m rfl | exact ev_l rfl | exact ev_o rfl | exact ev_pool rfl | exact ev_int | exact ev_bl | exact ev_non | exact evs_nil | exact evt_nil
  | apply evs_cons | apply evt_cons | apply ev_ix0 | apply ev_ix1 | apply ev_ix2
  | apply ev_I0 | apply ev_IB | apply ev_eqI | apply ev_neI | apply ev_neg | apply ev_abs
  | apply ev_lenT | apply ev_lenL | apply ev_lenF | apply ev_isN | apply ev_notN | apply et_test | apply et_B | apply et_not
  | apply ev_isiI | apply ev_isiB | apply ev_isiT | apply ev_chainI | apply ev_not | apply ev_max2 | apply ev_min2 | apply ev_max3 | apply ev_int1 | apply ev_sorts | apply ev_kinds | apply ev_widths | apply ev_pipes)))
abbrev s_law : Stmt := topS 105
abbrev n_law : List Str := ["_law_script", "_law_pool_here", "_law_turn", "_law_sorts_here", "_law_kinds", "_law_new", "_law_order", "_law_later", "_law_book", "_law_other", "_law_told", "_law_pair", "_law_vessels", "_law_pipes", "_law_widths_here", "_law_filling_here", "_law_web_here", "_law_moved", "_law_sort", "_law_most"]
theorem sc_law : FnScope n_law ["_law_script"] (defScope s_law) := ⟨rfl, rfl, rfl, by decide +kernel, rfl, by decide +kernel, by decide +kernel⟩

def lossT : Option Fr → TD
  | none => .non
  | some f => eFr f
theorem lossT_D (l : Option Fr) : lossD l = .p (lossT l) := by cases l <;> rfl
theorem lossT_dep (l : Option Fr) : dep (lossT l) ≤ 64 := by
  cases l with
  | none => decide
  | some f => exact Nat.le_trans (enc_fr.dep f) (by decide)
theorem lossT_eq (l : Option Fr) : eqT (lossT l) (lossT l) = true := by
  cases l with
  | none => rfl
  | some f => exact (enc_fr.eq f f).mpr rfl
section
variable {P : Program} {w : World} {K : PySem.W.Frag} {mg : Str → Option Value} {base : Heap} {CB CW : Addr}
theorem sxp_unp2 {m : Option (Addr × Addr)} {n : Nat} {ρ : Ev0} {te : TE} {Po : Res → Nat → Prop} {i j : Nat} {Pd : TD → TD → Nat → Prop} (h : EXp K m te ρ n (fun x n1 => ∃ a b, x = .p (.tup [a, b]) ∧ Pd a b n1)) (k : ∀ a b n1, Pd a b n1 → Po (.nx ((ρ.set i (some (.p a))).set j (some (.p b)))) n1) : SXp K m (tAsg te (gTup K 2 (gCons (gName i) (gCons (gName j) gNil)))) ρ n Po := fun B G H σ I D q =>
  h B G H σ I _ fun v H1 x n1 ⟨a, b, ex, p⟩ e1 hp1 r1 => by
    subst ex
    exact (gx_tup2 (M := (m, n1)) (gx_name (gx_name (Pe := fun ρ2 => ρ2 = (ρ.set i (some (.p a))).set j (some (.p b))) rfl))) B G H1 σ v (I.stepP e1 hp1) r1 _ fun σ' H' ρ' e I' _ => by
      subst e
      exact q _ n1 (k a b n1 p) σ' H' I'
theorem exp_parts {m : Option (Addr × Addr)} {n : Nat} {ρ : Ev0} {tr : TA} {E : XK} (h : EVs K (m, n) tr ρ [.pool]) (hc : n + 500 ≤ LIM) : EXp K m (tCall (sp_law_parts_of_book K) [] E tr) ρ n (fun x n' => ∃ a b, x = .p (.tup [a, b]) ∧ ∃ bk : Bk, a = .tup (bk.ss.map eFr) ∧ b = .tup (bk.ks.map eK) ∧ LBk bk ∧ n' ≤ n + 500) :=
  (exp_call () h trivial hc).mono fun x n' ⟨⟨bk, e, hd⟩, hn⟩ => ⟨_, _, e, bk, rfl, rfl, hd, hn⟩
theorem exp_web {m : Option (Addr × Addr)} {n : Nat} {ρ : Ev0} {tr : TA} {E : XK} {b : Bk} (h : EVs K (m, n) tr ρ [.pool, .p (.tup (b.ss.map eFr)), .p (.tup (b.ks.map eK)), iD 5]) (hB : LBk b) (hc : n + 100 ≤ LIM) : EXp K m (tCall (sp_law_web K) [] E tr) ρ n (fun x n' => ∃ a c, x = .p (.tup [a, c]) ∧ ∃ (vs : List Nat) (ps : List Pipe), a = eNs vs ∧ c = .tup (ps.map eP) ∧ LWeb b vs ps ∧ n' ≤ n + 100) :=
  (exp_call b h hB hc).mono fun x n' ⟨⟨vs, ps, e, hd⟩, hn⟩ => ⟨_, _, e, vs, ps, rfl, rfl, hd, hn⟩
theorem exp_filling {m : Option (Addr × Addr)} {n : Nat} {ρ : Ev0} {tr : TA} {E : XK} {ws : List Int} (h : EVs K (m, n) tr ρ [.pool, .p (.tup (ws.map .int)), iD ((20 : Nat) : Int)]) (hl : ws.length ≤ 12) (hc : n + 12 ≤ LIM) : EXp K m (tCall (sp_law_filling K) [] E tr) ρ n (fun x n' => ∃ d, x = .p d ∧ ∃ fl : List Int, d = .tup (fl.map .int) ∧ fl.length = ws.length ∧ (∀ p ∈ fl.zip ws, p.1 = 0 ∨ 0 < p.2) ∧ (∀ y ∈ fl, y.natAbs ≤ 20) ∧ n' ≤ n + 12) :=
  (exp_call (ws, 20) h ⟨hl, by show 20 ≤ 100; decide⟩ hc).mono fun x n' ⟨⟨fl, e, h1, h2, h3⟩, hn⟩ => ⟨_, e, fl, rfl, h1, h2, h3, hn⟩
/-- one turn of the law -/
theorem law_start {m0 : Addr} {H H' : Hp} {σ : L2.St} {ns : List Int} {a p c : Addr} {s : Int} {cs : List Int} (hl : σ.length = 20) (h0 : 0 ≤ s) (h1 : s < 2147483647) (hp : H' p = some (.lst [.int s, .int 0, .ref c])) (hc : H' c = some (.lst (cs.map V.int))) (pc : p ≠ c) (le : Le (none, 0) H H') :
    En K (some (p, c), 0) H (fun _ => none) H' (σ.set 1 (some (.ref p))) [none, some .pool, none, none, none, none, none, none, none, none, none, none, none, none, none, none, none, none, none, none] := by
  refine ⟨by rw [List.length_set, hl]; rfl, fun p' c' e => ?_, fun b o hb nb => le b o hb (fun ⟨_, _, e, _⟩ => nomatch e), (fun b o hb => nomatch hb), fun i x hx => ?_, fun i j q u v hi hj => ?_⟩
  · have e : some (p, c) = some (p', c') := e
    injection e with z
    injection z with z1 z2
    subst z1 z2
    exact ⟨pc, ⟨s, 0, hp, h0, h1, Int.le_refl _, Int.le_refl _⟩, cs, hc⟩
  · match i, hx with
    | 0, hx => cases hx
    | 1, hx =>
      have e := Option.some.inj (Option.some.inj hx)
      subst e
      exact ⟨.ref p, by rw [List.getElem?_set_self (by omega)], p, c, rfl, rfl⟩
    | k + 2, hx =>
      have hx : ([none, none, none, none, none, none, none, none, none, none, none, none, none, none, none, none, none, none] : List (Option Dt))[k]? = some (some x) := hx
      have := List.mem_of_getElem? hx
      simp at this
  · match i, hi with
    | 0, hi => cases hi
    | 1, hi => cases hi
    | k + 2, hi =>
      have hi : ([none, none, none, none, none, none, none, none, none, none, none, none, none, none, none, none, none, none] : List (Option Dt))[k]? = some (some (.m q u)) := hi
      have := List.mem_of_getElem? hi
      simp at this
theorem BrP_isN {b : Bk} {d : TD} (h : BrP b (.p d)) : isN d = true ↔ NoBr b := by
  rcases h with ⟨e, p⟩ | ⟨n, j, u, k, p, e⟩
  · have : d = .non := by injection e
    subst this
    exact ⟨fun _ => p, fun _ => rfl⟩
  · have := Dt.p.inj e
    subst this
    refine ⟨fun z => (nomatch z), fun q => ?_⟩
    have := q k (List.mem_of_getElem? p.hk) j p.hj
    rw [p.hu] at this
    cases this
def spLaw (K : PySem.W.Frag) : Sp := fun vs H Q _ => ∃ (a : Addr) (ns : List Int), vs = [.ref a] ∧ SqL K H a (ns.map V.int) ∧ ns.length ≤ 63 ∧ ∀ H', Q (.bl true) H'
theorem ok_law (G : Gp K mg) {f : Addr} {fd : FuncData} (F1 : Fun K "law" "law" s_law f fd)
    (D_Book_init : MkD P w K mg base 6 "Book" CB ["self", "sorts", "kinds"] (sp_Book_init K CB)) (D_Web_init : MkD P w K mg base 6 "Web" CW ["self", "widths", "pipes"] (sp_Web_init K CW))
    (D_law_pool : Df P w K mg base 1 "_law_pool" ["_law_script"] (sp_law_pool K))
    (D_law_parts_of_book : Df P w K mg base 5 "_law_parts_of_book" ["_law_pool_here"] (sp_law_parts_of_book K))
    (D_law_mixed : Df P w K mg base 2 "_law_mixed" ["_law_pool_here", "_law_things"] (sp_law_mixed K))
    (D_law_renumbered : Df P w K mg base 2 "_law_renumbered" ["_law_sorts_here", "_law_kinds", "_law_new", "_law_order"] (sp_law_renumbered K))
    (D_calm_singly : Df P w K mg base 6 "calm_singly" ["book"] (sp_calm_singly K))
    (D_calm : Df P w K mg base 7 "calm" ["book"] (sp_calm K))
    (D_law_rooms_right : Df P w K mg base 6 "_law_rooms_right" ["_law_sorts_here", "_law_book", "_law_other", "_law_new"] (sp_law_rooms_right K))
    (D_breach : Df P w K mg base 6 "breach" ["book"] (sp_breach K))
    (D_is_breach : Df P w K mg base 5 "is_breach" ["book", "thing"] (sp_is_breach K))
    (D_law_web : Df P w K mg base 3 "_law_web" ["_law_pool_here", "_law_sorts_here", "_law_kinds", "_law_most"] (sp_law_web K))
    (D_law_widths : Df P w K mg base 1 "_law_widths" ["_law_sorts_here", "_law_vessels"] (sp_law_widths K))
    (D_law_filling : Df P w K mg base 2 "_law_filling" ["_law_pool_here", "_law_widths_here", "_law_high"] (sp_law_filling K))
    (D_loss : Df P w K mg base 8 "loss" ["book"] (sp_loss K))
    (D_most_measures : Df P w K mg base 9 "most_measures" ["book", "web", "sorts", "filling"] (sp_most_measures K)) : FnOk P w K mg base CX0 10 f fd ["_law_script"] (spLaw K) := by
  refine F1.ok sc_law (fun vs H Q E h => ?_) (fun cdv A' outer s H vs Q E hr h => ?_)
  · obtain ⟨a, ns, rfl, _⟩ := h
    rfl
  · refine ⟨_, (pss_cons (ps_set (i := 1) sc_law.nd rfl (Or.inl rfl) (pe_callD D_law_pool hr (by decide) (by rfl) (pa_cons (pv 0) pa_nil)))
  (pss_cons (ps_for PassesOwn.never rfl (pi_range1 (by rfl) G.n_range (pa_cons pe_int pa_nil)) (pg_name (i := 2) sc_law.nd rfl (Or.inl rfl))
   (pss_cons (ps_asg (pe_callD D_law_parts_of_book hr (by decide) (by rfl) (pa_cons (pv 1) pa_nil)) (pg_tup rfl (pgs_cons (pg_name (i := 3) sc_law.nd rfl (Or.inl rfl)) (pgs_cons (pg_name (i := 4) sc_law.nd rfl (Or.inl rfl)) pgs_nil))))
  (pss_cons (ps_set (i := 5) sc_law.nd rfl (Or.inr rfl) (pe_callD D_law_mixed hr (by decide) (by rfl) (pa_cons (pv 1) (pa_cons (pe_listRg rfl (by rfl) G.n_list (prg_1 (by rfl) G.n_range (pe_callB call_len_seq (by rfl) G.n_len bb_len (pa_cons (pv 3) pa_nil)))) pa_nil))))
  (pss_cons (ps_set (i := 6) sc_law.nd rfl (Or.inl rfl) (pe_callD D_law_mixed hr (by decide) (by rfl) (pa_cons (pv 1) (pa_cons (pe_listRg rfl (by rfl) G.n_list (prg_1 (by rfl) G.n_range (pe_callB call_len_seq (by rfl) G.n_len bb_len (pa_cons (pv 4) pa_nil)))) pa_nil))))
  (pss_cons (ps_set (i := 7) sc_law.nd rfl (Or.inl rfl) (pe_callD D_law_renumbered hr (by decide) (by rfl) (pa_cons (pv 3) (pa_cons (pv 4) (pa_cons (pv 5) (pa_cons (pv 6) pa_nil))))))
  (pss_cons (ps_par (i := 8) (j := 9) rfl sc_law.nd rfl rfl (by decide) rfl rfl (pa_cons (pe_makeD D_Book_init hr (by decide) (by rfl) (pa_cons (pv 3) (pa_cons (pv 4) pa_nil))) (pa_cons (pe_makeD D_Book_init hr (by decide) (by rfl) (pa_cons (pe_ix ix_tup (pv 7) pe_int (fun _ _ => rfl)) (pa_cons (pe_ix ix_tup (pv 7) pe_int (fun _ _ => rfl)) pa_nil))) pa_nil)) (by rfl))
  (pss_cons (ps_if (PW.pt (pw_or (pt_cmpR op_ne (pe_callD D_calm hr (by decide) (by rfl) (pa_cons (pv 8) pa_nil)) (pe_callD D_calm hr (by decide) (by rfl) (pa_cons (pv 9) pa_nil)) (nomark _)) (pw_or1 (pt_cmpR op_ne (pe_callD D_calm_singly hr (by decide) (by rfl) (pa_cons (pv 8) pa_nil)) (pe_callD D_calm_singly hr (by decide) (by rfl) (pa_cons (pv 9) pa_nil)) (nomark _)))))
   (pss_one (ps_ret pe_bl))
   pss_nil)
  (pss_cons (ps_if (pt_not (pt_val (pe_callD D_law_rooms_right hr (by decide) (by rfl) (pa_cons (pv 3) (pa_cons (pv 8) (pa_cons (pv 9) (pa_cons (pv 5) pa_nil)))))))
   (pss_one (ps_ret pe_bl))
   pss_nil)
  (pss_cons (ps_set (i := 10) sc_law.nd rfl (Or.inl rfl) (pe_callD D_breach hr (by decide) (by rfl) (pa_cons (pv 8) pa_nil)))
  (pss_cons (ps_if (pt_cmpR op_ne (pe_cmpR op_isN (pv 10) pe_non (nomark _)) (pe_cmpR op_isN (pe_callD D_breach hr (by decide) (by rfl) (pa_cons (pv 9) pa_nil)) pe_non (nomark _)) (nomark _))
   (pss_one (ps_ret pe_bl))
   pss_nil)
  (pss_one (ps_if (pt_cmpR op_notN (pv 10) pe_non (nomark _))
   (pss_cons (ps_set (i := 11) sc_law.nd rfl (Or.inl rfl) (pe_callTy call_tuple_of (by rfl) G.n_tuple bb_tuple (pa_cons (pe_callB cr_sorted (by rfl) G.n_sorted bb_sorted (pa_cons (pe_lst (pa_cons (pe_ix ix_list (pv 5) (pe_ix ix_tup (pe_ix ix_tup (pv 10) pe_int (fun _ _ => rfl)) pe_int (fun _ _ => rfl)) (fun _ _ => rfl)) (pa_cons (pe_ix ix_list (pv 5) (pe_ix ix_tup (pe_ix ix_tup (pv 10) pe_int (fun _ _ => rfl)) pe_int (fun _ _ => rfl)) (fun _ _ => rfl)) pa_nil))) pa_nil)) pa_nil)))
  (pss_one (ps_if (pt_cmpR op_isnot_bl (pe_callD D_is_breach hr (by decide) (by rfl) (pa_cons (pv 9) (pa_cons (pe_tup (pa_cons (pe_bm PySem.F.plainAttrs_list PySem.F.slot_list_index PySem.F.type_list_index mt_index (pv 6) (pa_cons (pe_ix ix_tup (pv 10) pe_int (fun _ _ => rfl)) pa_nil)) (pa_cons (pv 11) (pa_cons (pe_ix ix_tup (pv 10) pe_int (fun _ _ => rfl)) pa_nil)))) pa_nil))) pe_bl (nomark _))
   (pss_one (ps_ret pe_bl))
   pss_nil)))
   (pss_cons (ps_asg (pe_callD D_law_web hr (by decide) (by rfl) (pa_cons (pv 1) (pa_cons (pv 3) (pa_cons (pv 4) (pa_cons pe_int pa_nil))))) (pg_tup rfl (pgs_cons (pg_name (i := 12) sc_law.nd rfl (Or.inl rfl)) (pgs_cons (pg_name (i := 13) sc_law.nd rfl (Or.inl rfl)) pgs_nil))))
  (pss_cons (ps_set (i := 14) sc_law.nd rfl (Or.inl rfl) (pe_callD D_law_widths hr (by decide) (by rfl) (pa_cons (pv 3) (pa_cons (pv 12) pa_nil))))
  (pss_cons (ps_set (i := 15) sc_law.nd rfl (Or.inl rfl) (pe_callD D_law_filling hr (by decide) (by rfl) (pa_cons (pv 1) (pa_cons (pv 14) (pa_cons pe_int pa_nil)))))
  (pss_cons (ps_set (i := 16) sc_law.nd rfl (Or.inl rfl) (pe_makeD D_Web_init hr (by decide) (by rfl) (pa_cons (pv 14) (pa_cons (pv 13) pa_nil))))
  (pss_cons (ps_set (i := 17) sc_law.nd rfl (Or.inl rfl) (pe_callTy call_tuple_of (by rfl) G.n_tuple bb_tuple (pa_cons (pe_lc (own := [("_law_sort", 18)]) rfl sc_law.nd (pi_tup (pv 12)) (blkOk_by (own := [("_law_sort", 18)]) (N := n_law) (sc := defScope s_law) (by decide +kernel)) (fun _ _ _ _ _ => (pg_name (i := 18) sc_law.nd rfl (Or.inl rfl))) (fun _ _ _ _ _ => pts_nil) (fun _ _ _ _ _ => (pe_ix (ix_listK K) (pv 5) (pv 18) (fun _ _ => rfl)))) pa_nil)))
  (pss_cons (ps_if (pt_cmpR (op_neD hr.units) (pe_callD D_loss hr (by decide) (by rfl) (pa_cons (pv 8) pa_nil)) (pe_callD D_loss hr (by decide) (by rfl) (pa_cons (pv 9) pa_nil)) (nomark _))
   (pss_one (ps_ret pe_bl))
   pss_nil)
  (pss_cons (ps_set (i := 19) sc_law.nd rfl (Or.inl rfl) (pe_callD D_most_measures hr (by decide) (by rfl) (pa_cons (pv 8) (pa_cons (pv 16) (pa_cons (pv 12) (pa_cons (pv 15) pa_nil))))))
  (pss_one (ps_if (pt_cmpR op_ne (pe_callD D_most_measures hr (by decide) (by rfl) (pa_cons (pv 9) (pa_cons (pv 16) (pa_cons (pv 17) (pa_cons (pv 15) pa_nil))))) (pv 19) (nomark _))
   (pss_one (ps_ret pe_bl))
   pss_nil)))))))))))))))))))))
  (pss_one (ps_ret pe_bl)))), ?_⟩
    obtain ⟨a, ns, rfl, hS, hl, q⟩ := h
    have p0 : Pool (none, 0) H := fun _ _ e => nomatch e
    have n0 : ∀ x, ¬ MA (none, 0) x := fun x ⟨_, _, e, _⟩ => nomatch e
    refine ⟨.ref a, rfl, (none, 0), ns, p0, .cons ⟨a, ns.map V.int, rfl, hS, TpAll.ofInts ns, n0 a⟩ .nil, hl, fun p c sd cs H' h0 h1 hp hc pc _ _ le _ => ?_⟩
    have I := law_start (K := K) (m0 := a) (σ := L2.start n_law [V.ref a]) (ns := ns) (a := a) rfl h0 h1 hp hc pc le
    change (tSeq (tFor (iRng1 (tCons (tC (.int 4)) tNil)) _ _) _ : TS) _ ((L2.start n_law [V.ref a]).set 1 (some (.ref p))) H'
    refine (show SXp K (some (p, c)) _ [none, some .pool, none, none, none, none, none, none, none, none, none, none, none, none, none, none, none, none, none, none] 0 (fun o n' => fin (fun x => x = bD true) o ∧ True) from ?_) _ _ _ _ I _ (fun o n' po => ?_)
    · refine sxp_seq (sxp_forX (P := fun ds n1 => ds = (List.range 4).map eN ∧ n1 = 0) (IX.p (wx_rng1V (n := 4) ev_int (by decide))) (fun ds i ρ' n2 => ∃ z2 z3 z4 z5 z6 z7 z8 z9 z10 z11 z12 z13 z14 z15 z16 z17 z18 z19 : Option Dt,  ρ' = [none, some .pool, z2, z3, z4, z5, z6, z7, z8, z9, z10, z11, z12, z13, z14, z15, z16, z17, z18, z19] ∧ n2 ≤ 1000 * i) (fun ds n1 ⟨_, e⟩ => ⟨none, none, none, none, none, none, none, none, none, none, none, none, none, none, none, none, none, none, rfl, by omega⟩) (fun _ _ _ _ _ => trivial) (fun ds i d ρ' n2 ⟨n1, e1, _⟩ hd ⟨z2, z3, z4, z5, z6, z7, z8, z9, z10, z11, z12, z13, z14, z15, z16, z17, z18, z19, e, hn2⟩ => ?_) fun ds ρ' n2 _ ⟨z2, z3, z4, z5, z6, z7, z8, z9, z10, z11, z12, z13, z14, z15, z16, z17, z18, z19, e, _⟩ => ?_)
      · subst e1
        obtain ⟨k, hk, ed, _⟩ := map_get hd
        obtain ⟨ek, hi⟩ := range_get hk
        subst e ed ek
        refine gx_name (sxp_seq (sxp_unp2 (exp_parts (evs_cons (ev_pool rfl) evs_nil) (by show n2 + 500 ≤ 1000000; omega)) fun x y n3 ⟨b, ex, ey, hB, hn3⟩ => ?_))
        subst ex ey
        have hsl := hB.ss.len
        have hkl := hB.len
        refine sxp_seq (sxp_setF (exp_mixed (a := (List.range b.ss.length).map fun k : Nat => (k : Int)) (evs_cons (ev_pool rfl) (evs_cons (EX.fl (EV.to (ev_listRg (n := b.ss.length) ((ev_lenT (ds := b.ss.map eFr) (ev_p rfl)).to (by rw [List.length_map])) (by omega)) (by rw [List.map_map]; rfl))) evs_nil)) (by rw [List.length_map, List.length_range]; omega) (by show n3 + 10 ≤ 1000000; omega)) fun q5 ds n4 ⟨ys, ed, hys, hn4⟩ => ?_)
        obtain ⟨ν, eν, pν⟩ := nat_perm hys
        have ed : ds = ν.map eN := by rw [ed, eν, List.map_map]; rfl
        subst ed
        refine sxp_seq (sxp_setF (exp_mixed (a := (List.range b.ks.length).map fun k : Nat => (k : Int)) (evs_cons (ev_pool rfl) (evs_cons (EX.fl (EV.to (ev_listRg (n := b.ks.length) ((ev_lenT (ds := b.ks.map eK) (ev_p rfl)).to (by rw [List.length_map])) (by omega)) (by rw [List.map_map]; rfl))) evs_nil)) (by rw [List.length_map, List.length_range]; omega) (by show n4 + 10 ≤ 1000000; omega)) fun q6 ds n5 ⟨ys2, ed, hys2, hn5⟩ => ?_)
        obtain ⟨μ, eμ, pμ⟩ := nat_perm hys2
        have ed : ds = μ.map eN := by rw [ed, eμ, List.map_map]; rfl
        subst ed
        have R : RenP b ν μ := ⟨pν, pμ⟩
        have hC := R.ok hB
        have hbo := hB.ok
        refine sxp_seqN (sx_set (d := .tup [.tup ((renB b ν μ).ss.map eFr), .tup ((renB b ν μ).ks.map eK)]) (ex_call (xs := [.p (.tup (b.ss.map eFr)), .p (.tup (b.ks.map eK)), .l (ν.map eN), .l (μ.map eN)]) (evs_cons (ev_p rfl) (evs_cons (ev_p rfl) (evs_cons (ev_m rfl) (evs_cons (ev_m rfl) evs_nil)))) (so_law_renumbered hB R)) ?_)
        refine sxp_seqN (sx_par (x := bkD b) (y := bkD (renB b ν μ)) (ev_make (fs := bkF) b (evt_cons (ev_p rfl) (evt_cons (ev_p rfl) evt_nil)) hbo) (ev_make (fs := bkF) (renB b ν μ) (evt_cons (ev_ix0 (ev_p rfl)) (evt_cons (ev_ix1 (ev_p rfl)) evt_nil)) hC) ?_)
        change SXp K _ _ [none, some .pool, some (.p (eN k)), some (.p (.tup (b.ss.map eFr))), some (.p (.tup (b.ks.map eK))), some (.m q5 (ν.map eN)), some (.m q6 (μ.map eN)), some (.p (.tup [.tup ((renB b ν μ).ss.map eFr), .tup ((renB b ν μ).ks.map eK)])), some (bkD b), some (bkD (renB b ν μ)), z10, z11, z12, z13, z14, z15, z16, z17, z18, z19] _ _
        obtain ⟨cb, hcb⟩ : ∃ cb : Bool, cb = true ↔ NoBr b := by
          by_cases hN : NoBr b
          · exact ⟨true, fun _ => hN, fun _ => rfl⟩
          · exact ⟨false, fun z => (nomatch z), fun z => absurd z hN⟩
        have hcc : cb = true ↔ NoBr (renB b ν μ) := hcb.trans (R.nobr hB)
        refine sxp_seqN (sx_ifF (et_orF ((et_test (ev_neB (a := cb) (b := cb) ((ex_call (xs := [bkD b]) (evs_cons (ev_o rfl) evs_nil) (so_calm hbo)).mono fun x ⟨c, e, h⟩ => by rw [e, Bool.eq_iff_iff.mpr (h.trans hcb.symm)]) ((ex_call (xs := [bkD (renB b ν μ)]) (evs_cons (ev_o rfl) evs_nil) (so_calm hC)).mono fun x ⟨c, e, h⟩ => by rw [e, Bool.eq_iff_iff.mpr (h.trans hcc.symm)]))).to (by simp)) ((et_test (ev_neB (ex_call (xs := [bkD b]) (evs_cons (ev_o rfl) evs_nil) (so_calm_singly hbo)) (ex_call (xs := [bkD (renB b ν μ)]) (evs_cons (ev_o rfl) evs_nil) (so_calm_singly hC)))).to (by rw [R.singly hB]; simp))) (sx_next ?_))
        refine sxp_seqN (sx_ifF (et_notT (et_B (ex_call (xs := [.p (.tup (b.ss.map eFr)), bkD b, bkD (renB b ν μ), .l (ν.map eN)]) (evs_cons (ev_p rfl) (evs_cons (ev_o rfl) (evs_cons (ev_o rfl) (evs_cons (ev_m rfl) evs_nil)))) (so_law_rooms_right (by omega) R.len (fun s hs => (hB.ss.ok s hs).ok) fun i hi => R.ss hi)))) (sx_next ?_))
        refine sxp_seqN (sx_setP (P := fun d => BrP b (.p d)) ((ex_call (xs := [bkD b]) (evs_cons (ev_o rfl) evs_nil) (so_breach hbo)).mono fun x p => ?_) fun d hd => ?_)
        · rcases p with ⟨e, p⟩ | ⟨n, j, u, k, p, e⟩
          · exact ⟨.non, e, .inl ⟨rfl, p⟩⟩
          · exact ⟨_, e, .inr ⟨n, j, u, k, p, rfl⟩⟩
        change SXp K _ _ [none, some .pool, some (.p (eN k)), some (.p (.tup (b.ss.map eFr))), some (.p (.tup (b.ks.map eK))), some (.m q5 (ν.map eN)), some (.m q6 (μ.map eN)), some (.p (.tup [.tup ((renB b ν μ).ss.map eFr), .tup ((renB b ν μ).ks.map eK)])), some (bkD b), some (bkD (renB b ν μ)), some (.p d), z11, z12, z13, z14, z15, z16, z17, z18, z19] _ _
        have hdN : isN d = cb := Bool.eq_iff_iff.mpr ((BrP_isN hd).trans hcb.symm)
        refine sxp_seqN (sx_ifF ((et_test (ev_neB (a := cb) (b := cb) ((ev_isN (d := d) (ev_p rfl)).to (by rw [hdN])) ((ex_isN (P1 := fun d => BrP (renB b ν μ) (.p d)) ((ex_call (xs := [bkD (renB b ν μ)]) (evs_cons (ev_o rfl) evs_nil) (so_breach hC)).mono fun x p => ?_)).mono fun y ⟨d', e, p⟩ => by rw [e, Bool.eq_iff_iff.mpr ((BrP_isN p).trans hcc.symm)]))).to (by simp)) (sx_next ?_))
        · rcases p with ⟨e, p⟩ | ⟨n, j, u, k, p, e⟩
          · exact ⟨.non, e, .inl ⟨rfl, p⟩⟩
          · exact ⟨_, e, .inr ⟨n, j, u, k, p, rfl⟩⟩
        rcases hd with ⟨e, hN⟩ | ⟨n, j, u, k, hbr, e⟩
        · have e := Dt.p.inj e
          subst e
          refine sxp_if (EXT.p (et_test (ev_notN (d := .non) (ev_p rfl)))) (fun n' ⟨hb, _⟩ => nomatch hb) fun n6 ⟨_, en⟩ => ?_
          subst en
          refine sxp_seq (sxp_unp2 (exp_web (b := b) (evs_cons (ev_pool rfl) (evs_cons (ev_p rfl) (evs_cons (ev_p rfl) (evs_cons ev_int evs_nil)))) hB (by show n6 + 100 ≤ 1000000; omega)) fun x y n7 ⟨vs, ps, ex, ey, hW, hn7⟩ => ?_)
          subst ex ey
          change SXp K _ _ [none, some .pool, some (.p (eN k)), some (.p (.tup (b.ss.map eFr))), some (.p (.tup (b.ks.map eK))), some (.m q5 (ν.map eN)), some (.m q6 (μ.map eN)), some (.p (.tup [.tup ((renB b ν μ).ss.map eFr), .tup ((renB b ν μ).ks.map eK)])), some (bkD b), some (bkD (renB b ν μ)), some nD, z11, some (.p (eNs vs)), some (.p (.tup (ps.map eP))), z14, z15, z16, z17, z18, z19] _ _
          have hvl := hW.len
          have hWo := hW.ok hB
          have hwl : (drawnW b vs ps).ws.length = vs.length := List.length_map ..
          refine sxp_seqN (sx_set (d := .tup ((drawnW b vs ps).ws.map .int)) (ex_call (xs := [.p (.tup (b.ss.map eFr)), .p (eNs vs)]) (evs_cons (ev_p rfl) (evs_cons (ev_p rfl) evs_nil)) (so_law_widths (by omega) hW.vok)) ?_)
          change SXp K _ _ [none, some .pool, some (.p (eN k)), some (.p (.tup (b.ss.map eFr))), some (.p (.tup (b.ks.map eK))), some (.m q5 (ν.map eN)), some (.m q6 (μ.map eN)), some (.p (.tup [.tup ((renB b ν μ).ss.map eFr), .tup ((renB b ν μ).ks.map eK)])), some (bkD b), some (bkD (renB b ν μ)), some nD, z11, some (.p (eNs vs)), some (.p (.tup (ps.map eP))), some (.p (.tup ((drawnW b vs ps).ws.map .int))), z15, z16, z17, z18, z19] _ _
          refine sxp_seq (sxp_setP (exp_filling (ws := (drawnW b vs ps).ws) (evs_cons (ev_pool rfl) (evs_cons (ev_p rfl) (evs_cons ev_int evs_nil))) (by omega) (by show n7 + 12 ≤ 1000000; omega)) fun d n8 ⟨fl, ed, f1, f2, f3, hn8⟩ => ?_)
          subst ed
          change SXp K _ _ [none, some .pool, some (.p (eN k)), some (.p (.tup (b.ss.map eFr))), some (.p (.tup (b.ks.map eK))), some (.m q5 (ν.map eN)), some (.m q6 (μ.map eN)), some (.p (.tup [.tup ((renB b ν μ).ss.map eFr), .tup ((renB b ν μ).ks.map eK)])), some (bkD b), some (bkD (renB b ν μ)), some nD, z11, some (.p (eNs vs)), some (.p (.tup (ps.map eP))), some (.p (.tup ((drawnW b vs ps).ws.map .int))), some (.p (.tup (fl.map .int))), z16, z17, z18, z19] _ _
          have hF : FlOk (drawnW b vs ps) fl := ⟨⟨f1, f2⟩, fun x hx => by have := f3 x hx; omega⟩
          have hO := hW.of
          have hO2 := R.of hW.vok hO
          have hN2 := (R.nobr hB).mp hN
          refine sxp_seqN (sx_setO (fs := wbF (drawnW b vs ps)) (ev_make (fs := wbF) (drawnW b vs ps) (evt_cons (ev_p rfl) (evt_cons (ev_p rfl) evt_nil)) hWo) ?_)
          change SXp K _ _ [none, some .pool, some (.p (eN k)), some (.p (.tup (b.ss.map eFr))), some (.p (.tup (b.ks.map eK))), some (.m q5 (ν.map eN)), some (.m q6 (μ.map eN)), some (.p (.tup [.tup ((renB b ν μ).ss.map eFr), .tup ((renB b ν μ).ks.map eK)])), some (bkD b), some (bkD (renB b ν μ)), some nD, z11, some (.p (eNs vs)), some (.p (.tup (ps.map eP))), some (.p (.tup ((drawnW b vs ps).ws.map .int))), some (.p (.tup (fl.map .int))), some (wbD (drawnW b vs ps)), z17, z18, z19] _ _
          refine sxp_seqN (sx_set (d := eNs (vs.map (nuA ν))) (EV.to (ev_tupF (ev_lcMap (xs := vs) (enc := eN) (h := fun v => eN (nuA ν v)) (wx_tupV (ds := vs.map eN) (ev_p rfl)) trivial (by omega) fun v hv => ev_ixL (ds := ν.map eN) (ev_m rfl) (ev_p rfl) v rfl (get_map (f := eN) (R.nu (hW.vok v hv)).1))) (by show _ = Dt.p (.tup ((vs.map (nuA ν)).map eN)); rw [List.map_map]; rfl)) ?_)
          change SXp K _ _ [none, some .pool, some (.p (eN k)), some (.p (.tup (b.ss.map eFr))), some (.p (.tup (b.ks.map eK))), some (.m q5 (ν.map eN)), some (.m q6 (μ.map eN)), some (.p (.tup [.tup ((renB b ν μ).ss.map eFr), .tup ((renB b ν μ).ks.map eK)])), some (bkD b), some (bkD (renB b ν μ)), some nD, z11, some (.p (eNs vs)), some (.p (.tup (ps.map eP))), some (.p (.tup ((drawnW b vs ps).ws.map .int))), some (.p (.tup (fl.map .int))), some (wbD (drawnW b vs ps)), some (.p (eNs (vs.map (nuA ν)))), z18, z19] _ _
          refine sxp_seqN (sx_ifF ((et_test (ev_neD (a := lossT (leastF (lossesV b true))) (b := lossT (leastF (lossesV b true))) ((ex_call (xs := [bkD b]) (evs_cons (ev_o rfl) evs_nil) (so_loss hbo hN)).mono fun x e => by rw [e, lossT_D]) ((ex_call (xs := [bkD (renB b ν μ)]) (evs_cons (ev_o rfl) evs_nil) (so_loss hC hN2)).mono fun x e => by rw [e, lossT_D, R.least hB]) (lossT_dep _) (lossT_dep _))).to (by rw [lossT_eq]; rfl)) (sx_next ?_))
          refine sxp_seqN (sx_set (d := .int (mmV (leastF (lossesV b true)) (drawnW b vs ps) fl)) (ex_call (xs := [bkD b, wbD (drawnW b vs ps), .p (eNs vs), .p (.tup (fl.map .int))]) (evs_cons (ev_o rfl) (evs_cons (ev_o rfl) (evs_cons (ev_p rfl) (evs_cons (ev_p rfl) evs_nil)))) (so_most_measures hbo hN hWo hO hF)) ?_)
          change SXp K _ _ [none, some .pool, some (.p (eN k)), some (.p (.tup (b.ss.map eFr))), some (.p (.tup (b.ks.map eK))), some (.m q5 (ν.map eN)), some (.m q6 (μ.map eN)), some (.p (.tup [.tup ((renB b ν μ).ss.map eFr), .tup ((renB b ν μ).ks.map eK)])), some (bkD b), some (bkD (renB b ν μ)), some nD, z11, some (.p (eNs vs)), some (.p (.tup (ps.map eP))), some (.p (.tup ((drawnW b vs ps).ws.map .int))), some (.p (.tup (fl.map .int))), some (wbD (drawnW b vs ps)), some (.p (eNs (vs.map (nuA ν)))), z18, some (iD (mmV (leastF (lossesV b true)) (drawnW b vs ps) fl))] _ _
          refine sxp_of (sx_ifF ((et_test (ev_neI (a := mmV (leastF (lossesV b true)) (drawnW b vs ps) fl) (b := mmV (leastF (lossesV b true)) (drawnW b vs ps) fl) ((ex_call (xs := [bkD (renB b ν μ), wbD (drawnW b vs ps), .p (eNs (vs.map (nuA ν))), .p (.tup (fl.map .int))]) (evs_cons (ev_o rfl) (evs_cons (ev_o rfl) (evs_cons (ev_p rfl) (evs_cons (ev_p rfl) evs_nil)))) (so_most_measures hC hN2 hWo hO2 hF)).mono fun x e => by rw [e, R.least hB]) (ev_p rfl))).to (by simp)) (sx_next ⟨_, _, _, _, _, _, _, _, _, _, _, _, _, _, _, _, _, _, rfl, by omega⟩))
        · have e := Dt.p.inj e
          subst e
          have hkm := List.mem_of_getElem? hbr.hk
          have hjo := (hB.ks k hkm).2.ok j hbr.hj
          obtain ⟨j1, j2, _, _⟩ := hjo.lt
          have hnk := (List.getElem?_eq_some_iff.mp hbr.hk).1
          have hnm : n ∈ μ := R.μ.mem_iff.mpr (List.mem_range.mpr hnk)
          obtain ⟨i1, i2⟩ := idx_first hnm
          obtain ⟨k1, k2⟩ := R.kk i1
          rw [hbr.hk] at k2
          have ek : k = kd b n := Option.some.inj k2
          obtain ⟨u1, u2⟩ := fb_hit hbr.hu
          refine sxp_if (EXT.p (et_test (ev_notN (d := .tup [.int (n : Int), eJ j, eFr (mk u (gr (ssAt b.ss j.1) (ssAt b.ss j.2)))]) (ev_p rfl)))) (fun n6 ⟨_, en⟩ => ?_) fun n6 ⟨hb, _⟩ => nomatch hb
          subst en
          refine sxp_seqN (sx_set (d := eJ (mapJ ν j)) (ev_pairS (ev_ixL (ds := ν.map eN) (ev_m rfl) (ev_ix0 (ev_ix1 (ev_p rfl))) j.1 rfl (get_map (f := eN) (R.nu j1).1)) (ev_ixL (ds := ν.map eN) (ev_m rfl) (ev_ix1 (ev_ix1 (ev_p rfl))) j.2 rfl (get_map (f := eN) (R.nu j2).1))) ?_)
          have eμ2 : (μ.map eN) = (μ.map fun n : Nat => (n : Int)).map TD.int := by rw [List.map_map]; rfl
          refine sxp_of (sx_ifF ((et_test (ev_isnotB (a := true) (b := true) (ex_call (xs := [bkD (renB b ν μ), .p (.tup [.int ((μ.idxOf n : Nat) : Int), eJ (mapJ ν j), eFr (mk u (gr (ssAt (renB b ν μ).ss (mapJ ν j).1) (ssAt (renB b ν μ).ss (mapJ ν j).2)))])]) (evs_cons (ev_o rfl) (evs_cons (EV.to (ev_tup (evt_cons (ev_index (ns := μ.map fun n : Nat => (n : Int)) (k := (n : Int)) (j := μ.idxOf n) ((ev_m rfl).to (congrArg Dt.l eμ2)) (ev_ix0 (ev_p rfl)) (by rw [List.getElem?_map, i1]; rfl) fun m hm e => ?_) (evt_cons (ev_p rfl) (evt_cons (ev_ix2 (ev_p rfl)) evt_nil)))) (by rw [R.gr hjo])) evs_nil)) (so_is_breach (k := ((kd b n).1, joinsV ν (kd b n).2)) hC k1 (joinsV_mem.mpr ⟨j, ek ▸ hbr.hj, rfl⟩) (by rw [R.gr hjo]; exact ek ▸ u1) (by rw [R.gr hjo, R.sw hjo]; exact ek ▸ u2))) ev_bl)).to (by simp)) (sx_next ⟨_, _, _, _, _, _, _, _, _, _, _, _, _, _, _, _, _, _, rfl, by omega⟩))
          rw [List.getElem?_map] at e
          cases hx : μ[m]? with
          | none => rw [hx] at e; cases e
          | some x =>
            rw [hx] at e
            have ex : (x : Int) = (n : Int) := Option.some.inj e
            have ex2 : x = n := by omega
            exact i2 m hm (by rw [hx, ex2])
      · subst e
        exact sxp_of (sx_retV ev_bl ⟨rfl, trivial⟩)
    · cases o with
      | nx ρ' => exact absurd po.1 (by intro z; cases z)
      | rt x =>
        have e : x = bD true := po.1
        subst e
        intro v H2 _ _ rv
        have := Tp.bl_inv rv
        subst this
        exact q H2
      | bk _ => exact po.1.elim
      | ct _ => exact po.1.elim
end
end K37
end
section
set_option Elab.async false
set_option linter.all false
set_option maxRecDepth 100000
set_option maxHeartbeats 4000000
/-! G13: from the facts of the head to the law's promise. -/
namespace K37
open PySem PySem.Spec PyProof.Rows L2
def FactF (K : PySem.W.Frag) (x nm qual : Str) (st : Stmt) : Prop := ∃ (f : Addr) (oc : Value) (od : Option Addr) (sl : Array (Option Value)) (kV dc pm : Value) (an : Option Addr) (cd ct : Value),
  PySem.W.nsIn K mainGlobals x = some (some (.ref f)) ∧ K.lookup f = some ⟨oc, od, .func (PySem.W.fnOf nm qual (defArgs st) (defBody st) (defScope st) .none kV dc pm an cd ct), sl⟩ ∧ PySem.W.codeIn K cd qual = true ∧ PySem.W.keepIn K (.ref f) = true
def FactM (K : PySem.W.Frag) (C f : Addr) (m nm qual : Str) (st : Stmt) : Prop := ∃ (oc : Value) (od : Option Addr) (sl : Array (Option Value)) (kV dc pm : Value) (an : Option Addr) (cd ct : Value),
  PySem.W.findIn K (.ref C) m = some (some (.ref f)) ∧ PySem.W.isFn K (.ref f) = true ∧ K.lookup f = some ⟨oc, od, .func (PySem.W.fnOf nm qual (defArgs st) (defBody st) (defScope st) .none kV dc pm an cd ct), sl⟩ ∧ PySem.W.codeIn K cd qual = true ∧ PySem.W.keepIn K (.ref f) = true
structure FactC (K : PySem.W.Frag) (x : Str) (C : Addr) : Prop where
  a : PySem.W.nsIn K mainGlobals x = some (some (.ref C))
  pg : PySem.W.plainGet K C Str.empty = true
  hd : PySem.W.hasDictIn K C = true
  po : PySem.W.plainOver K C = true
  sa : PySem.W.findIn K (.ref C) "__setattr__" = some (some (.builtin "object.__setattr__"))
  mks : PySem.W.makesIn K C = true
  kc : PySem.W.keepIn K (.ref C) = true
theorem FactC.cls {K : PySem.W.Frag} {x : Str} {C : Addr} (h : FactC K x C) : Cls K C := ⟨h.pg, h.hd, h.po, h.sa⟩
section
variable {K : PySem.W.Frag} {h : Heap} {mg : Str → Option Value}
theorem FactF.fu {x nm qual : Str} {st : Stmt} {ps : List Str} (F : FactF K x nm qual st) (X : K.In h) (G : h.Ns mainGlobals mg)
    (hb : ∀ (kV doc pm : Value) (an : Option Addr) (cdv ct : Value) (us : List Value), us.length = ps.length → bindArgs (PySem.W.fnOf nm qual (defArgs st) (defBody st) (defScope st) .none kV doc pm an cdv ct) ⟨us, []⟩ = pure (ps.zip us)) : Fu K mg x nm qual st ps := by
  obtain ⟨f, oc, od, sl, kV, dc, pm, an, cd, ct, a, l, c, k⟩ := F
  exact ⟨f, _, fun_mk l c k, PySem.W.mg_of X G a, (fun_mk l c k).binds hb⟩
theorem FactM.fu {C f : Addr} {m nm qual : Str} {st : Stmt} {ps : List Str} (F : FactM K C f m nm qual st)
    (hb : ∀ (kV doc pm : Value) (an : Option Addr) (cdv ct : Value) (us : List Value), us.length = ps.length → bindArgs (PySem.W.fnOf nm qual (defArgs st) (defBody st) (defScope st) .none kV doc pm an cdv ct) ⟨us, []⟩ = pure (ps.zip us)) : FuM K f nm qual st ps := by
  obtain ⟨oc, od, sl, kV, dc, pm, an, cd, ct, a, i, l, c, k⟩ := F
  exact ⟨_, fun_mk l c k, (fun_mk l c k).binds hb⟩
theorem FactM.meth {C f : Addr} {m nm qual : Str} {st : Stmt} (F : FactM K C f m nm qual st) : Meth K C m f := by
  obtain ⟨oc, od, sl, kV, dc, pm, an, cd, ct, a, i, l, c, k⟩ := F
  exact ⟨a, i, k⟩
/-- a class that is made, its __init__ at f -/
structure MkF (K : PySem.W.Frag) (mg : Str → Option Value) (x : Str) (C f : Addr) : Prop where
  m : Mk K C f
  g : mg x = some (.ref C)
theorem MkF.md {P : Program} {w : World} {base : Heap} {k : Nat} {x : Str} {C f : Addr} {ps : List Str} {sp : Sp} (M : MkF K mg x C f) (D : DfM P w K mg base k f ps sp) : MkD P w K mg base k x C ps sp := by
  obtain ⟨fd, F, b⟩ := D.ex
  exact ⟨f, fd, M.m, F, M.g, b⟩
theorem all_mk {l : PySem.W.OpenLaw} {w : World} {fa CB CW fB fW fI aN : Addr} (X : K.In h) (G : h.Ns mainGlobals mg) (hfa : mg "law" = some (.ref fa)) (top : ∃ t, mg "MOST_TOP" = some (.int 1000000 t)) {oN : Obj} {its : Array Value} {nN : Nat} {t0 t1 t2 t3 t4 t5 t6 t7 t8 t9 : Tok}
    (h_is_integer : FactF K "is_integer" "is_integer" "is_integer" s_is_integer)
    (h_is_between : FactF K "is_between" "is_between" "is_between" s_is_between)
    (h_is_pair : FactF K "is_pair" "is_pair" "is_pair" s_is_pair)
    (h_is_triple : FactF K "is_triple" "is_triple" "is_triple" s_is_triple)
    (h_is_row : FactF K "is_row" "is_row" "is_row" s_is_row)
    (h_divisor : FactF K "divisor" "divisor" "divisor" s_divisor)
    (h_multiple : FactF K "multiple" "multiple" "multiple" s_multiple)
    (h_made : FactF K "made" "made" "made" s_made)
    (h_is_fraction : FactF K "is_fraction" "is_fraction" "is_fraction" s_is_fraction)
    (h_added : FactF K "added" "added" "added" s_added)
    (h_less : FactF K "less" "less" "less" s_less)
    (h_by : FactF K "by" "by" "by" s_by)
    (h_is_below : FactF K "is_below" "is_below" "is_below" s_is_below)
    (h_total : FactF K "total" "total" "total" s_total)
    (h_next_whole : FactF K "next_whole" "next_whole" "next_whole" s_next_whole)
    (h_is_threshold : FactF K "is_threshold" "is_threshold" "is_threshold" s_is_threshold)
    (h_is_list : FactF K "is_list" "is_list" "is_list" s_is_list)
    (h_is_width : FactF K "is_width" "is_width" "is_width" s_is_width)
    (h_parts_of_grain : FactF K "parts_of_grain" "parts_of_grain" "parts_of_grain" s_parts_of_grain)
    (h_in_grains : FactF K "in_grains" "in_grains" "in_grains" s_in_grains)
    (h_part_of : FactF K "part_of" "part_of" "part_of" s_part_of)
    (h_is_sort : FactF K "is_sort" "is_sort" "is_sort" s_is_sort)
    (h_are_sorts : FactF K "are_sorts" "are_sorts" "are_sorts" s_are_sorts)
    (h_is_join_books : FactF K "is_join_books" "is_join" "is_join" s_is_join_books)
    (h_is_kind : FactF K "is_kind" "is_kind" "is_kind" s_is_kind)
    (h_may_join : FactF K "may_join" "may_join" "may_join" s_may_join)
    (h_pipes_at : FactF K "pipes_at" "pipes_at" "pipes_at" s_pipes_at)
    (h_vessel_fault : FactF K "vessel_fault" "vessel_fault" "vessel_fault" s_vessel_fault)
    (h_fault : FactF K "fault" "fault" "fault" s_fault)
    (h_is_filling : FactF K "is_filling" "is_filling" "is_filling" s_is_filling)
    (h_check_filling : FactF K "check_filling" "check_filling" "check_filling" s_check_filling)
    (h_runs_at : FactF K "runs_at" "runs_at" "runs_at" s_runs_at)
    (h_are_widths : FactF K "are_widths" "are_widths" "are_widths" s_are_widths)
    (h_is_pipe : FactF K "is_pipe" "is_pipe" "is_pipe" s_is_pipe)
    (h_gauge : FactF K "gauge" "gauge" "gauge" s_gauge)
    (h_joined : FactF K "joined" "joined" "joined" s_joined)
    (h_lots_of : FactF K "lots_of" "lots_of" "lots_of" s_lots_of)
    (h_parts : FactF K "parts" "parts" "parts" s_parts)
    (h_check_sorts : FactF K "check_sorts" "check_sorts" "check_sorts" s_check_sorts)
    (h_room_of : FactF K "room_of" "room_of" "room_of" s_room_of)
    (h_room : FactF K "room" "room" "room" s_room)
    (h_swing : FactF K "swing" "swing" "swing" s_swing)
    (h_grains_of : FactF K "grains_of" "grains_of" "grains_of" s_grains_of)
    (h_first_breach : FactF K "first_breach" "first_breach" "first_breach" s_first_breach)
    (h_sorts_at : FactF K "sorts_at" "sorts_at" "sorts_at" s_sorts_at)
    (h_breach : FactF K "breach" "breach" "breach" s_breach)
    (h_is_join_calm : FactF K "is_join_calm" "is_join" "is_join" s_is_join_calm)
    (h_is_breach : FactF K "is_breach" "is_breach" "is_breach" s_is_breach)
    (h_calm : FactF K "calm" "calm" "calm" s_calm)
    (h_losses : FactF K "losses" "losses" "losses" s_losses)
    (h_loss : FactF K "loss" "loss" "loss" s_loss)
    (h_least_square : FactF K "least_square" "least_square" "least_square" s_least_square)
    (h_most_measures : FactF K "most_measures" "most_measures" "most_measures" s_most_measures)
    (h_calm_singly : FactF K "calm_singly" "calm_singly" "calm_singly" s_calm_singly)
    (h_law_pool : FactF K "_law_pool" "_law_pool" "_law_pool" s_law_pool)
    (h_law_draw : FactF K "_law_draw" "_law_draw" "_law_draw" s_law_draw)
    (h_law_some : FactF K "_law_some" "_law_some" "_law_some" s_law_some)
    (h_law_mixed : FactF K "_law_mixed" "_law_mixed" "_law_mixed" s_law_mixed)
    (h_law_divisor : FactF K "_law_divisor" "_law_divisor" "_law_divisor" s_law_divisor)
    (h_law_lowest : FactF K "_law_lowest" "_law_lowest" "_law_lowest" s_law_lowest)
    (h_law_grains : FactF K "_law_grains" "_law_grains" "_law_grains" s_law_grains)
    (h_law_room : FactF K "_law_room" "_law_room" "_law_room" s_law_room)
    (h_law_pair_grains : FactF K "_law_pair_grains" "_law_pair_grains" "_law_pair_grains" s_law_pair_grains)
    (h_law_sorts : FactF K "_law_sorts" "_law_sorts" "_law_sorts" s_law_sorts)
    (h_law_pairs : FactF K "_law_pairs" "_law_pairs" "_law_pairs" s_law_pairs)
    (h_law_list : FactF K "_law_list" "_law_list" "_law_list" s_law_list)
    (h_law_ascending : FactF K "_law_ascending" "_law_ascending" "_law_ascending" s_law_ascending)
    (h_law_parts_of_book : FactF K "_law_parts_of_book" "_law_parts_of_book" "_law_parts_of_book" s_law_parts_of_book)
    (h_law_web : FactF K "_law_web" "_law_web" "_law_web" s_law_web)
    (h_law_widths : FactF K "_law_widths" "_law_widths" "_law_widths" s_law_widths)
    (h_law_filling : FactF K "_law_filling" "_law_filling" "_law_filling" s_law_filling)
    (h_law_joins : FactF K "_law_joins" "_law_joins" "_law_joins" s_law_joins)
    (h_law_renumbered : FactF K "_law_renumbered" "_law_renumbered" "_law_renumbered" s_law_renumbered)
    (h_law_rooms_right : FactF K "_law_rooms_right" "_law_rooms_right" "_law_rooms_right" s_law_rooms_right)
    (h_law : FactF K "law" "law" "law" s_law) (kB : FactC K "Book" CB) (kW : FactC K "Web" CW)
    (mB : FactM K CB fB "__init__" "__init__" "Book.__init__" s_Book_init) (mI : FactM K CW fI "__init__" "__init__" "Web.__init__" s_Web_init) (mW : FactM K CW fW "begin" "begin" "Web.begin" s_Web_begin)
    (n1 : PySem.W.findIn K (.ref CB) "sorts" = some none) (n2 : PySem.W.findIn K (.ref CB) "kinds" = some none) (n3 : PySem.W.findIn K (.ref CW) "widths" = some none) (n4 : PySem.W.findIn K (.ref CW) "pipes" = some none) (n5 : PySem.W.findIn K (.ref CW) "gauges" = some none)
    (b1 : PySem.W.nsIn K mainGlobals "len" = some none) (b2 : PySem.W.nsIn K mainGlobals "all" = some none) (b3 : PySem.W.nsIn K mainGlobals "any" = some none) (b4 : PySem.W.nsIn K mainGlobals "abs" = some none) (b5 : PySem.W.nsIn K mainGlobals "sum" = some none) (b6 : PySem.W.nsIn K mainGlobals "sorted" = some none) (b7 : PySem.W.nsIn K mainGlobals "max" = some none) (b8 : PySem.W.nsIn K mainGlobals "min" = some none)
    (b9 : PySem.W.nsIn K mainGlobals "isinstance" = some none) (b10 : PySem.W.nsIn K mainGlobals "int" = some none) (b11 : PySem.W.nsIn K mainGlobals "bool" = some none) (b12 : PySem.W.nsIn K mainGlobals "tuple" = some none) (b13 : PySem.W.nsIn K mainGlobals "list" = some none) (b14 : PySem.W.nsIn K mainGlobals "range" = some none) (b15 : PySem.W.nsIn K mainGlobals "enumerate" = some none) (b16 : PySem.W.nsIn K mainGlobals "zip" = some none)
    (m1 : PySem.W.nsIn K mainGlobals "MOST_THRESHOLDS" = some (some (.int 6 t0))) (m2 : PySem.W.nsIn K mainGlobals "MOST_BOTTOM" = some (some (.int 144 t1))) (m3 : PySem.W.nsIn K mainGlobals "MOST_WIDTH" = some (some (.int 12 t2))) (m4 : PySem.W.nsIn K mainGlobals "MOST_SORTS" = some (some (.int 4 t3))) (m5 : PySem.W.nsIn K mainGlobals "MOST_KINDS" = some (some (.int 5 t4))) (m6 : PySem.W.nsIn K mainGlobals "MOST_CAP" = some (some (.int 6 t5))) (m7 : PySem.W.nsIn K mainGlobals "MOST_VESSELS" = some (some (.int 12 t6))) (m8 : PySem.W.nsIn K mainGlobals "MOST_PIPES" = some (some (.int 36 t7)))
    (o1 : PySem.W.nsIn K mainGlobals "NOUGHT" = some (some (.ref aN))) (o2 : K.lookup aN = some oN) (o3 : oN.cls = .type "tuple") (o4 : oN.data = .seq #[.int 0 t8, .int 1 t9] nN) :
    ∃ fd : FuncData, (∀ (s : Shared) (v : Value), BindsTo s fd ⟨[v], []⟩ [("_law_script", v)]) ∧ ∀ base : Heap, K.In base → base.Ns mainGlobals mg → FnOk l.prog w K mg base CX0 10 fa fd ["_law_script"] (spLaw K) := by
  obtain ⟨f, oc, od, sl, kV, dc, pm, an, cd, ct, ha, hl, hc, hk⟩ := h_law
  have e := hfa.symm.trans (PySem.W.mg_of X G ha)
  cases e
  have GG : Gp K mg := ⟨PySem.W.mg_none_of X G b1, PySem.W.mg_none_of X G b2, PySem.W.mg_none_of X G b3, PySem.W.mg_none_of X G b4, PySem.W.mg_none_of X G b5, PySem.W.mg_none_of X G b6, PySem.W.mg_none_of X G b7, PySem.W.mg_none_of X G b8, PySem.W.mg_none_of X G b9, PySem.W.mg_none_of X G b10, PySem.W.mg_none_of X G b11, PySem.W.mg_none_of X G b12, PySem.W.mg_none_of X G b13, PySem.W.mg_none_of X G b14, PySem.W.mg_none_of X G b15, PySem.W.mg_none_of X G b16,
    ⟨_, PySem.W.mg_of X G m1⟩, top, ⟨_, PySem.W.mg_of X G m2⟩, ⟨_, PySem.W.mg_of X G m3⟩, ⟨_, PySem.W.mg_of X G m4⟩, ⟨_, PySem.W.mg_of X G m5⟩, ⟨_, PySem.W.mg_of X G m6⟩, ⟨_, PySem.W.mg_of X G m7⟩, ⟨_, PySem.W.mg_of X G m8⟩,
    ⟨aN, PySem.W.mg_of X G o1, fun H => .inr ⟨oN, _, nN, o2, o3, o4, by show 2 ≤ sizeLine; decide, .cons ⟨_, rfl⟩ (.cons ⟨_, rfl⟩ .nil)⟩⟩⟩
  have cB : ClsB K CB := ⟨kB.cls, n1, n2⟩
  have cW : ClsW K CW fW := ⟨kW.cls, n3, n4, n5, mW.meth⟩
  have mkB : MkF K mg "Book" CB fB := ⟨⟨kB.mks, mB.meth.at_, mB.meth.fn, kB.kc⟩, PySem.W.mg_of X G kB.a⟩
  have mkW : MkF K mg "Web" CW fI := ⟨⟨kW.mks, mI.meth.at_, mI.meth.fn, kW.kc⟩, PySem.W.mg_of X G kW.a⟩
  have mB := mB.fu (ps := ["self", "sorts", "kinds"]) fun _ _ _ _ _ _ us hl => match us, hl with | [_, _, _], _ => rfl
  have mI := mI.fu (ps := ["self", "widths", "pipes"]) fun _ _ _ _ _ _ us hl => match us, hl with | [_, _, _], _ => rfl
  have mW := mW.fu (ps := ["self", "widths", "pipes"]) fun _ _ _ _ _ _ us hl => match us, hl with | [_, _, _], _ => rfl
  refine ⟨PySem.W.fnOf "law" "law" (defArgs s_law) (defBody s_law) (defScope s_law) .none kV dc pm an cd ct, fun s v => .of_eq rfl, fun base _ _ => ?_⟩
  have D_is_integer : Df l.prog w K mg base 1 "is_integer" ["thing"] (sp_is_integer K) := ok_is_integer (G := GG) (F := h_is_integer.fu X G (ps := ["thing"]) fun _ _ _ _ _ _ us hl => match us, hl with | [_], _ => rfl) 
  have D_is_pair : Df l.prog w K mg base 1 "is_pair" ["thing"] (sp_is_pair K) := ok_is_pair (G := GG) (F := h_is_pair.fu X G (ps := ["thing"]) fun _ _ _ _ _ _ us hl => match us, hl with | [_], _ => rfl) 
  have D_is_triple : Df l.prog w K mg base 1 "is_triple" ["thing"] (sp_is_triple K) := ok_is_triple (G := GG) (F := h_is_triple.fu X G (ps := ["thing"]) fun _ _ _ _ _ _ us hl => match us, hl with | [_], _ => rfl) 
  have D_divisor : Df l.prog w K mg base 1 "divisor" ["one", "other"] (sp_divisor K) := ok_divisor (G := GG) (F := h_divisor.fu X G (ps := ["one", "other"]) fun _ _ _ _ _ _ us hl => match us, hl with | [_, _], _ => rfl) 
  have D_is_below : Df l.prog w K mg base 1 "is_below" ["one", "other"] (sp_is_below K) := ok_is_below (G := GG) (F := h_is_below.fu X G (ps := ["one", "other"]) fun _ _ _ _ _ _ us hl => match us, hl with | [_, _], _ => rfl) 
  have D_next_whole : Df l.prog w K mg base 1 "next_whole" ["one"] (sp_next_whole K) := ok_next_whole (G := GG) (F := h_next_whole.fu X G (ps := ["one"]) fun _ _ _ _ _ _ us hl => match us, hl with | [_], _ => rfl) 
  have D_may_join : Df l.prog w K mg base 1 "may_join" ["book", "steps", "one", "other"] (sp_may_join K) := ok_may_join (G := GG) (F := h_may_join.fu X G (ps := ["book", "steps", "one", "other"]) fun _ _ _ _ _ _ us hl => match us, hl with | [_, _, _, _], _ => rfl) 
  have D_pipes_at : Df l.prog w K mg base 1 "pipes_at" ["web"] (sp_pipes_at K) := ok_pipes_at (G := GG) (F := h_pipes_at.fu X G (ps := ["web"]) fun _ _ _ _ _ _ us hl => match us, hl with | [_], _ => rfl) 
  have D_runs_at : Df l.prog w K mg base 1 "runs_at" ["units", "number"] (sp_runs_at K) := ok_runs_at (G := GG) (F := h_runs_at.fu X G (ps := ["units", "number"]) fun _ _ _ _ _ _ us hl => match us, hl with | [_, _], _ => rfl) 
  have D_joined : Df l.prog w K mg base 1 "joined" ["names", "one", "other"] (sp_joined K) := ok_joined (G := GG) (F := h_joined.fu X G (ps := ["names", "one", "other"]) fun _ _ _ _ _ _ us hl => match us, hl with | [_, _, _], _ => rfl) 
  have D_swing : Df l.prog w K mg base 1 "swing" ["one", "other", "grains"] (sp_swing K) := ok_swing (G := GG) (F := h_swing.fu X G (ps := ["one", "other", "grains"]) fun _ _ _ _ _ _ us hl => match us, hl with | [_, _, _], _ => rfl) 
  have D_sorts_at : Df l.prog w K mg base 1 "sorts_at" ["book", "pair"] (sp_sorts_at K) := ok_sorts_at (G := GG) (F := h_sorts_at.fu X G (ps := ["book", "pair"]) fun _ _ _ _ _ _ us hl => match us, hl with | [_, _], _ => rfl) 
  have D_law_pool : Df l.prog w K mg base 1 "_law_pool" ["_law_script"] (sp_law_pool K) := ok_law_pool (G := GG) (F := h_law_pool.fu X G (ps := ["_law_script"]) fun _ _ _ _ _ _ us hl => match us, hl with | [_], _ => rfl) 
  have D_law_draw : Df l.prog w K mg base 1 "_law_draw" ["_law_pool_here", "_law_many"] (sp_law_draw K) := ok_law_draw (G := GG) (F := h_law_draw.fu X G (ps := ["_law_pool_here", "_law_many"]) fun _ _ _ _ _ _ us hl => match us, hl with | [_, _], _ => rfl) 
  have D_law_divisor : Df l.prog w K mg base 1 "_law_divisor" ["_law_one", "_law_other"] (sp_law_divisor K) := ok_law_divisor (G := GG) (F := h_law_divisor.fu X G (ps := ["_law_one", "_law_other"]) fun _ _ _ _ _ _ us hl => match us, hl with | [_, _], _ => rfl) 
  have D_law_room : Df l.prog w K mg base 1 "_law_room" ["_law_sorts_here", "_law_pair", "_law_grains_here"] (sp_law_room K) := ok_law_room (G := GG) (F := h_law_room.fu X G (ps := ["_law_sorts_here", "_law_pair", "_law_grains_here"]) fun _ _ _ _ _ _ us hl => match us, hl with | [_, _, _], _ => rfl) 
  have D_law_pairs : Df l.prog w K mg base 1 "_law_pairs" ["_law_sorts_here"] (sp_law_pairs K) := ok_law_pairs (G := GG) (F := h_law_pairs.fu X G (ps := ["_law_sorts_here"]) fun _ _ _ _ _ _ us hl => match us, hl with | [_], _ => rfl) 
  have D_law_ascending : Df l.prog w K mg base 1 "_law_ascending" ["_law_steps"] (sp_law_ascending K) := ok_law_ascending (G := GG) (F := h_law_ascending.fu X G (ps := ["_law_steps"]) fun _ _ _ _ _ _ us hl => match us, hl with | [_], _ => rfl) 
  have D_law_widths : Df l.prog w K mg base 1 "_law_widths" ["_law_sorts_here", "_law_vessels"] (sp_law_widths K) := ok_law_widths (G := GG) (F := h_law_widths.fu X G (ps := ["_law_sorts_here", "_law_vessels"]) fun _ _ _ _ _ _ us hl => match us, hl with | [_, _], _ => rfl) 
  have D_law_joins : Df l.prog w K mg base 1 "_law_joins" ["_law_joins_here", "_law_new"] (sp_law_joins K) := ok_law_joins (G := GG) (F := h_law_joins.fu X G (ps := ["_law_joins_here", "_law_new"]) fun _ _ _ _ _ _ us hl => match us, hl with | [_, _], _ => rfl) 
  have D_is_between : Df l.prog w K mg base 2 "is_between" ["thing", "least", "most"] (sp_is_between K) := ok_is_between (G := GG) (F := h_is_between.fu X G (ps := ["thing", "least", "most"]) fun _ _ _ _ _ _ us hl => match us, hl with | [_, _, _], _ => rfl) (D_is_integer := D_is_integer)
  have D_is_row : Df l.prog w K mg base 2 "is_row" ["thing", "many"] (sp_is_row K) := ok_is_row (G := GG) (F := h_is_row.fu X G (ps := ["thing", "many"]) fun _ _ _ _ _ _ us hl => match us, hl with | [_, _], _ => rfl) (D_is_integer := D_is_integer)
  have D_multiple : Df l.prog w K mg base 2 "multiple" ["one", "other"] (sp_multiple K) := ok_multiple (G := GG) (F := h_multiple.fu X G (ps := ["one", "other"]) fun _ _ _ _ _ _ us hl => match us, hl with | [_, _], _ => rfl) (D_divisor := D_divisor)
  have D_made : Df l.prog w K mg base 2 "made" ["top", "bottom"] (sp_made K) := ok_made (G := GG) (F := h_made.fu X G (ps := ["top", "bottom"]) fun _ _ _ _ _ _ us hl => match us, hl with | [_, _], _ => rfl) (D_divisor := D_divisor)
  have D_is_fraction : Df l.prog w K mg base 2 "is_fraction" ["thing"] (sp_is_fraction K) := ok_is_fraction (G := GG) (F := h_is_fraction.fu X G (ps := ["thing"]) fun _ _ _ _ _ _ us hl => match us, hl with | [_], _ => rfl) (D_is_integer := D_is_integer) (D_is_pair := D_is_pair) (D_divisor := D_divisor)
  have D_vessel_fault : Df l.prog w K mg base 2 "vessel_fault" ["book", "web", "sorts"] (sp_vessel_fault K) := ok_vessel_fault (G := GG) (F := h_vessel_fault.fu X G (ps := ["book", "web", "sorts"]) fun _ _ _ _ _ _ us hl => match us, hl with | [_, _, _], _ => rfl) (D_pipes_at := D_pipes_at)
  have D_lots_of : Df l.prog w K mg base 2 "lots_of" ["web"] (sp_lots_of K) := ok_lots_of (G := GG) (F := h_lots_of.fu X G (ps := ["web"]) fun _ _ _ _ _ _ us hl => match us, hl with | [_], _ => rfl) (D_joined := D_joined)
  have D_law_some : Df l.prog w K mg base 2 "_law_some" ["_law_pool_here", "_law_things"] (sp_law_some K) := ok_law_some (G := GG) (F := h_law_some.fu X G (ps := ["_law_pool_here", "_law_things"]) fun _ _ _ _ _ _ us hl => match us, hl with | [_, _], _ => rfl) (D_law_draw := D_law_draw)
  have D_law_mixed : Df l.prog w K mg base 2 "_law_mixed" ["_law_pool_here", "_law_things"] (sp_law_mixed K) := ok_law_mixed (G := GG) (F := h_law_mixed.fu X G (ps := ["_law_pool_here", "_law_things"]) fun _ _ _ _ _ _ us hl => match us, hl with | [_, _], _ => rfl) (D_law_draw := D_law_draw)
  have D_law_lowest : Df l.prog w K mg base 2 "_law_lowest" ["_law_top", "_law_bottom"] (sp_law_lowest K) := ok_law_lowest (G := GG) (F := h_law_lowest.fu X G (ps := ["_law_top", "_law_bottom"]) fun _ _ _ _ _ _ us hl => match us, hl with | [_, _], _ => rfl) (D_law_divisor := D_law_divisor)
  have D_law_grains : Df l.prog w K mg base 2 "_law_grains" ["_law_width", "_law_other"] (sp_law_grains K) := ok_law_grains (G := GG) (F := h_law_grains.fu X G (ps := ["_law_width", "_law_other"]) fun _ _ _ _ _ _ us hl => match us, hl with | [_, _], _ => rfl) (D_law_divisor := D_law_divisor)
  have D_law_filling : Df l.prog w K mg base 2 "_law_filling" ["_law_pool_here", "_law_widths_here", "_law_high"] (sp_law_filling K) := ok_law_filling (G := GG) (F := h_law_filling.fu X G (ps := ["_law_pool_here", "_law_widths_here", "_law_high"]) fun _ _ _ _ _ _ us hl => match us, hl with | [_, _, _], _ => rfl) (D_law_draw := D_law_draw)
  have D_law_renumbered : Df l.prog w K mg base 2 "_law_renumbered" ["_law_sorts_here", "_law_kinds", "_law_new", "_law_order"] (sp_law_renumbered K) := ok_law_renumbered (G := GG) (F := h_law_renumbered.fu X G (ps := ["_law_sorts_here", "_law_kinds", "_law_new", "_law_order"]) fun _ _ _ _ _ _ us hl => match us, hl with | [_, _, _, _], _ => rfl) (D_law_joins := D_law_joins)
  have D_added : Df l.prog w K mg base 3 "added" ["one", "other"] (sp_F2 K addF) := ok_added (G := GG) (F := h_added.fu X G (ps := ["one", "other"]) fun _ _ _ _ _ _ us hl => match us, hl with | [_, _], _ => rfl) (D_made := D_made)
  have D_less : Df l.prog w K mg base 3 "less" ["one", "other"] (sp_F2 K subF) := ok_less (G := GG) (F := h_less.fu X G (ps := ["one", "other"]) fun _ _ _ _ _ _ us hl => match us, hl with | [_, _], _ => rfl) (D_made := D_made)
  have D_by : Df l.prog w K mg base 3 "by" ["one", "other"] (sp_by K) := ok_by (G := GG) (F := h_by.fu X G (ps := ["one", "other"]) fun _ _ _ _ _ _ us hl => match us, hl with | [_, _], _ => rfl) (D_made := D_made)
  have D_is_threshold : Df l.prog w K mg base 3 "is_threshold" ["thing"] (sp_is_threshold K) := ok_is_threshold (G := GG) (F := h_is_threshold.fu X G (ps := ["thing"]) fun _ _ _ _ _ _ us hl => match us, hl with | [_], _ => rfl) (D_is_fraction := D_is_fraction)
  have D_is_width : Df l.prog w K mg base 3 "is_width" ["thing"] (sp_is_width K) := ok_is_width (G := GG) (F := h_is_width.fu X G (ps := ["thing"]) fun _ _ _ _ _ _ us hl => match us, hl with | [_], _ => rfl) (D_is_between := D_is_between)
  have D_parts_of_grain : Df l.prog w K mg base 3 "parts_of_grain" ["width", "other"] (sp_pog K) := ok_parts_of_grain (G := GG) (F := h_parts_of_grain.fu X G (ps := ["width", "other"]) fun _ _ _ _ _ _ us hl => match us, hl with | [_, _], _ => rfl) (D_multiple := D_multiple)
  have D_in_grains : Df l.prog w K mg base 3 "in_grains" ["steps", "grains"] (sp_in_grains K) := ok_in_grains (G := GG) (F := h_in_grains.fu X G (ps := ["steps", "grains"]) fun _ _ _ _ _ _ us hl => match us, hl with | [_, _], _ => rfl) (D_next_whole := D_next_whole) (D_made := D_made)
  have D_part_of : Df l.prog w K mg base 3 "part_of" ["top", "width"] (sp_part_of K) := ok_part_of (G := GG) (F := h_part_of.fu X G (ps := ["top", "width"]) fun _ _ _ _ _ _ us hl => match us, hl with | [_, _], _ => rfl) (D_made := D_made)
  have D_is_join_books : Df l.prog w K mg base 3 "is_join_books" ["thing", "sorts"] (sp_is_join_books K) := ok_is_join_books (G := GG) (F := h_is_join_books.fu X G (ps := ["thing", "sorts"]) fun _ _ _ _ _ _ us hl => match us, hl with | [_, _], _ => rfl) (D_is_row := D_is_row)
  have D_fault : Df l.prog w K mg base 3 "fault" ["book", "web", "sorts"] (sp_fault K) := ok_fault (G := GG) (F := h_fault.fu X G (ps := ["book", "web", "sorts"]) fun _ _ _ _ _ _ us hl => match us, hl with | [_, _, _], _ => rfl) (D_is_row := D_is_row) (D_vessel_fault := D_vessel_fault) (D_may_join := D_may_join)
  have D_is_filling : Df l.prog w K mg base 3 "is_filling" ["web", "thing"] (sp_is_filling K) := ok_is_filling (G := GG) (F := h_is_filling.fu X G (ps := ["web", "thing"]) fun _ _ _ _ _ _ us hl => match us, hl with | [_, _], _ => rfl) (D_is_row := D_is_row)
  have D_parts : Df l.prog w K mg base 3 "parts" ["web"] (sp_parts K) := ok_parts (G := GG) (F := h_parts.fu X G (ps := ["web"]) fun _ _ _ _ _ _ us hl => match us, hl with | [_], _ => rfl) (D_lots_of := D_lots_of)
  have D_check_sorts : Df l.prog w K mg base 3 "check_sorts" ["book", "i", "j"] (sp_check_sorts K) := ok_check_sorts (G := GG) (F := h_check_sorts.fu X G (ps := ["book", "i", "j"]) fun _ _ _ _ _ _ us hl => match us, hl with | [_, _, _], _ => rfl) (D_is_between := D_is_between)
  have D_is_join_calm : Df l.prog w K mg base 3 "is_join_calm" ["book", "number", "thing"] (sp_is_join_calm K) := ok_is_join_calm (G := GG) (F := h_is_join_calm.fu X G (ps := ["book", "number", "thing"]) fun _ _ _ _ _ _ us hl => match us, hl with | [_, _, _], _ => rfl) (D_is_between := D_is_between) (D_is_pair := D_is_pair)
  have D_law_pair_grains : Df l.prog w K mg base 3 "_law_pair_grains" ["_law_sorts_here", "_law_pair"] (sp_law_pair_grains K) := ok_law_pair_grains (G := GG) (F := h_law_pair_grains.fu X G (ps := ["_law_sorts_here", "_law_pair"]) fun _ _ _ _ _ _ us hl => match us, hl with | [_, _], _ => rfl) (D_law_grains := D_law_grains)
  have D_law_sorts : Df l.prog w K mg base 3 "_law_sorts" ["_law_pool_here"] (sp_law_sorts K) := ok_law_sorts (G := GG) (F := h_law_sorts.fu X G (ps := ["_law_pool_here"]) fun _ _ _ _ _ _ us hl => match us, hl with | [_], _ => rfl) (D_law_draw := D_law_draw) (D_law_some := D_law_some)
  have D_law_web : Df l.prog w K mg base 3 "_law_web" ["_law_pool_here", "_law_sorts_here", "_law_kinds", "_law_most"] (sp_law_web K) := ok_law_web (G := GG) (F := h_law_web.fu X G (ps := ["_law_pool_here", "_law_sorts_here", "_law_kinds", "_law_most"]) fun _ _ _ _ _ _ us hl => match us, hl with | [_, _, _, _], _ => rfl) (D_law_draw := D_law_draw) (D_law_some := D_law_some)
  have D_total : Df l.prog w K mg base 4 "total" ["rows"] (sp_total K) := ok_total (G := GG) (F := h_total.fu X G (ps := ["rows"]) fun _ _ _ _ _ _ us hl => match us, hl with | [_], _ => rfl) (D_added := D_added)
  have D_is_list : Df l.prog w K mg base 4 "is_list" ["thing"] (sp_is_list K) := ok_is_list (G := GG) (F := h_is_list.fu X G (ps := ["thing"]) fun _ _ _ _ _ _ us hl => match us, hl with | [_], _ => rfl) (D_is_threshold := D_is_threshold) (D_is_below := D_is_below)
  have D_is_sort : Df l.prog w K mg base 4 "is_sort" ["thing"] (sp_is_sort K) := ok_is_sort (G := GG) (F := h_is_sort.fu X G (ps := ["thing"]) fun _ _ _ _ _ _ us hl => match us, hl with | [_], _ => rfl) (D_is_between := D_is_between) (D_is_width := D_is_width) (D_is_pair := D_is_pair)
  have D_check_filling : Df l.prog w K mg base 4 "check_filling" ["web", "thing"] (sp_check_filling K) := ok_check_filling (G := GG) (F := h_check_filling.fu X G (ps := ["web", "thing"]) fun _ _ _ _ _ _ us hl => match us, hl with | [_, _], _ => rfl) (D_is_filling := D_is_filling)
  have D_are_widths : Df l.prog w K mg base 4 "are_widths" ["thing"] (sp_are_widths K) := ok_are_widths (G := GG) (F := h_are_widths.fu X G (ps := ["thing"]) fun _ _ _ _ _ _ us hl => match us, hl with | [_], _ => rfl) (D_is_width := D_is_width)
  have D_gauge : Df l.prog w K mg base 4 "gauge" ["widths", "pipe"] (sp_gauge K) := ok_gauge (G := GG) (F := h_gauge.fu X G (ps := ["widths", "pipe"]) fun _ _ _ _ _ _ us hl => match us, hl with | [_, _], _ => rfl) (D_parts_of_grain := D_parts_of_grain) (D_in_grains := D_in_grains)
  have D_room_of : Df l.prog w K mg base 4 "room_of" ["book", "i", "j"] (sp_room_of K) := ok_room_of (G := GG) (F := h_room_of.fu X G (ps := ["book", "i", "j"]) fun _ _ _ _ _ _ us hl => match us, hl with | [_, _, _], _ => rfl) (D_added := D_added) (D_part_of := D_part_of)
  have D_grains_of : Df l.prog w K mg base 4 "grains_of" ["one", "other"] (sp_grains_of K) := ok_grains_of (G := GG) (F := h_grains_of.fu X G (ps := ["one", "other"]) fun _ _ _ _ _ _ us hl => match us, hl with | [_, _], _ => rfl) (D_parts_of_grain := D_parts_of_grain)
  have D_law_list : Df l.prog w K mg base 4 "_law_list" ["_law_pool_here", "_law_sorts_here", "_law_pair"] (sp_law_list K) := ok_law_list (G := GG) (F := h_law_list.fu X G (ps := ["_law_pool_here", "_law_sorts_here", "_law_pair"]) fun _ _ _ _ _ _ us hl => match us, hl with | [_, _, _], _ => rfl) (D_law_pair_grains := D_law_pair_grains) (D_law_room := D_law_room) (D_law_draw := D_law_draw) (D_law_lowest := D_law_lowest) (D_law_ascending := D_law_ascending)
  have D_are_sorts : Df l.prog w K mg base 5 "are_sorts" ["thing"] (sp_are_sorts K) := ok_are_sorts (G := GG) (F := h_are_sorts.fu X G (ps := ["thing"]) fun _ _ _ _ _ _ us hl => match us, hl with | [_], _ => rfl) (D_is_sort := D_is_sort)
  have D_is_kind : Df l.prog w K mg base 5 "is_kind" ["thing", "sorts"] (sp_is_kind K) := ok_is_kind (G := GG) (F := h_is_kind.fu X G (ps := ["thing", "sorts"]) fun _ _ _ _ _ _ us hl => match us, hl with | [_, _], _ => rfl) (D_is_list := D_is_list) (D_is_pair := D_is_pair) (D_is_join_books := D_is_join_books)
  have D_is_pipe : Df l.prog w K mg base 5 "is_pipe" ["thing", "many"] (sp_is_pipe K) := ok_is_pipe (G := GG) (F := h_is_pipe.fu X G (ps := ["thing", "many"]) fun _ _ _ _ _ _ us hl => match us, hl with | [_, _], _ => rfl) (D_is_between := D_is_between) (D_is_triple := D_is_triple) (D_is_list := D_is_list)
  have D_Web_begin := ok_Web_begin (P := l.prog) (w := w) (mg := mg) (base := base) GG mW cW D_gauge
  have D_room : Df l.prog w K mg base 5 "room" ["book", "i", "j"] (sp_room K) := ok_room (G := GG) (F := h_room.fu X G (ps := ["book", "i", "j"]) fun _ _ _ _ _ _ us hl => match us, hl with | [_, _, _], _ => rfl) (D_check_sorts := D_check_sorts) (D_room_of := D_room_of)
  have D_first_breach : Df l.prog w K mg base 5 "first_breach" ["steps", "one", "other"] (sp_first_breach K) := ok_first_breach (G := GG) (F := h_first_breach.fu X G (ps := ["steps", "one", "other"]) fun _ _ _ _ _ _ us hl => match us, hl with | [_, _, _], _ => rfl) (D_grains_of := D_grains_of) (D_swing := D_swing) (D_in_grains := D_in_grains) (D_runs_at := D_runs_at)
  have D_is_breach : Df l.prog w K mg base 5 "is_breach" ["book", "thing"] (sp_is_breach K) := ok_is_breach (G := GG) (F := h_is_breach.fu X G (ps := ["book", "thing"]) fun _ _ _ _ _ _ us hl => match us, hl with | [_, _], _ => rfl) (D_is_between := D_is_between) (D_is_triple := D_is_triple) (D_is_join_calm := D_is_join_calm) (D_is_fraction := D_is_fraction) (D_sorts_at := D_sorts_at) (D_grains_of := D_grains_of) (D_runs_at := D_runs_at) (D_in_grains := D_in_grains) (D_swing := D_swing)
  have D_losses : Df l.prog w K mg base 5 "losses" ["book", "capped"] (sp_losses K) := ok_losses (G := GG) (F := h_losses.fu X G (ps := ["book", "capped"]) fun _ _ _ _ _ _ us hl => match us, hl with | [_, _], _ => rfl) (D_sorts_at := D_sorts_at) (D_grains_of := D_grains_of) (D_swing := D_swing) (D_in_grains := D_in_grains) (D_made := D_made) (D_runs_at := D_runs_at)
  have D_least_square : Df l.prog w K mg base 5 "least_square" ["web", "filling"] (sp_least_square K) := ok_least_square (G := GG) (F := h_least_square.fu X G (ps := ["web", "filling"]) fun _ _ _ _ _ _ us hl => match us, hl with | [_, _], _ => rfl) (D_parts := D_parts) (D_made := D_made) (D_total := D_total)
  have D_law_parts_of_book : Df l.prog w K mg base 5 "_law_parts_of_book" ["_law_pool_here"] (sp_law_parts_of_book K) := ok_law_parts_of_book (G := GG) (F := h_law_parts_of_book.fu X G (ps := ["_law_pool_here"]) fun _ _ _ _ _ _ us hl => match us, hl with | [_], _ => rfl) (D_law_sorts := D_law_sorts) (D_law_pairs := D_law_pairs) (D_law_some := D_law_some) (D_law_draw := D_law_draw) (D_law_list := D_law_list)
  have D_Book_init0 := ok_Book_init (P := l.prog) (w := w) (mg := mg) (base := base) GG mB cB D_are_sorts D_is_kind
  have D_Book_init : MkD l.prog w K mg base 6 "Book" CB ["self", "sorts", "kinds"] (sp_Book_init K CB) := mkB.md D_Book_init0
  have D_Web_init0 := ok_Web_init (P := l.prog) (w := w) (mg := mg) (base := base) GG mI cW D_are_widths D_is_pipe D_Web_begin
  have D_Web_init : MkD l.prog w K mg base 6 "Web" CW ["self", "widths", "pipes"] (sp_Web_init K CW) := mkW.md D_Web_init0
  have D_breach : Df l.prog w K mg base 6 "breach" ["book"] (sp_breach K) := ok_breach (G := GG) (F := h_breach.fu X G (ps := ["book"]) fun _ _ _ _ _ _ us hl => match us, hl with | [_], _ => rfl) (D_sorts_at := D_sorts_at) (D_first_breach := D_first_breach) (D_made := D_made) (D_grains_of := D_grains_of)
  have D_calm_singly : Df l.prog w K mg base 6 "calm_singly" ["book"] (sp_calm_singly K) := ok_calm_singly (G := GG) (F := h_calm_singly.fu X G (ps := ["book"]) fun _ _ _ _ _ _ us hl => match us, hl with | [_], _ => rfl) (D_losses := D_losses)
  have D_law_rooms_right : Df l.prog w K mg base 6 "_law_rooms_right" ["_law_sorts_here", "_law_book", "_law_other", "_law_new"] (sp_law_rooms_right K) := ok_law_rooms_right (G := GG) (F := h_law_rooms_right.fu X G (ps := ["_law_sorts_here", "_law_book", "_law_other", "_law_new"]) fun _ _ _ _ _ _ us hl => match us, hl with | [_, _, _, _], _ => rfl) (D_law_pairs := D_law_pairs) (D_room := D_room)
  have D_calm : Df l.prog w K mg base 7 "calm" ["book"] (sp_calm K) := ok_calm (G := GG) (F := h_calm.fu X G (ps := ["book"]) fun _ _ _ _ _ _ us hl => match us, hl with | [_], _ => rfl) (D_breach := D_breach)
  have D_loss : Df l.prog w K mg base 8 "loss" ["book"] (sp_loss K) := ok_loss (G := GG) (F := h_loss.fu X G (ps := ["book"]) fun _ _ _ _ _ _ us hl => match us, hl with | [_], _ => rfl) (D_calm := D_calm) (D_losses := D_losses) (D_is_below := D_is_below)
  have D_most_measures : Df l.prog w K mg base 9 "most_measures" ["book", "web", "sorts", "filling"] (sp_most_measures K) := ok_most_measures (G := GG) (F := h_most_measures.fu X G (ps := ["book", "web", "sorts", "filling"]) fun _ _ _ _ _ _ us hl => match us, hl with | [_, _, _, _], _ => rfl) (D_loss := D_loss) (D_fault := D_fault) (D_check_filling := D_check_filling) (D_total := D_total) (D_part_of := D_part_of) (D_by := D_by) (D_less := D_less) (D_least_square := D_least_square)

  exact ok_law (CB := CB) (CW := CW) (G := GG) (F1 := fun_mk hl hc hk) (D_law_pool := D_law_pool) (D_law_parts_of_book := D_law_parts_of_book) (D_law_mixed := D_law_mixed) (D_law_renumbered := D_law_renumbered) (D_Book_init := D_Book_init) (D_calm_singly := D_calm_singly) (D_calm := D_calm) (D_law_rooms_right := D_law_rooms_right) (D_breach := D_breach) (D_is_breach := D_is_breach) (D_law_web := D_law_web) (D_law_widths := D_law_widths) (D_law_filling := D_law_filling) (D_Web_init := D_Web_init) (D_loss := D_loss) (D_most_measures := D_most_measures)
end
end K37
end
section
set_option Elab.async false
set_option linter.all false
set_option maxRecDepth 100000
set_option maxHeartbeats 4000000
namespace K37
open PySem PySem.Spec PyProof.Rows L2
/-- the end of a law's row, the loose names handed on -/
theorem walk_ofX {l : PySem.W.OpenLaw} {n k : Nat} {q : Program} {loose : List Str} {XP : (Str → Option Value) → Heap → Prop} {YP : World → Heap → Prop} {d : DefRec} {K : Params → PySem.W.Frag} {CX : World → CXT} {sp : World → Sp} {x : Str}
    (hn : l.most = some n) (hn2 : n ≤ sizeLine) (hdf : d.params.defaults = []) (hr : Room k callerA)
    (hY : ∀ (w : World) (h : Heap), YP w h → (K w.params).In h)
    (F : ∀ (w : World) (mg : Str → Option Value) (fa : Addr) (h : Heap), (K w.params).In h → h.Ns mainGlobals mg → XP mg h → mg d.name = some (.ref fa) →
      ∃ fd : FuncData, (∀ (s : Shared) (u : Value), BindsTo s fd ⟨[u], []⟩ [(x, u)]) ∧
        ∀ base : Heap, (K w.params).In base → base.Ns mainGlobals mg → FnOk l.prog w (K w.params) mg base (CX w) k fa fd [x] (sp w))
    (hsp : ∀ (w : World) (H : Hp) (a : Addr) (ns : List Int), ns.length ≤ n → Only H → SqL (K w.params) H a (ns.map V.int) → sp w [.ref a] H (fun v _ => v = .bl true) fun _ _ _ => False)
    (hCX : ∀ (w : World) (H : Hp) (s : Shared) (e : Value) (s' : Shared), CX w [] H s (fun _ _ _ => False) e s' → False) :
    PySem.W.WalkO q loose XP YP l.row.toRowW d [] (fun f vs => PySem.call f vs) := by
  refine Att.attach_call hn hdf fun w s₀ s₁ mg mb fa o pm cd doc a vs ns G Y ho hd hcd hmg hobj hints hlen hg => ?_
  have KX := hY w _ Y
  obtain ⟨fd, hb, hF⟩ := F w mg fa _ KX G.T.g G.X hmg
  exact law_call KX G.T.g G.T.b G.T.builtins G.T.nolimit hg hobj hints (Nat.le_trans hlen hn2) hr hF hb (fun H hO hS => hsp w H a ns hlen hO hS) fun H e s' => hCX w H s₁ e s'
theorem top_of {p : Program} {lv : List (Str × PySem.W.WData)} {mg : Str → Option Value} {h : Heap} (x : PySem.W.XL p lv mg h) (hm : (("MOST_TOP" : Str), PySem.W.WData.int 1000000) ∈ lv) : ∃ t, mg "MOST_TOP" = some (.int 1000000 t) := by
  obtain ⟨v, a, b⟩ := x.2.val _ hm
  cases b
  exact ⟨_, a⟩
theorem fact_f {K : PySem.W.Frag} {x nm qual : Str} {st : Stmt} {f : Addr} {oc : Value} {od : Option Addr} {sl : Array (Option Value)} {kV dc pm : Value} {an : Option Addr} {cd ct : Value}
    (a : PySem.W.nsIn K mainGlobals x = some (some (.ref f))) (l : K.lookup f = some ⟨oc, od, .func (PySem.W.fnOf nm qual (defArgs st) (defBody st) (defScope st) .none kV dc pm an cd ct), sl⟩)
    (c : PySem.W.codeIn K cd qual = true) (k : PySem.W.keepIn K (.ref f) = true) : FactF K x nm qual st := ⟨f, oc, od, sl, kV, dc, pm, an, cd, ct, a, l, c, k⟩
theorem fact_m {K : PySem.W.Frag} {C f : Addr} {m nm qual : Str} {st : Stmt} {oc : Value} {od : Option Addr} {sl : Array (Option Value)} {kV dc pm : Value} {an : Option Addr} {cd ct : Value}
    (a : PySem.W.findIn K (.ref C) m = some (some (.ref f))) (i : PySem.W.isFn K (.ref f) = true) (l : K.lookup f = some ⟨oc, od, .func (PySem.W.fnOf nm qual (defArgs st) (defBody st) (defScope st) .none kV dc pm an cd ct), sl⟩)
    (c : PySem.W.codeIn K cd qual = true) (k : PySem.W.keepIn K (.ref f) = true) : FactM K C f m nm qual st := ⟨oc, od, sl, kV, dc, pm, an, cd, ct, a, i, l, c, k⟩
end K37
end
section
set_option Elab.async false
set_option maxRecDepth 100000
open PySem PySem.W PyProof.Rows
set_option maxHeartbeats 0
open_top head for PySem.Challenge.rw_twotides_k37_whole_books_renumbered
end
section
set_option Elab.async false
set_option maxRecDepth 100000
open PySem PySem.W PyProof.Rows
set_option maxHeartbeats 0
set_option pp.maxSteps 60
local macro_rules | `(tactic| walk_at "ff") => `(tactic| (refine' K37.fact_f ?qa ?ql ?qc ?qk; (case qa => k_is); (case ql => k_is); (case qc => k_is); (case qk => k_is)))
local macro_rules | `(tactic| walk_at "fm") => `(tactic| (refine' K37.fact_m ?qa ?qi ?ql ?qc ?qk; (case qa => k_is); (case qi => k_is); (case ql => k_is); (case qc => k_is); (case qk => k_is)))
local macro_rules | `(tactic| walk_at "fc") => `(tactic| (refine' ⟨?qa, ?q1, ?q2, ?q3, ?q4, ?q5, ?q6⟩; (case qa => k_is); (case q1 => k_is); (case q2 => k_is); (case q3 => k_is); (case q4 => k_is); (case q5 => k_is); (case q6 => k_is)))
theorem PySem.Challenge.cw_twotides_k37_whole_books_renumbered_holds : PySem.Challenge.rw_twotides_k37_whole_books_renumbered.Holds :=
  head (by
  k_fill
  refine K37.walk_ofX (l := PySem.Challenge.rw_twotides_k37_whole_books_renumbered) (n := 63) (k := 10) (x := "_law_script") (CX := fun _ => L2.CX0) (sp := fun w => K37.spLaw _) rfl (by decide) rfl ⟨rfl, by decide, by decide⟩ (fun w h Y => PySem.W.kIn_of Y) ?F (fun _ _ a ns hl _ hS => ⟨a, ns, rfl, hS, hl, fun _ => rfl⟩) (fun _ _ _ _ _ h => h)
  case F =>
    intro w mg fa h KX G XX hmg
    have a1 := by
      refine' K37.all_mk (l := PySem.Challenge.rw_twotides_k37_whole_books_renumbered) (w := w) (its := #[]) KX G hmg (K37.top_of XX (by simp)) ?h_is_integer ?h_is_between ?h_is_pair ?h_is_triple ?h_is_row ?h_divisor ?h_multiple ?h_made ?h_is_fraction ?h_added ?h_less ?h_by ?h_is_below ?h_total ?h_next_whole ?h_is_threshold ?h_is_list ?h_is_width ?h_parts_of_grain ?h_in_grains ?h_part_of ?h_is_sort ?h_are_sorts ?h_is_join_books ?h_is_kind ?h_may_join ?h_pipes_at ?h_vessel_fault ?h_fault ?h_is_filling ?h_check_filling ?h_runs_at ?h_are_widths ?h_is_pipe ?h_gauge ?h_joined ?h_lots_of ?h_parts ?h_check_sorts ?h_room_of ?h_room ?h_swing ?h_grains_of ?h_first_breach ?h_sorts_at ?h_breach ?h_is_join_calm ?h_is_breach ?h_calm ?h_losses ?h_loss ?h_least_square ?h_most_measures ?h_calm_singly ?h_law_pool ?h_law_draw ?h_law_some ?h_law_mixed ?h_law_divisor ?h_law_lowest ?h_law_grains ?h_law_room ?h_law_pair_grains ?h_law_sorts ?h_law_pairs ?h_law_list ?h_law_ascending ?h_law_parts_of_book ?h_law_web ?h_law_widths ?h_law_filling ?h_law_joins ?h_law_renumbered ?h_law_rooms_right ?h_law ?kB ?kW ?mB ?mI ?mW ?n1 ?n2 ?n3 ?n4 ?n5 ?b1 ?b2 ?b3 ?b4 ?b5 ?b6 ?b7 ?b8 ?b9 ?b10 ?b11 ?b12 ?b13 ?b14 ?b15 ?b16 ?m1 ?m2 ?m3 ?m4 ?m5 ?m6 ?m7 ?m8 ?o1 ?o2 ?o3 ?o4
      (case h_is_integer => walk_at "ff")
      (case h_is_between => walk_at "ff")
      (case h_is_pair => walk_at "ff")
      (case h_is_triple => walk_at "ff")
      (case h_is_row => walk_at "ff")
      (case h_divisor => walk_at "ff")
      (case h_multiple => walk_at "ff")
      (case h_made => walk_at "ff")
      (case h_is_fraction => walk_at "ff")
      (case h_added => walk_at "ff")
      (case h_less => walk_at "ff")
      (case h_by => walk_at "ff")
      (case h_is_below => walk_at "ff")
      (case h_total => walk_at "ff")
      (case h_next_whole => walk_at "ff")
      (case h_is_threshold => walk_at "ff")
      (case h_is_list => walk_at "ff")
      (case h_is_width => walk_at "ff")
      (case h_parts_of_grain => walk_at "ff")
      (case h_in_grains => walk_at "ff")
      (case h_part_of => walk_at "ff")
      (case h_is_sort => walk_at "ff")
      (case h_are_sorts => walk_at "ff")
      (case h_is_join_books => walk_at "ff")
      (case h_is_kind => walk_at "ff")
      (case h_may_join => walk_at "ff")
      (case h_pipes_at => walk_at "ff")
      (case h_vessel_fault => walk_at "ff")
      (case h_fault => walk_at "ff")
      (case h_is_filling => walk_at "ff")
      (case h_check_filling => walk_at "ff")
      (case h_runs_at => walk_at "ff")
      (case h_are_widths => walk_at "ff")
      (case h_is_pipe => walk_at "ff")
      (case h_gauge => walk_at "ff")
      (case h_joined => walk_at "ff")
      (case h_lots_of => walk_at "ff")
      (case h_parts => walk_at "ff")
      (case h_check_sorts => walk_at "ff")
      (case h_room_of => walk_at "ff")
      (case h_room => walk_at "ff")
      (case h_swing => walk_at "ff")
      (case h_grains_of => walk_at "ff")
      (case h_first_breach => walk_at "ff")
      (case h_sorts_at => walk_at "ff")
      (case h_breach => walk_at "ff")
      (case h_is_join_calm => walk_at "ff")
      (case h_is_breach => walk_at "ff")
      (case h_calm => walk_at "ff")
      (case h_losses => walk_at "ff")
      (case h_loss => walk_at "ff")
      (case h_least_square => walk_at "ff")
      (case h_most_measures => walk_at "ff")
      (case h_calm_singly => walk_at "ff")
      (case h_law_pool => walk_at "ff")
      (case h_law_draw => walk_at "ff")
      (case h_law_some => walk_at "ff")
      (case h_law_mixed => walk_at "ff")
      (case h_law_divisor => walk_at "ff")
      (case h_law_lowest => walk_at "ff")
      (case h_law_grains => walk_at "ff")
      (case h_law_room => walk_at "ff")
      (case h_law_pair_grains => walk_at "ff")
      (case h_law_sorts => walk_at "ff")
      (case h_law_pairs => walk_at "ff")
      (case h_law_list => walk_at "ff")
      (case h_law_ascending => walk_at "ff")
      (case h_law_parts_of_book => walk_at "ff")
      (case h_law_web => walk_at "ff")
      (case h_law_widths => walk_at "ff")
      (case h_law_filling => walk_at "ff")
      (case h_law_joins => walk_at "ff")
      (case h_law_renumbered => walk_at "ff")
      (case h_law_rooms_right => walk_at "ff")
      (case h_law => walk_at "ff"); (case kB => walk_at "fc"); (case kW => walk_at "fc"); (case mB => walk_at "fm"); (case mI => walk_at "fm"); (case mW => walk_at "fm")
      (case n1 => k_is); (case n2 => k_is); (case n3 => k_is); (case n4 => k_is); (case n5 => k_is)
      (case b1 => k_is); (case b2 => k_is); (case b3 => k_is); (case b4 => k_is); (case b5 => k_is); (case b6 => k_is); (case b7 => k_is); (case b8 => k_is); (case b9 => k_is); (case b10 => k_is); (case b11 => k_is); (case b12 => k_is); (case b13 => k_is); (case b14 => k_is); (case b15 => k_is); (case b16 => k_is)
      (case m1 => k_is); (case m2 => k_is); (case m3 => k_is); (case m4 => k_is); (case m5 => k_is); (case m6 => k_is); (case m7 => k_is); (case m8 => k_is)
      (case o1 => k_is); (case o2 => k_is); (case o3 => rfl); (case o4 => rfl)
    exact a1)
end
