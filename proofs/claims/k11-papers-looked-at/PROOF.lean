import PyProof.Rows.All
import Wide.All
import OpenK.AllK
import Wide.FinOn
import HandS.ForMost
import HandS.ForExc
import HandS.Deep
import HandS.SortOrd
import HandS.TupLe
import KE.SortData
import KE.DataCmp
import HandS.ExcIs
import HandS.IsInst
import HandS.SetFor
import HandS.Style
import HandS.Steps
import KE.KDictKeyed
import KE.KDictSum
import KE.KDictWalk
import PyProof.Rows.SortShell
import PyProof.Transfer
import PySem.Challenge.RW_pegleap_k11_papers_looked_at
set_option Elab.async false
set_option linter.all false
set_option maxRecDepth 100000
set_option maxHeartbeats 4000000
namespace Pg
open PySem PySem.Spec PyProof.Rows L2

/-! ## data in a frozen part G of the heap -/
mutual
inductive Rp (G : Hp) : V → PyData → Prop
  | non : Rp G .non .none
  | bl (b : Bool) : Rp G (.bl b) (.bool b)
  | int (i : Int) : Rp G (.int i) (.int i)
  | str (x : Str) : Rp G (.str x) (.str x)
  | lst {a : Addr} {xs : List V} {ds : List PyData} : G a = some (.lst xs) → RpA G xs ds → Rp G (.ref a) (.list ds)
  | tup {a : Addr} {xs : List V} {ds : List PyData} : G a = some (.tup xs) → RpA G xs ds → Rp G (.ref a) (.tuple ds)
inductive RpA (G : Hp) : List V → List PyData → Prop
  | nil : RpA G [] []
  | cons {v : V} {vs : List V} {d : PyData} {ds : List PyData} : Rp G v d → RpA G vs ds → RpA G (v :: vs) (d :: ds)
end
mutual
theorem Rp.mono {G G' : Hp} (e : Same G G') : ∀ {v : V} {d : PyData}, Rp G v d → Rp G' v d
  | _, _, .non => .non
  | _, _, .bl b => .bl b
  | _, _, .int i => .int i
  | _, _, .str x => .str x
  | _, _, .lst h r => .lst (e _ _ h) (RpA.mono e r)
  | _, _, .tup h r => .tup (e _ _ h) (RpA.mono e r)
theorem RpA.mono {G G' : Hp} (e : Same G G') : ∀ {v : List V} {d : List PyData}, RpA G v d → RpA G' v d
  | _, _, .nil => .nil
  | _, _, .cons h r => .cons (Rp.mono e h) (RpA.mono e r)
end
mutual
theorem Rp.dp {K : PySem.W.Frag} {G H : Hp} (e : Same G H) : ∀ {v : V} {d : PyData}, Rp G v d → Dp K H v d
  | _, _, .non => .non
  | _, _, .bl b => .bl b
  | _, _, .int i => .int i
  | _, _, .str x => .str x
  | _, _, .lst h r => .lst (SqL.of (e _ _ h)) (RpA.dp e r)
  | _, _, .tup h r => .tup (SqT.of (e _ _ h)) (RpA.dp e r)
theorem RpA.dp {K : PySem.W.Frag} {G H : Hp} (e : Same G H) : ∀ {v : List V} {d : List PyData}, RpA G v d → DpAll K H v d
  | _, _, .nil => .nil
  | _, _, .cons h r => .cons (Rp.dp e h) (RpA.dp e r)
end
theorem RpA.len {G : Hp} : ∀ {vs : List V} {ds : List PyData}, RpA G vs ds → vs.length = ds.length
  | _, _, .nil => rfl
  | _, _, .cons _ r => by rw [List.length_cons, List.length_cons, RpA.len r]
theorem RpA.get {G : Hp} : ∀ {vs : List V} {ds : List PyData} {i : Nat} {v : V}, RpA G vs ds → vs[i]? = some v → ∃ d, ds[i]? = some d ∧ Rp G v d
  | _, _, _, _, .nil, e => by simp at e
  | _, _, 0, _, .cons (d := d) h _, e => by simp at e; subst e; exact ⟨d, rfl, h⟩
  | _, _, i + 1, v, .cons _ r, e => by
    obtain ⟨d, h1, h2⟩ := RpA.get (i := i) (v := v) r (by simpa using e)
    exact ⟨d, by simpa using h1, h2⟩
theorem RpA.at {G : Hp} : ∀ {vs : List V} {ds : List PyData} {i : Nat} {d : PyData}, RpA G vs ds → ds[i]? = some d → ∃ v, vs[i]? = some v ∧ Rp G v d
  | _, _, _, _, .nil, e => by simp at e
  | _, _, 0, _, .cons (v := v) h _, e => by simp at e; subst e; exact ⟨v, rfl, h⟩
  | _, _, i + 1, d, .cons _ r, e => by
    obtain ⟨v, h1, h2⟩ := RpA.at (i := i) (d := d) r (by simpa using e)
    exact ⟨v, by simpa using h1, h2⟩
theorem RpA.app {G : Hp} : ∀ {vs ws : List V} {ds es : List PyData}, RpA G vs ds → RpA G ws es → RpA G (vs ++ ws) (ds ++ es)
  | _, _, _, _, .nil, q => q
  | _, _, _, _, .cons h r, q => .cons h (RpA.app r q)
theorem RpA.tk {G : Hp} : ∀ {vs : List V} {ds : List PyData} (n : Nat), RpA G vs ds → RpA G (vs.take n) (ds.take n)
  | _, _, 0, _ => .nil
  | _, _, _ + 1, .nil => .nil
  | _, _, n + 1, .cons h r => .cons h (RpA.tk n r)
theorem RpA.dr {G : Hp} : ∀ {vs : List V} {ds : List PyData} (n : Nat), RpA G vs ds → RpA G (vs.drop n) (ds.drop n)
  | _, _, 0, r => r
  | _, _, _ + 1, .nil => .nil
  | _, _, n + 1, .cons _ r => RpA.dr n r
theorem RpA.set {G : Hp} {v : V} {d : PyData} (h : Rp G v d) : ∀ {vs : List V} {ds : List PyData} (i : Nat), RpA G vs ds → RpA G (vs.set i v) (ds.set i d)
  | _, _, _, .nil => .nil
  | _, _, 0, .cons _ r => .cons h r
  | _, _, i + 1, .cons q r => .cons q (RpA.set h i r)
theorem RpA.ints {G : Hp} : ∀ {vs : List V} {ns : List Int}, RpA G vs (ns.map PyData.int) → vs = ns.map V.int
  | _, [], h => by cases h; rfl
  | _, n :: ns, h => by
    rw [List.map_cons] at h
    cases h with
    | cons a b =>
      cases a
      rw [RpA.ints b]
      rfl
theorem RpA.bools {G : Hp} : ∀ {vs : List V} {ns : List Bool}, RpA G vs (ns.map PyData.bool) → vs = ns.map V.bl
  | _, [], h => by cases h; rfl
  | _, n :: ns, h => by
    rw [List.map_cons] at h
    cases h with
    | cons a b =>
      cases a
      rw [RpA.bools b]
      rfl

/-! ## how the heap grows: G its frozen part -/
structure Grow (G H G' H' : Hp) : Prop where
  gg : Same G G'
  gh : Same G' H'
  hh : Same H H'
  nw : ∀ a, G a = none → H a ≠ none → G' a = none
theorem Grow.refl {G H : Hp} (e : Same G H) : Grow G H G H := ⟨Same.refl G, e, Same.refl H, fun _ h _ => h⟩
theorem Grow.trans {G H G1 H1 G2 H2 : Hp} (a : Grow G H G1 H1) (b : Grow G1 H1 G2 H2) : Grow G H G2 H2 :=
  ⟨a.gg.trans b.gg, b.gh, a.hh.trans b.hh, fun p h q => b.nw p (a.nw p h q) (by
    cases e : H p with
    | none => exact absurd e q
    | some o => rw [a.hh p o e]; simp)⟩
theorem same_new {H : Hp} {p : Addr} {o : HO} (h : H p = none) : Same H (upd H p o) := fun b x e => by
  rw [upd_ne (ne_of_none e h)]
  exact e
/-- a new frozen object -/
theorem Grow.lay {G H : Hp} {p : Addr} {o : HO} (e : Same G H) (n : H p = none) : Grow G H (upd G p o) (upd H p o) :=
  ⟨same_new (e.free n), fun b x h => by
    by_cases q : b = p
    · subst q
      rw [upd_same] at h ⊢
      exact h
    · rw [upd_ne q] at h ⊢
      exact e b x h, same_new n, fun a h q => by
    have : a ≠ p := fun z => q (z ▸ n)
    rw [upd_ne this]
    exact h⟩
/-- a new object that stays its maker's -/
theorem Grow.own {G H : Hp} {p : Addr} {o : HO} (e : Same G H) (n : H p = none) : Grow G H G (upd H p o) :=
  ⟨Same.refl G, e.trans (same_new n), same_new n, fun _ h _ => h⟩
/-- the maker's own object freezes, seen from ahead of its making -/
theorem Grow.frz {G H G' H' : Hp} {p : Addr} {o : HO} (g : Grow G H G' H') (n : H p = none) (n' : G' p = none) (h : H' p = some o) : Grow G H (upd G' p o) H' :=
  ⟨g.gg.trans (same_new n'), fun b x e => by
    by_cases q : b = p
    · subst q
      rw [upd_same] at e
      rw [h]
      exact e
    · rw [upd_ne q] at e
      exact g.gh b x e, g.hh, fun a e q => by
    have : a ≠ p := fun z => q (z ▸ n)
    rw [upd_ne this]
    exact g.nw a e q⟩
/-- the maker's own object is written, seen from ahead of its making -/
theorem Grow.put {G H G' H' : Hp} {p : Addr} {o : HO} (g : Grow G H G' H') (n : H p = none) (n' : G' p = none) : Grow G H G' (upd H' p o) :=
  ⟨g.gg, fun b x e => by
    rw [upd_ne (ne_of_none e n')]
    exact g.gh b x e, fun b x e => by
    rw [upd_ne (ne_of_none e n)]
    exact g.hh b x e, g.nw⟩

/-! ## what a slot holds -/
abbrev Cell := Int × Int
abbrev Leap := Cell × Cell
def cD (c : Cell) : PyData := .tuple [.int c.1, .int c.2]
def csD (cs : List Cell) : PyData := .list (cs.map cD)
def tsD (cs : List Cell) : PyData := .tuple (cs.map cD)
def lD (l : Leap) : PyData := .tuple [cD l.1, cD l.2]
def lsD (ls : List Leap) : PyData := .list (ls.map lD)
def isD (ns : List Int) : PyData := .list (ns.map PyData.int)
def ssD (ss : List (List Cell)) : PyData := .list (ss.map csD)

/-- an object that is its maker's own -/
inductive Own where
  | lst (ds : List PyData)
  | any (p : Hp → Hp → Addr → HO → Prop) (m : ∀ H0 G G' a o, Same G G' → p H0 G a o → p H0 G' a o) (k : ∀ H0 H1 G a o, Same H0 H1 → p H1 G a o → p H0 G a o)
/-- o at a is w; H0: what was there before -/
def OwnOk (H0 G : Hp) (a : Addr) (o : HO) : Own → Prop
  | .lst ds => ∃ vs, o = .lst vs ∧ RpA G vs ds
  | .any p _ _ => p H0 G a o
theorem OwnOk.mono {H0 G G' : Hp} (e : Same G G') {a : Addr} {o : HO} : ∀ {w : Own}, OwnOk H0 G a o w → OwnOk H0 G' a o w
  | .lst _, ⟨vs, h, r⟩ => ⟨vs, h, RpA.mono e r⟩
  | .any _ m _, h => m _ _ _ _ _ e h
theorem OwnOk.back {H0 H1 G : Hp} (e : Same H0 H1) {a : Addr} {o : HO} : ∀ {w : Own}, OwnOk H1 G a o w → OwnOk H0 G a o w
  | .lst _, h => h
  | .any _ _ k, h => k _ _ _ _ _ e h

inductive Sl where
  | no
  | py (d : PyData)
  | brd (cs : List Cell)
  | own (o : Own)
  | pr (P : Hp → V → Prop) (m : ∀ G G' v, Same G G' → P G v → P G' v)
  | nw (p : Hp → Hp → V → Prop) (m : ∀ H0 G G' v, Same G G' → p H0 G v → p H0 G' v) (k : ∀ H0 H1 G v, Same H0 H1 → p H1 G v → p H0 G v)
def Brd (C : Addr) (G : Hp) (v : V) (cs : List Cell) : Prop := ∃ (a dx p : Addr) (vs : List V), v = .ref a ∧ G a = some (.ins C dx [("cells", .ref p)]) ∧ G p = some (.lst vs) ∧ RpA G vs (cs.map cD)
theorem Brd.mono {C : Addr} {G G' : Hp} (e : Same G G') {v : V} {cs : List Cell} : Brd C G v cs → Brd C G' v cs :=
  fun ⟨a, dx, p, vs, h1, h2, h3, h4⟩ => ⟨a, dx, p, vs, h1, e _ _ h2, e _ _ h3, RpA.mono e h4⟩
/-- v is s; H0: what was there before -/
def SlOk (C : Addr) (H0 G H : Hp) (v : V) : Sl → Prop
  | .no => True
  | .py d => Rp G v d
  | .brd cs => Brd C G v cs
  | .pr p _ => p G v
  | .nw p _ _ => p H0 G v
  | .own w => ∃ a o, v = .ref a ∧ H a = some o ∧ G a = none ∧ H0 a = none ∧ OwnOk H0 G a o w
theorem SlOk.grow {C : Addr} {H0 G H G' H' : Hp} (g : Grow G H G' H') {v : V} : ∀ {s : Sl}, SlOk C H0 G H v s → SlOk C H0 G' H' v s
  | .no, _ => trivial
  | .py _, h => Rp.mono g.gg h
  | .brd _, h => Brd.mono g.gg h
  | .pr _ m, h => m _ _ _ g.gg h
  | .nw _ m _, h => m _ _ _ _ g.gg h
  | .own _, ⟨a, o, h1, h2, h3, h4, h5⟩ => ⟨a, o, h1, g.hh _ _ h2, g.nw _ h3 (by rw [h2]; simp), h4, OwnOk.mono g.gg h5⟩
theorem SlOk.back {C : Addr} {H0 H1 G H : Hp} (e : Same H0 H1) {v : V} : ∀ {s : Sl}, SlOk C H1 G H v s → SlOk C H0 G H v s
  | .no, _ => trivial
  | .py _, h => h
  | .brd _, h => h
  | .pr _ _, h => h
  | .nw _ _ k, h => k _ _ _ _ e h
  | .own _, ⟨a, o, h1, h2, h3, h4, h5⟩ => ⟨a, o, h1, h2, h3, e.free h4, h5.back e⟩

abbrev Env := List Sl
/-- the state: γ what the slots hold; G0, H0 the heap at the entry -/
structure Stt (C : Addr) (G0 H0 : Hp) (γ : Env) (σ : L2.St) (G H : Hp) : Prop where
  gr : Grow G0 H0 G H
  ln : σ.length = γ.length
  ok : ∀ (i : Nat) (s : Sl), γ[i]? = some s → s = .no ∨ ∃ v, σ[i]? = some (some v) ∧ SlOk C H0 G H v s
  ap : ∀ (i j : Nat) (u w : Own) (a : Addr), γ[i]? = some (.own u) → γ[j]? = some (.own w) → σ[i]? = some (some (.ref a)) → σ[j]? = some (some (.ref a)) → i = j
section
variable {C : Addr} {G0 H0 G H G' H' : Hp} {γ : Env} {σ : L2.St}
theorem Stt.same (x : Stt C G0 H0 γ σ G H) : Same G H := x.gr.gh
theorem Stt.grow (x : Stt C G0 H0 γ σ G H) (g : Grow G H G' H') : Stt C G0 H0 γ σ G' H' :=
  ⟨x.gr.trans g, x.ln, fun i s h => (x.ok i s h).imp id fun ⟨v, h1, h2⟩ => ⟨v, h1, h2.grow g⟩, x.ap⟩
theorem Stt.get (x : Stt C G0 H0 γ σ G H) {i : Nat} {s : Sl} (h : γ[i]? = some s) (n : s ≠ .no) : ∃ v, σ[i]? = some (some v) ∧ SlOk C H0 G H v s :=
  (x.ok i s h).resolve_left n
/-- a slot is set to what has just come -/
theorem Stt.set (x : Stt C G0 H0 γ σ G H) (g : Grow G H G' H') {i : Nat} {s : Sl} {v : V} (r : SlOk C H G' H' v s) : Stt C G0 H0 (γ.set i s) (σ.set i (some v)) G' H' := by
  have y := x.grow g
  refine ⟨y.gr, by rw [List.length_set, List.length_set]; exact y.ln, fun j t h => ?_, fun j k u w a h1 h2 h3 h4 => ?_⟩
  · by_cases e : j = i
    · subst e
      have hj : j < γ.length := by
        have := (List.getElem?_eq_some_iff.mp h).1
        rw [List.length_set] at this
        exact this
      rw [List.getElem?_set_self hj] at h
      cases h
      exact .inr ⟨v, List.getElem?_set_self (by rw [y.ln]; exact hj), r.back x.gr.hh⟩
    · rw [List.getElem?_set_ne (Ne.symm e)] at h
      rcases y.ok j t h with z | ⟨u, h1, h2⟩
      · exact .inl z
      · exact .inr ⟨u, by rw [List.getElem?_set_ne (Ne.symm e)]; exact h1, h2⟩
  · -- a new own thing stands apart from all that were
    have new : ∀ (m : Nat) (w : Own), γ[m]? = some (.own w) → σ[m]? = some (some (.ref a)) → ∃ o, H a = some o := fun m w hm hs => by
      obtain ⟨v', e1, a', o, e2, e3, _⟩ := x.get hm (by simp)
      rw [hs] at e1
      cases e1
      cases e2
      exact ⟨o, e3⟩
    have fresh : ∀ (w : Own), s = .own w → v = .ref a → H a = none := fun w e1 e2 => by
      subst e1 e2
      obtain ⟨a', o, e3, _, _, e4, _⟩ := r
      cases e3
      exact e4
    by_cases ej : j = i
    · by_cases ek : k = i
      · rw [ej, ek]
      · subst ej
        have hj : j < γ.length := by
          have := (List.getElem?_eq_some_iff.mp h1).1
          rw [List.length_set] at this
          exact this
        rw [List.getElem?_set_self hj] at h1
        rw [List.getElem?_set_self (by rw [y.ln]; exact hj)] at h3
        rw [List.getElem?_set_ne (Ne.symm ek)] at h2 h4
        obtain ⟨o, ho⟩ := new k w h2 h4
        have := fresh u (Option.some.inj h1) (by simpa using h3)
        rw [this] at ho
        cases ho
    · by_cases ek : k = i
      · subst ek
        have hk : k < γ.length := by
          have := (List.getElem?_eq_some_iff.mp h2).1
          rw [List.length_set] at this
          exact this
        rw [List.getElem?_set_self hk] at h2
        rw [List.getElem?_set_self (by rw [y.ln]; exact hk)] at h4
        rw [List.getElem?_set_ne (Ne.symm ej)] at h1 h3
        obtain ⟨o, ho⟩ := new j u h1 h3
        have := fresh w (Option.some.inj h2) (by simpa using h4)
        rw [this] at ho
        cases ho
      · rw [List.getElem?_set_ne (Ne.symm ej)] at h1 h3
        rw [List.getElem?_set_ne (Ne.symm ek)] at h2 h4
        exact y.ap j k u w a h1 h2 h3 h4
/-- what a slot holds is forgotten -/
theorem Stt.drop (x : Stt C G0 H0 γ σ G H) (i : Nat) : Stt C G0 H0 (γ.set i .no) σ G H := by
  refine ⟨x.gr, by rw [List.length_set]; exact x.ln, fun j t h => ?_, fun j k u w a h1 h2 h3 h4 => ?_⟩
  · by_cases e : j = i
    · subst e
      have hj : j < γ.length := by
        have := (List.getElem?_eq_some_iff.mp h).1
        rw [List.length_set] at this
        exact this
      rw [List.getElem?_set_self hj] at h
      cases h
      exact .inl rfl
    · rw [List.getElem?_set_ne (Ne.symm e)] at h
      exact x.ok j t h
  · have ne : ∀ (m : Nat) (w : Own), (γ.set i .no)[m]? = some (.own w) → γ[m]? = some (.own w) := fun m w h => by
      by_cases e : m = i
      · subst e
        have hj : m < γ.length := by
          have := (List.getElem?_eq_some_iff.mp h).1
          rw [List.length_set] at this
          exact this
        rw [List.getElem?_set_self hj] at h
        cases h
      · rw [List.getElem?_set_ne (Ne.symm e)] at h
        exact h
    exact x.ap j k u w a (ne j u h1) (ne k w h2) h3 h4
/-- a slot is emptied -/
theorem Stt.wipe (x : Stt C G0 H0 γ σ G H) (i : Nat) : Stt C G0 H0 (γ.set i .no) (σ.set i none) G H := by
  have y := x.drop i
  have ne : ∀ (m : Nat) (t : Sl), t ≠ .no → (γ.set i .no)[m]? = some t → m ≠ i := fun m t n h e => by
    subst e
    have hj : m < γ.length := by
      have := (List.getElem?_eq_some_iff.mp h).1
      rw [List.length_set] at this
      exact this
    rw [List.getElem?_set_self hj] at h
    exact n (Option.some.inj h).symm
  refine ⟨y.gr, by rw [List.length_set, List.length_set]; exact x.ln, fun j t h => ?_, fun j k u w a h1 h2 h3 h4 => ?_⟩
  · rcases y.ok j t h with z | ⟨v, h1, h2⟩
    · exact .inl z
    · by_cases z : t = .no
      · exact .inl z
      · exact .inr ⟨v, by rw [List.getElem?_set_ne (Ne.symm (ne j t z h))]; exact h1, h2⟩
  · rw [List.getElem?_set_ne (Ne.symm (ne j _ (by simp) h1))] at h3
    rw [List.getElem?_set_ne (Ne.symm (ne k _ (by simp) h2))] at h4
    exact y.ap j k u w a h1 h2 h3 h4
/-- an own thing is written -/
theorem Stt.write (x : Stt C G0 H0 γ σ G H) {i : Nat} {u w : Own} {a : Addr} {o : HO} (hi : γ[i]? = some (.own u)) (hs : σ[i]? = some (some (.ref a))) (r : OwnOk H0 G a o w) :
    Stt C G0 H0 (γ.set i (.own w)) σ G (upd H a o) := by
  obtain ⟨v, e1, a', o0, e2, e3, e4, e5, e6⟩ := x.get hi (by simp)
  rw [hs] at e1
  cases e1
  cases e2
  have hil : i < γ.length := (List.getElem?_eq_some_iff.mp hi).1
  refine ⟨x.gr.put e5 e4, by rw [List.length_set]; exact x.ln, fun j t h => ?_, fun j k u' w' b h1 h2 h3 h4 => ?_⟩
  · by_cases e : j = i
    · subst e
      rw [List.getElem?_set_self hil] at h
      cases h
      exact .inr ⟨.ref a, hs, a, o, rfl, upd_same, e4, e5, r⟩
    · rw [List.getElem?_set_ne (Ne.symm e)] at h
      rcases x.ok j t h with z | ⟨v', h1, h2⟩
      · exact .inl z
      · refine .inr ⟨v', h1, ?_⟩
        cases t with
        | no => trivial
        | py d => exact h2
        | brd cs => exact h2
        | pr p m => exact h2
        | nw p m k => exact h2
        | own w' =>
          obtain ⟨b, ob, z1, z2, z3, z4, z5⟩ := h2
          subst z1
          have nb : b ≠ a := fun z => e (x.ap j i w' u a h hi (by rw [← z]; exact h1) hs)
          exact ⟨b, ob, rfl, by rw [upd_ne nb]; exact z2, z3, z4, z5⟩
  · have ne : ∀ (m : Nat) (w' : Own), (γ.set i (.own w))[m]? = some (.own w') → ∃ w'', γ[m]? = some (.own w'') := fun m w' h => by
      by_cases e : m = i
      · subst e
        exact ⟨u, hi⟩
      · rw [List.getElem?_set_ne (Ne.symm e)] at h
        exact ⟨w', h⟩
    obtain ⟨u1, q1⟩ := ne j u' h1
    obtain ⟨u2, q2⟩ := ne k w' h2
    exact x.ap j k u1 u2 b q1 q2 h3 h4
end
end Pg

namespace Pg
open PySem PySem.Spec PyProof.Rows L2

/-! ## what an expression's reading comes to, from what the slots hold -/
section
variable (C : Addr) (γ : Env)
def EvS (te : TE) (s : Sl) : Prop := ∀ (G0 H0 : Hp) (σ : L2.St) (G H : Hp) (Q : VK), Stt C G0 H0 γ σ G H → (∀ v G' H', Grow G H G' H' → SlOk C H G' H' v s → Q v H') → te σ H Q
/-- a list that can be read, frozen or one's own -/
def EvL (te : TE) (ds : List PyData) : Prop := ∀ (G0 H0 : Hp) (σ : L2.St) (G H : Hp) (Q : VK), Stt C G0 H0 γ σ G H → (∀ a vs G' H', Grow G H G' H' → H' a = some (.lst vs) → RpA G' vs ds → Q (.ref a) H') → te σ H Q
def EvB (tt : TT) (b : Bool) : Prop := ∀ (G0 H0 : Hp) (σ : L2.St) (G H : Hp) (Q : Bool → Hp → Prop), Stt C G0 H0 γ σ G H → (∀ G' H', Grow G H G' H' → Q b H') → tt σ H Q
/-- a display's items -/
def EvP (ta : TA) (ds : List PyData) : Prop := ∀ (G0 H0 : Hp) (σ : L2.St) (G H : Hp) (Q : List V → Hp → Prop), Stt C G0 H0 γ σ G H → (∀ vs G' H', Grow G H G' H' → RpA G' vs ds → Q vs H') → ta σ H Q
def ArgOk (G : Hp) (v : V) : Sl → Prop
  | .py d => Rp G v d
  | .brd cs => Brd C G v cs
  | .pr p _ => p G v
  | _ => False
theorem ArgOk.mono {C : Addr} {G G' : Hp} (e : Same G G') {v : V} : ∀ {s : Sl}, ArgOk C G v s → ArgOk C G' v s
  | .py _, h => Rp.mono e h
  | .brd _, h => Brd.mono e h
  | .pr _ m, h => m _ _ _ e h
def ArgsOk (G : Hp) : List V → List Sl → Prop := Paired (ArgOk C G)
/-- a call's arguments -/
def EvA (ta : TA) (ss : List Sl) : Prop := ∀ (G0 H0 : Hp) (σ : L2.St) (G H : Hp) (Q : List V → Hp → Prop), Stt C G0 H0 γ σ G H → (∀ vs G' H', Grow G H G' H' → ArgsOk C G' vs ss → Q vs H') → ta σ H Q
def EvO (to : TO) (o : Option Int) : Prop := ∀ (G0 H0 : Hp) (σ : L2.St) (G H : Hp) (Q : Option Int → Hp → Prop), Stt C G0 H0 γ σ G H → (∀ G' H', Grow G H G' H' → Q o H') → to σ H Q
end
section
variable {C : Addr} {γ : Env} {K : PySem.W.Frag} {ta tb tc te : TE} {d e : PyData} {ds es : List PyData} {s : Sl}
theorem EvS.to {s' : Sl} (h : EvS C γ te s) (q : s = s') : EvS C γ te s' := q ▸ h
theorem EvL.to {es : List PyData} (h : EvL C γ te ds) (q : ds = es) : EvL C γ te es := q ▸ h
theorem EvB.to {tt : TT} {b b' : Bool} (h : EvB C γ tt b) (q : b = b') : EvB C γ tt b' := q ▸ h

/-! ### names, constants -/
theorem e_v (i : Nat) (h : γ[i]? = some (.py d)) : EvS C γ (tVar i) (.py d) := fun G0 H0 σ G H Q x q => by
  obtain ⟨v, h1, h2⟩ := x.get h (by simp)
  exact ⟨v, h1, q v G H (Grow.refl x.same) h2⟩
theorem e_b (i : Nat) {cs : List Cell} (h : γ[i]? = some (.brd cs)) : EvS C γ (tVar i) (.brd cs) := fun G0 H0 σ G H Q x q => by
  obtain ⟨v, h1, h2⟩ := x.get h (by simp)
  exact ⟨v, h1, q v G H (Grow.refl x.same) h2⟩
theorem e_pr (i : Nat) {p : Hp → V → Prop} {m : ∀ G G' v, Same G G' → p G v → p G' v} (h : γ[i]? = some (.pr p m)) : EvS C γ (tVar i) (.pr p m) := fun G0 H0 σ G H Q x q => by
  obtain ⟨v, h1, h2⟩ := x.get h (by simp)
  exact ⟨v, h1, q v G H (Grow.refl x.same) h2⟩
theorem e_prD (i : Nat) {p : Hp → V → Prop} {m : ∀ G G' v, Same G G' → p G v → p G' v} (h : γ[i]? = some (.pr p m)) (q : ∀ G v, p G v → Rp G v d) : EvS C γ (tVar i) (.py d) := fun G0 H0 σ G H Q x k => by
  obtain ⟨v, h1, h2⟩ := x.get h (by simp)
  exact ⟨v, h1, k v G H (Grow.refl x.same) (q G v h2)⟩
theorem l_own (i : Nat) (h : γ[i]? = some (.own (.lst ds))) : EvL C γ (tVar i) ds := fun G0 H0 σ G H Q x q => by
  obtain ⟨v, h1, a, o, rfl, h3, _, _, vs, rfl, h6⟩ := x.get h (by simp)
  exact ⟨_, h1, q a vs G H (Grow.refl x.same) h3 h6⟩
theorem l_py (h : EvS C γ te (.py (.list ds))) : EvL C γ te ds := fun G0 H0 σ G H Q x q =>
  h G0 H0 σ G H _ x fun v G' H' g r => by
    have r' : Rp G' v (.list ds) := r
    cases r' with
    | lst ha hr => exact q _ _ G' H' g (g.gh _ _ ha) hr
theorem l_new (h : EvS C γ te (.own (.lst ds))) : EvL C γ te ds := fun G0 H0 σ G H Q x q =>
  h G0 H0 σ G H _ x fun v G' H' g r => by
    obtain ⟨a, o, rfl, h3, _, _, vs, rfl, h6⟩ := r
    exact q a vs G' H' g h3 h6
theorem l_v (i : Nat) (h : γ[i]? = some (.py (.list ds))) : EvL C γ (tVar i) ds := l_py (e_v i h)
/-- a new list freezes -/
theorem e_frz (h : EvS C γ te (.own (.lst ds))) : EvS C γ te (.py (.list ds)) := fun G0 H0 σ G H Q x q =>
  h G0 H0 σ G H _ x fun v G' H' g r => by
    obtain ⟨a, o, rfl, h3, h4, h5, vs, rfl, h6⟩ := r
    refine q (.ref a) _ H' (g.frz h5 h4 h3) ?_
    exact Rp.lst upd_same (RpA.mono (same_new h4) h6)
theorem e_int {n : Int} : EvS C γ (tC (.int n)) (.py (.int n)) := fun _ _ _ G H _ x q => q _ G H (Grow.refl x.same) (Rp.int n)
theorem e_bl {b : Bool} : EvS C γ (tC (.bl b)) (.py (.bool b)) := fun _ _ _ G H _ x q => q _ G H (Grow.refl x.same) (Rp.bl b)
theorem e_non : EvS C γ (tC .non) (.py .none) := fun _ _ _ G H _ x q => q _ G H (Grow.refl x.same) Rp.non
theorem e_str {z : Str} : EvS C γ (tC (.str z)) (.py (.str z)) := fun _ _ _ G H _ x q => q _ G H (Grow.refl x.same) (Rp.str z)

/-! ### two operands -/
theorem e_op {r : R2} {z : Sl} (ha : EvS C γ ta (.py d)) (hb : EvS C γ tb (.py e))
    (hr : ∀ (x y : V) (G H : Hp) (Q : VK), Same G H → Rp G x d → Rp G y e → (∀ v G' H', Grow G H G' H' → SlOk C H G' H' v z → Q v H') → r x y H Q) : EvS C γ (tOp r ta tb) z := fun G0 H0 σ G H Q x q =>
  ha G0 H0 σ G H _ x fun v G1 H1 g1 r1 => hb G0 H0 σ G1 H1 _ (x.grow g1) fun u G2 H2 g2 r2 =>
    hr v u G2 H2 Q g2.gh (Rp.mono g2.gg r1) r2 fun w G3 H3 g3 r3 => q w G3 H3 ((g1.trans g2).trans g3) (r3.back ((g1.trans g2).hh))
theorem rp_int {G : Hp} {v : V} {i : Int} (h : Rp G v (.int i)) : v = .int i := by cases h; rfl
theorem rp_bl {G : Hp} {v : V} {b : Bool} (h : Rp G v (.bool b)) : v = .bl b := by cases h; rfl
section
variable {i j : Int}
theorem e_I0 {g : Int → Int → Int} (ha : EvS C γ ta (.py (.int i))) (hb : EvS C γ tb (.py (.int j))) : EvS C γ (tOp (rI0 fun i j => .int (g i j)) ta tb) (.py (.int (g i j))) :=
  e_op ha hb fun x y G H Q e r1 r2 q => ⟨i, j, rp_int r1, rp_int r2, q _ G H (Grow.refl e) (Rp.int _)⟩
theorem e_IC {c : Int → Int → Prop} {g : Int → Int → Int} (ha : EvS C γ ta (.py (.int i))) (hb : EvS C γ tb (.py (.int j))) (hc : c i j) : EvS C γ (tOp (rI c fun i j => .int (g i j)) ta tb) (.py (.int (g i j))) :=
  e_op ha hb fun x y G H Q e r1 r2 q => ⟨i, j, rp_int r1, rp_int r2, hc, q _ G H (Grow.refl e) (Rp.int _)⟩
theorem e_B0 {g : Int → Int → Bool} (ha : EvS C γ ta (.py (.int i))) (hb : EvS C γ tb (.py (.int j))) : EvS C γ (tOp (rI0 fun i j => .bl (g i j)) ta tb) (.py (.bool (g i j))) :=
  e_op ha hb fun x y G H Q e r1 r2 q => ⟨i, j, rp_int r1, rp_int r2, q _ G H (Grow.refl e) (Rp.bl _)⟩
theorem e_add (ha : EvS C γ ta (.py (.int i))) (hb : EvS C γ tb (.py (.int j))) : EvS C γ (tOp (rI0 fun i j => .int (i + j)) ta tb) (.py (.int (i + j))) := e_I0 ha hb
theorem e_sub (ha : EvS C γ ta (.py (.int i))) (hb : EvS C γ tb (.py (.int j))) : EvS C γ (tOp (rI0 fun i j => .int (i - j)) ta tb) (.py (.int (i - j))) := e_I0 ha hb
theorem e_mul (ha : EvS C γ ta (.py (.int i))) (hb : EvS C γ tb (.py (.int j))) (hc : CMul i j) : EvS C γ (tOp (rI CMul fun i j => .int (i * j)) ta tb) (.py (.int (i * j))) := e_IC ha hb hc
theorem e_div (ha : EvS C γ ta (.py (.int i))) (hb : EvS C γ tb (.py (.int j))) (hc : 0 < j ∧ j < 1073741824) : EvS C γ (tOp (rI CDiv fun i j => .int (i / j)) ta tb) (.py (.int (i / j))) := e_IC ha hb hc
theorem e_mod (ha : EvS C γ ta (.py (.int i))) (hb : EvS C γ tb (.py (.int j))) (hc : 0 < j) : EvS C γ (tOp (rI (fun _ j => 0 < j) fun i j => .int (i % j)) ta tb) (.py (.int (i % j))) := e_IC ha hb hc
theorem e_lt (ha : EvS C γ ta (.py (.int i))) (hb : EvS C γ tb (.py (.int j))) : EvS C γ (tOp (rI0 fun i j => .bl (decide (i < j))) ta tb) (.py (.bool (decide (i < j)))) := e_B0 ha hb
theorem e_le (ha : EvS C γ ta (.py (.int i))) (hb : EvS C γ tb (.py (.int j))) : EvS C γ (tOp (rI0 fun i j => .bl (decide (i ≤ j))) ta tb) (.py (.bool (decide (i ≤ j)))) := e_B0 ha hb
theorem e_gt (ha : EvS C γ ta (.py (.int i))) (hb : EvS C γ tb (.py (.int j))) : EvS C γ (tOp (rI0 fun i j => .bl (decide (j < i))) ta tb) (.py (.bool (decide (j < i)))) := e_B0 ha hb
theorem e_ge (ha : EvS C γ ta (.py (.int i))) (hb : EvS C γ tb (.py (.int j))) : EvS C γ (tOp (rI0 fun i j => .bl (decide (j ≤ i))) ta tb) (.py (.bool (decide (j ≤ i)))) := e_B0 ha hb
theorem e_eqI (ha : EvS C γ ta (.py (.int i))) (hb : EvS C γ tb (.py (.int j))) : EvS C γ (tOp rEq ta tb) (.py (.bool (decide (i = j)))) :=
  e_op ha hb fun x y G H Q e r1 r2 q => by
    cases rp_int r1
    cases rp_int r2
    refine ⟨rfl, q _ G H (Grow.refl e) ?_⟩
    have z : decide (V.int i = V.int j) = decide (i = j) := by
      rw [L2.dec_int, Bool.beq_eq_decide_eq]
    rw [z]
    exact Rp.bl _
theorem e_neI (ha : EvS C γ ta (.py (.int i))) (hb : EvS C γ tb (.py (.int j))) : EvS C γ (tOp rNe ta tb) (.py (.bool (!decide (i = j)))) :=
  e_op ha hb fun x y G H Q e r1 r2 q => by
    cases rp_int r1
    cases rp_int r2
    refine ⟨rfl, q _ G H (Grow.refl e) ?_⟩
    have z : decide (V.int i = V.int j) = decide (i = j) := by
      rw [L2.dec_int, Bool.beq_eq_decide_eq]
    rw [z]
    exact Rp.bl _
theorem e_neg (ha : EvS C γ ta (.py (.int i))) : EvS C γ (tUn (rU fun i => .int (-i)) ta) (.py (.int (-i))) := fun G0 H0 σ G H Q x q =>
  ha G0 H0 σ G H _ x fun v G1 H1 g1 r1 => ⟨i, rp_int r1, q _ G1 H1 g1 (Rp.int _)⟩
/-- a < b < c -/
theorem e_chain {k : Int} {p p' : Int → Int → Bool} (ha : EvS C γ ta (.py (.int i))) (hb : EvS C γ tb (.py (.int j))) (hc : EvS C γ tc (.py (.int k))) :
    EvS C γ (tChain (rI0 fun i j => .bl (p i j)) (rI0 fun i j => .bl (p' i j)) ta tb tc) (.py (.bool (p i j && p' j k))) := fun G0 H0 σ G H Q x q =>
  ha G0 H0 σ G H _ x fun v G1 H1 g1 r1 => hb G0 H0 σ G1 H1 _ (x.grow g1) fun u G2 H2 g2 r2 => by
    refine ⟨i, j, rp_int r1, rp_int r2, p i j, rfl, ?_⟩
    cases e : p i j with
    | true =>
      rw [if_pos rfl]
      refine hc G0 H0 σ G2 H2 _ (x.grow (g1.trans g2)) fun w G3 H3 g3 r3 => ⟨j, k, rp_int r2, rp_int r3, q _ G3 H3 ((g1.trans g2).trans g3) ?_⟩
      rw [e]
      exact Rp.bl _
    | false =>
      rw [if_neg Bool.false_ne_true]
      refine q _ G2 H2 (g1.trans g2) ?_
      rw [e]
      exact Rp.bl _
end

/-! ### tests -/
variable {t u : TT} {a b : Bool}
theorem t_test (h : EvS C γ te (.py (.bool b))) : EvB C γ (tTest te) b := fun G0 H0 σ G H Q x q => h G0 H0 σ G H _ x fun v G' H' g r => ⟨b, rp_bl r, q G' H' g⟩
theorem t_B (h : EvS C γ te (.py (.bool b))) : EvB C γ (tB te) b := fun G0 H0 σ G H Q x q => h G0 H0 σ G H _ x fun v G' H' g r => ⟨b, rp_bl r, q G' H' g⟩
theorem t_and (h1 : EvB C γ t a) (h2 : a = true → EvB C γ u b) : EvB C γ (tAnd t u) (a && b) := fun G0 H0 σ G H Q x q => h1 G0 H0 σ G H _ x fun G1 H1 g1 => by
  cases a with
  | true => exact h2 rfl G0 H0 σ G1 H1 _ (x.grow g1) fun G2 H2 g2 => q G2 H2 (g1.trans g2)
  | false => exact q G1 H1 g1
theorem t_or (h1 : EvB C γ t a) (h2 : a = false → EvB C γ u b) : EvB C γ (tOr t u) (a || b) := fun G0 H0 σ G H Q x q => h1 G0 H0 σ G H _ x fun G1 H1 g1 => by
  cases a with
  | true => exact q G1 H1 g1
  | false => exact h2 rfl G0 H0 σ G1 H1 _ (x.grow g1) fun G2 H2 g2 => q G2 H2 (g1.trans g2)
theorem t_not (h : EvB C γ t a) : EvB C γ (tNot t) (!a) := fun G0 H0 σ G H Q x q => h G0 H0 σ G H _ x fun G1 H1 g1 => q G1 H1 g1
theorem t_yes : EvB C γ tYes true := fun _ _ _ G H _ x q => q G H (Grow.refl x.same)
theorem e_and (h1 : EvS C γ ta (.py (.bool a))) (h2 : a = true → EvS C γ tb (.py (.bool b))) : EvS C γ (tAndV ta tb) (.py (.bool (a && b))) := fun G0 H0 σ G H Q x q => h1 G0 H0 σ G H _ x fun v G1 H1 g1 r1 => ⟨a, rp_bl r1, by
  cases a with
  | true => exact h2 rfl G0 H0 σ G1 H1 _ (x.grow g1) fun w G2 H2 g2 r2 => q w G2 H2 (g1.trans g2) r2
  | false => exact q _ G1 H1 g1 (Rp.bl _)⟩
theorem e_or (h1 : EvS C γ ta (.py (.bool a))) (h2 : a = false → EvS C γ tb (.py (.bool b))) : EvS C γ (tOrV ta tb) (.py (.bool (a || b))) := fun G0 H0 σ G H Q x q => h1 G0 H0 σ G H _ x fun v G1 H1 g1 r1 => ⟨a, rp_bl r1, by
  cases a with
  | false => exact h2 rfl G0 H0 σ G1 H1 _ (x.grow g1) fun w G2 H2 g2 r2 => q w G2 H2 (g1.trans g2) r2
  | true => exact q _ G1 H1 g1 (Rp.bl _)⟩
theorem e_not (h1 : EvS C γ ta (.py (.bool a))) : EvS C γ (tNotV ta) (.py (.bool (!a))) := fun G0 H0 σ G H Q x q => h1 G0 H0 σ G H _ x fun v G1 H1 g1 r1 => ⟨a, rp_bl r1, q _ G1 H1 g1 (Rp.bl _)⟩
theorem e_if (h : EvB C γ t a) (h1 : a = true → EvS C γ ta s) (h2 : a = false → EvS C γ tb s) : EvS C γ (tIf t ta tb) s := fun G0 H0 σ G H Q x q => h G0 H0 σ G H _ x fun G1 H1 g1 => by
  cases a with
  | true => exact h1 rfl G0 H0 σ G1 H1 _ (x.grow g1) fun w G2 H2 g2 r2 => q w G2 H2 (g1.trans g2) (r2.back g1.hh)
  | false => exact h2 rfl G0 H0 σ G1 H1 _ (x.grow g1) fun w G2 H2 g2 r2 => q w G2 H2 (g1.trans g2) (r2.back g1.hh)

/-! ### displays -/
theorem p_nil : EvP C γ tNil [] := fun _ _ _ G H _ x q => q [] G H (Grow.refl x.same) .nil
theorem p_cons {tr : TA} (h : EvS C γ te (.py d)) (hr : EvP C γ tr ds) : EvP C γ (tCons te tr) (d :: ds) := fun G0 H0 σ G H Q x q =>
  h G0 H0 σ G H _ x fun v G1 H1 g1 r1 => hr G0 H0 σ G1 H1 _ (x.grow g1) fun vs G2 H2 g2 r2 => q _ G2 H2 (g1.trans g2) (.cons (Rp.mono g2.gg r1) r2)
theorem small {n : Nat} (h : n ≤ 1000000) : n ≤ sizeLine := Nat.le_trans h (by rw [sizeLine_eq]; decide)
theorem small' {n : Nat} (h : n < 1000000) : n < sizeLine := Nat.lt_of_lt_of_le h (by rw [sizeLine_eq]; decide)
theorem e_tup {tr : TA} (h : EvP C γ tr ds) (hz : ds.length ≤ 1000000 := by simp) : EvS C γ (tTup tr) (.py (.tuple ds)) := fun G0 H0 σ G H Q x q =>
  h G0 H0 σ G H _ x fun vs G1 H1 g1 r1 => ⟨by rw [r1.len]; exact small hz, fun p hp => q (.ref p) _ _ (g1.trans (Grow.lay g1.gh hp)) (Rp.tup upd_same (RpA.mono (same_new (g1.gh.free hp)) r1))⟩
theorem e_lst {tr : TA} (h : EvP C γ tr ds) (hz : ds.length ≤ 1000000 := by simp) : EvS C γ (tLst tr) (.own (.lst ds)) := fun G0 H0 σ G H Q x q =>
  h G0 H0 σ G H _ x fun vs G1 H1 g1 r1 => ⟨by rw [r1.len]; exact small hz, fun p hp => q (.ref p) _ _ (g1.trans (Grow.own g1.gh hp)) ⟨p, _, rfl, upd_same, g1.gh.free hp, g1.hh.free hp, vs, rfl, r1⟩⟩

/-! ### subscripts -/
theorem e_ixT {i : Int} (n : Nat) (ha : EvS C γ ta (.py (.tuple ds))) (hb : EvS C γ tb (.py (.int i))) (hi : i = n) (h : ds[n]? = some d) : EvS C γ (tOp (rIxT K) ta tb) (.py d) :=
  e_op ha hb fun x y G H Q e r1 r2 q => by
    cases r1 with
    | tup hq hr =>
      cases rp_int r2
      obtain ⟨v, hv, rv⟩ := hr.at h
      exact ⟨_, _, i, v, rfl, rfl, SqT.of (e _ _ hq), by rw [hi]; exact atI_nat hv, q _ G H (Grow.refl e) rv⟩
theorem e_ix0 (ha : EvS C γ ta (.py (.tuple (d :: ds)))) : EvS C γ (tOp (rIxT K) ta (tC (.int 0))) (.py d) := e_ixT 0 ha e_int rfl rfl
theorem e_ix1 (ha : EvS C γ ta (.py (.tuple (d :: e :: ds)))) : EvS C γ (tOp (rIxT K) ta (tC (.int 1))) (.py e) := e_ixT 1 ha e_int rfl rfl
theorem atI_of {α β : Type} {xs : List α} {ys : List β} {i : Int} {y : β} (hl : xs.length = ys.length) (h : atI ys i = some y) : ∃ (j : Nat) (x : α), ys[j]? = some y ∧ xs[j]? = some x ∧ atI xs i = some x := by
  unfold atI at h
  cases e : ixN ys.length i with
  | none =>
    rw [e] at h
    cases h
  | some j =>
    rw [e] at h
    have h' : ys[j]? = some y := h
    have hj : j < xs.length := by
      rw [hl]
      exact (List.getElem?_eq_some_iff.mp h').1
    refine ⟨j, xs[j], h', List.getElem?_eq_getElem hj, ?_⟩
    unfold atI
    rw [hl, e]
    show xs[j]? = _
    exact List.getElem?_eq_getElem hj
theorem e_ixL {i : Int} (ha : EvL C γ ta ds) (hb : EvS C γ tb (.py (.int i))) (h : atI ds i = some d) : EvS C γ (tOp (rIxL K) ta tb) (.py d) := fun G0 H0 σ G H Q x q =>
  ha G0 H0 σ G H _ x fun p vs G1 H1 g1 h1 r1 => hb G0 H0 σ G1 H1 _ (x.grow g1) fun u G2 H2 g2 r2 => by
    cases rp_int r2
    obtain ⟨j, v, e1, e2, e3⟩ := atI_of r1.len h
    obtain ⟨d', e4, e5⟩ := r1.get e2
    rw [e1] at e4
    cases e4
    exact ⟨p, vs, i, v, rfl, rfl, SqL.of (g2.hh _ _ h1), e3, q _ G2 H2 (g1.trans g2) (Rp.mono g2.gg e5)⟩

/-! ### calls of built-ins -/
def rLn (K : PySem.W.Frag) : List V → Hp → VK → Prop := fun xs H Q => ∃ p ys, xs = [.ref p] ∧ (SqL K H p ys ∨ SqT K H p ys) ∧ Q (.int ys.length) H
def rLs (K : PySem.W.Frag) : List V → Hp → VK → Prop := fun xs H Q => ∃ p ys, xs = [.ref p] ∧ (SqL K H p ys ∨ SqT K H p ys) ∧ ∀ l, H l = none → Q (.ref l) (upd H l (.lst ys))
def rTp (K : PySem.W.Frag) : List V → Hp → VK → Prop := fun xs H Q => ∃ p ys, xs = [.ref p] ∧ ((SqL K H p ys ∧ ∀ l, H l = none → Q (.ref l) (upd H l (.tup ys))) ∨ (SqT K H p ys ∧ Q (.ref p) H))
def rAb : List V → Hp → VK → Prop := fun xs H Q => ∃ i, xs = [.int i] ∧ Q (.int (if i < 0 then -i else i)) H
def rInt1 : List V → Hp → VK → Prop := fun xs H Q => (∃ i, xs = [.int i] ∧ Q (.int i) H) ∨ ∃ k, xs = [.bl k] ∧ Q (.int (if k then 1 else 0)) H
theorem c_len {X : Cx} : CallR X (.builtin "len") (rLn X.K) := call_len_seq
theorem c_list {X : Cx} : CallR X (.type "list") (rLs X.K) := call_list_of
theorem c_tuple {X : Cx} : CallR X (.type "tuple") (rTp X.K) := call_tuple_of
theorem c_abs {X : Cx} : CallR X (.builtin "abs") rAb := call_abs
theorem c_int {X : Cx} : CallR X (.type "int") rInt1 := call_int1
theorem e_len (h : EvL C γ ta ds) : EvS C γ (tCB (rLn K) (tCons ta tNil)) (.py (.int (ds.length : Int))) := fun G0 H0 σ G H Q x q =>
  h G0 H0 σ G H _ x fun a vs G1 H1 g1 h1 r1 => ⟨a, vs, rfl, .inl (SqL.of h1), q _ G1 H1 g1 (by rw [r1.len]; exact Rp.int _)⟩
theorem e_lenT (h : EvS C γ ta (.py (.tuple ds))) : EvS C γ (tCB (rLn K) (tCons ta tNil)) (.py (.int (ds.length : Int))) := fun G0 H0 σ G H Q x q =>
  h G0 H0 σ G H _ x fun v G1 H1 g1 r1 => by
    have r1' : Rp G1 v (.tuple ds) := r1
    cases r1' with
    | tup hq hr => exact ⟨_, _, rfl, .inr (SqT.of (g1.gh _ _ hq)), q _ G1 H1 g1 (by rw [hr.len]; exact Rp.int _)⟩
theorem e_list (h : EvL C γ ta ds) : EvS C γ (tCB (rLs K) (tCons ta tNil)) (.own (.lst ds)) := fun G0 H0 σ G H Q x q =>
  h G0 H0 σ G H _ x fun a vs G1 H1 g1 h1 r1 => ⟨a, vs, rfl, .inl (SqL.of h1), fun l hl => q (.ref l) _ _ (g1.trans (Grow.own g1.gh hl)) ⟨l, _, rfl, upd_same, g1.gh.free hl, g1.hh.free hl, vs, rfl, r1⟩⟩
theorem e_listT (h : EvS C γ ta (.py (.tuple ds))) : EvS C γ (tCB (rLs K) (tCons ta tNil)) (.own (.lst ds)) := fun G0 H0 σ G H Q x q =>
  h G0 H0 σ G H _ x fun v G1 H1 g1 r1 => by
    have r1' : Rp G1 v (.tuple ds) := r1
    cases r1' with
    | tup hq hr => exact ⟨_, _, rfl, .inr (SqT.of (g1.gh _ _ hq)), fun l hl => q (.ref l) _ _ (g1.trans (Grow.own g1.gh hl)) ⟨l, _, rfl, upd_same, g1.gh.free hl, g1.hh.free hl, _, rfl, hr⟩⟩
theorem e_tuple (h : EvL C γ ta ds) : EvS C γ (tCB (rTp K) (tCons ta tNil)) (.py (.tuple ds)) := fun G0 H0 σ G H Q x q =>
  h G0 H0 σ G H _ x fun a vs G1 H1 g1 h1 r1 => ⟨a, vs, rfl, .inl ⟨SqL.of h1, fun l hl => q (.ref l) _ _ (g1.trans (Grow.lay g1.gh hl)) (Rp.tup upd_same (RpA.mono (same_new (g1.gh.free hl)) r1))⟩⟩
theorem e_abs {i : Int} (h : EvS C γ ta (.py (.int i))) : EvS C γ (tCB rAb (tCons ta tNil)) (.py (.int (if i < 0 then -i else i))) := fun G0 H0 σ G H Q x q =>
  h G0 H0 σ G H _ x fun v G1 H1 g1 r1 => by
    cases rp_int r1
    exact ⟨i, rfl, q _ G1 H1 g1 (Rp.int _)⟩
theorem e_intB (h : EvS C γ ta (.py (.bool b))) : EvS C γ (tCB rInt1 (tCons ta tNil)) (.py (.int (if b then 1 else 0))) := fun G0 H0 σ G H Q x q =>
  h G0 H0 σ G H _ x fun v G1 H1 g1 r1 => by
    cases rp_bl r1
    exact .inr ⟨b, rfl, q _ G1 H1 g1 (Rp.int _)⟩
theorem e_sum {ns : List Int} (h : EvL C γ ta (ns.map .int)) : EvS C γ (tCB (rSum K) (tCons ta tNil)) (.py (.int ns.sum)) := fun G0 H0 σ G H Q x q =>
  h G0 H0 σ G H _ x fun a vs G1 H1 g1 h1 r1 => ⟨a, ns, rfl, by rw [← r1.ints]; exact SqL.of h1, q _ G1 H1 g1 (Rp.int _)⟩
theorem e_all {ns : List Bool} (h : EvL C γ ta (ns.map .bool)) : EvS C γ (tCB (rAll K) (tCons ta tNil)) (.py (.bool (ns.all id))) := fun G0 H0 σ G H Q x q =>
  h G0 H0 σ G H _ x fun a vs G1 H1 g1 h1 r1 => ⟨a, ns, rfl, by rw [← r1.bools]; exact SqL.of h1, q _ G1 H1 g1 (Rp.bl _)⟩
theorem e_allP {α : Type} {xs : List α} {p : α → Bool} (h : EvL C γ ta (xs.map fun x => .bool (p x))) : EvS C γ (tCB (rAll K) (tCons ta tNil)) (.py (.bool (xs.all p))) :=
  (e_all (h.to (es := (xs.map p).map .bool) (by rw [List.map_map]; rfl))).to (by rw [List.all_map]; rfl)
theorem e_sumP {α : Type} {xs : List α} {p : α → Int} (h : EvL C γ ta (xs.map fun x => .int (p x))) : EvS C γ (tCB (rSum K) (tCons ta tNil)) (.py (.int (xs.map p).sum)) :=
  e_sum (h.to (es := (xs.map p).map .int) (by rw [List.map_map]; rfl))
theorem e_cat (ha : EvL C γ ta ds) (hb : EvL C γ tb es) (hz : ds.length + es.length ≤ 1000000) : EvS C γ (tOp rCat ta tb) (.own (.lst (ds ++ es))) := fun G0 H0 σ G H Q x q =>
  ha G0 H0 σ G H _ x fun a vs G1 H1 g1 h1 r1 => hb G0 H0 σ G1 H1 _ (x.grow g1) fun b ws G2 H2 g2 h2 r2 =>
    ⟨a, b, vs, ws, rfl, rfl, g2.hh _ _ h1, h2, by rw [r1.len, r2.len]; exact small hz, fun p hp =>
      q (.ref p) _ _ ((g1.trans g2).trans (Grow.own g2.gh hp)) ⟨p, _, rfl, upd_same, g2.gh.free hp, ((g1.trans g2).hh).free hp, _, rfl, (RpA.mono g2.gg r1).app r2⟩⟩
theorem o_none : EvO C γ tNoPart none := fun _ _ _ G H _ x q => q G H (Grow.refl x.same)
theorem o_some {i : Int} (h : EvS C γ te (.py (.int i))) : EvO C γ (tPart te) (some i) := fun G0 H0 σ G H Q x q =>
  h G0 H0 σ G H _ x fun v G1 H1 g1 r1 => ⟨i, rp_int r1, q G1 H1 g1⟩
theorem cutV_rp {G : Hp} {vs : List V} {ds : List PyData} (r : RpA G vs ds) (lo hi : Option Int) : RpA G (cutV vs lo hi) ((ds.drop (HT.sIx ds.length 0 lo)).take (HT.sIx ds.length ds.length hi - HT.sIx ds.length 0 lo)) := by
  unfold cutV
  rw [r.len]
  exact (r.dr _).tk _
theorem e_cut {tl th : TO} {lo hi : Option Int} (h : EvL C γ te ds) (h1 : EvO C γ tl lo) (h2 : EvO C γ th hi) :
    EvS C γ (tSl (rSlL K) te tl th) (.own (.lst ((ds.drop (HT.sIx ds.length 0 lo)).take (HT.sIx ds.length ds.length hi - HT.sIx ds.length 0 lo)))) := fun G0 H0 σ G H Q x q =>
  h G0 H0 σ G H _ x fun a vs G1 H1 g1 e1 r1 => h1 G0 H0 σ G1 H1 _ (x.grow g1) fun G2 H2 g2 => h2 G0 H0 σ G2 H2 _ (x.grow (g1.trans g2)) fun G3 H3 g3 =>
    ⟨a, vs, rfl, SqL.of ((g2.trans g3).hh _ _ e1), fun p hp => q (.ref p) _ _ (((g1.trans g2).trans g3).trans (Grow.own g3.gh hp))
      ⟨p, _, rfl, upd_same, g3.gh.free hp, (((g1.trans g2).trans g3).hh).free hp, _, rfl, cutV_rp (RpA.mono (g2.trans g3).gg r1) lo hi⟩⟩

/-! ### data of one kind: how it is told, and when two are one -/
structure EqD {α : Type} [DecidableEq α] (f : α → PyData) : Prop where
  eqv : ∀ a b, PyData.eqv (f a) (f b) = decide (a = b)
  lay : ∀ a, (f a).canLay0 = true
  dep : ∀ a, (f a).depth ≤ 8
section
variable {α : Type} [DecidableEq α] {f : α → PyData}
theorem EqD.shaped (F : EqD f) (a : α) : SeqAt.shaped (f a) = true := by
  unfold SeqAt.shaped
  rw [F.lay a, Bool.true_and]
  exact decide_eq_true (Nat.le_trans (F.dep a) (by decide))
theorem EqD.layAll (F : EqD f) : ∀ xs : List α, PyData.canLayAll0 (xs.map f) = true
  | [] => by simp only [List.map_nil, PyData.canLayAll0]
  | x :: xs => by simp only [List.map_cons, PyData.canLayAll0, F.lay x, F.layAll xs, Bool.and_self]
theorem EqD.depAll (F : EqD f) : ∀ xs : List α, PyData.depthAll (xs.map f) ≤ 8
  | [] => by simp only [List.map_nil, PyData.depthAll]; omega
  | x :: xs => by
    have h1 := F.dep x
    have h2 := F.depAll xs
    simp only [List.map_cons, PyData.depthAll]
    omega
theorem EqD.shapedL (F : EqD f) (xs : List α) : SeqAt.shaped (.list (xs.map f)) = true := by
  unfold SeqAt.shaped
  have h := F.depAll xs
  simp only [PyData.canLay0, PyData.depth, F.layAll xs, Bool.true_and]
  exact decide_eq_true (by omega)
theorem EqD.shapedT (F : EqD f) (xs : List α) : SeqAt.shaped (.tuple (xs.map f)) = true := by
  unfold SeqAt.shaped
  have h := F.depAll xs
  simp only [PyData.canLay0, PyData.depth, F.layAll xs, Bool.true_and]
  exact decide_eq_true (by omega)
def memB (a : α) (xs : List α) : Bool := decide (a ∈ xs)
theorem memB_iff {a : α} {xs : List α} : memB a xs = true ↔ a ∈ xs := decide_eq_true_iff
theorem memB_no {a : α} {xs : List α} : memB a xs = false ↔ a ∉ xs := decide_eq_false_iff_not
theorem EqD.any (F : EqD f) (a : α) : ∀ xs : List α, ((xs.map f).any fun z => PyData.eqv z (f a)) = memB a xs
  | [] => by simp [memB]
  | x :: xs => by
    rw [List.map_cons, List.any_cons, F.any a xs, F.eqv]
    by_cases e : a = x
    · subst e
      simp [memB]
    · have e' : ¬ x = a := fun z => e z.symm
      simp [e, e', memB]
theorem EqD.eqvAll (F : EqD f) : ∀ xs ys : List α, PyData.eqvAll (xs.map f) (ys.map f) = decide (xs = ys)
  | [], [] => by simp [PyData.eqvAll]
  | [], _ :: _ => by simp [PyData.eqvAll]
  | _ :: _, [] => by simp [PyData.eqvAll]
  | x :: xs, y :: ys => by
    rw [List.map_cons, List.map_cons]
    simp only [PyData.eqvAll, F.eqv, F.eqvAll xs ys]
    by_cases e : x = y
    · subst e
      simp
    · simp [e]
/-- lists of such, tuples of such -/
theorem EqD.list (F : EqD f) (h : ∀ a, (f a).depth ≤ 6) : EqD fun xs : List α => PyData.list (xs.map f) where
  eqv := fun a b => by simp only [PyData.eqv, F.eqvAll]
  lay := fun a => by simp only [PyData.canLay0, F.layAll]
  dep := fun a => by
    have : PyData.depthAll (a.map f) ≤ 6 := by
      induction a with
      | nil => simp [PyData.depthAll]
      | cons x xs ih =>
        have := h x
        simp only [List.map_cons, PyData.depthAll]
        omega
    simp only [PyData.depth]
    omega
theorem EqD.tuple (F : EqD f) (h : ∀ a, (f a).depth ≤ 6) : EqD fun xs : List α => PyData.tuple (xs.map f) where
  eqv := fun a b => by simp only [PyData.eqv, F.eqvAll]
  lay := fun a => by simp only [PyData.canLay0, F.layAll]
  dep := fun a => by
    have : PyData.depthAll (a.map f) ≤ 6 := by
      induction a with
      | nil => simp [PyData.depthAll]
      | cons x xs ih =>
        have := h x
        simp only [List.map_cons, PyData.depthAll]
        omega
    simp only [PyData.depth]
    omega
end
theorem q_int : EqD PyData.int where
  eqv := fun a b => by simp only [PyData.eqv]; exact Bool.beq_eq_decide_eq a b
  lay := fun a => by simp only [PyData.canLay0]
  dep := fun a => by simp only [PyData.depth]; omega
theorem dep_c (c : Cell) : (cD c).depth = 1 := by simp only [cD, PyData.depth, PyData.depthAll]; rfl
theorem dep_l (l : Leap) : (lD l).depth = 2 := by simp only [lD, PyData.depth, PyData.depthAll, dep_c]; rfl
theorem q_c : EqD cD where
  eqv := fun a b => by
    obtain ⟨x, y⟩ := a
    obtain ⟨z, w⟩ := b
    simp only [cD, PyData.eqv, PyData.eqvAll, Bool.and_true]
    by_cases h1 : x = z <;> by_cases h2 : y = w <;> simp [h1, h2]
  lay := fun a => by simp only [cD, PyData.canLay0, PyData.canLayAll0]; rfl
  dep := fun a => by rw [dep_c]; omega
theorem q_l : EqD lD where
  eqv := fun a b => by
    obtain ⟨x, y⟩ := a
    obtain ⟨z, w⟩ := b
    simp only [lD, PyData.eqv, PyData.eqvAll, Bool.and_true, q_c.eqv]
    by_cases h1 : x = z <;> by_cases h2 : y = w <;> simp [h1, h2]
  lay := fun a => by simp only [lD, PyData.canLay0, PyData.canLayAll0, q_c.lay]; rfl
  dep := fun a => by rw [dep_l]; omega
theorem q_cs : EqD csD := q_c.list fun a => by rw [dep_c]; omega
theorem q_ts : EqD tsD := q_c.tuple fun a => by rw [dep_c]; omega
theorem q_ls : EqD lsD := q_l.list fun a => by rw [dep_l]; omega
theorem q_is : EqD isD := q_int.list fun a => by simp only [PyData.depth]; omega
theorem dep_cs1 : ∀ cs : List Cell, PyData.depthAll (cs.map cD) ≤ 1
  | [] => by simp [PyData.depthAll]
  | x :: xs => by
    have h1 := dep_c x
    have h2 := dep_cs1 xs
    simp only [List.map_cons, PyData.depthAll]
    omega
theorem dep_cs (cs : List Cell) : (csD cs).depth ≤ 2 := by
  have h := dep_cs1 cs
  simp only [csD, PyData.depth]
  omega
theorem q_ss : EqD ssD := q_cs.list fun a => by have := dep_cs a; omega
section
variable {α : Type} [DecidableEq α] {f : α → PyData} {x y : α} {xs : List α}
theorem e_eq (F : EqD f) (ha : EvS C γ ta (.py (f x))) (hb : EvS C γ tb (.py (f y))) : EvS C γ (tOp (rEqD K) ta tb) (.py (.bool (decide (x = y)))) :=
  e_op ha hb fun v u G H Q e r1 r2 q => ⟨_, _, r1.dp e, r2.dp e, F.shaped x, F.shaped y, q _ G H (Grow.refl e) (by rw [F.eqv]; exact Rp.bl _)⟩
theorem e_ne (F : EqD f) (ha : EvS C γ ta (.py (f x))) (hb : EvS C γ tb (.py (f y))) : EvS C γ (tOp (rNeD K) ta tb) (.py (.bool (!decide (x = y)))) :=
  e_op ha hb fun v u G H Q e r1 r2 q => ⟨_, _, r1.dp e, r2.dp e, F.shaped x, F.shaped y, q _ G H (Grow.refl e) (by rw [F.eqv]; exact Rp.bl _)⟩
theorem e_in (F : EqD f) (ha : EvS C γ ta (.py (f x))) (hb : EvL C γ tb (xs.map f)) : EvS C γ (tOp (rInD K) ta tb) (.py (.bool (memB x xs))) := fun G0 H0 σ G H Q z q =>
  ha G0 H0 σ G H _ z fun v G1 H1 g1 r1 => hb G0 H0 σ G1 H1 _ (z.grow g1) fun a vs G2 H2 g2 h2 r2 =>
    ⟨_, _, (Rp.mono g2.gg r1).dp g2.gh, Dp.lst (SqL.of h2) (r2.dp g2.gh), F.shaped x, F.shapedL xs, q _ G2 H2 (g1.trans g2) (by rw [F.any]; exact Rp.bl _)⟩
theorem e_nin (F : EqD f) (ha : EvS C γ ta (.py (f x))) (hb : EvL C γ tb (xs.map f)) : EvS C γ (tOp (rNotInD K) ta tb) (.py (.bool (!memB x xs))) := fun G0 H0 σ G H Q z q =>
  ha G0 H0 σ G H _ z fun v G1 H1 g1 r1 => hb G0 H0 σ G1 H1 _ (z.grow g1) fun a vs G2 H2 g2 h2 r2 =>
    ⟨_, _, (Rp.mono g2.gg r1).dp g2.gh, Dp.lst (SqL.of h2) (r2.dp g2.gh), F.shaped x, F.shapedL xs, q _ G2 H2 (g1.trans g2) (by rw [F.any]; exact Rp.bl _)⟩
theorem idx_spec {xs : List α} (h : x ∈ xs) : xs[xs.idxOf x]? = some x ∧ ∀ m, m < xs.idxOf x → ∀ z, xs[m]? = some z → z ≠ x := by
  have hl : xs.idxOf x < xs.length := List.idxOf_lt_length_iff.mpr h
  refine ⟨by rw [List.getElem?_eq_getElem hl, List.getElem_idxOf hl], fun m hm z hz e => ?_⟩
  subst e
  have hml : m < xs.length := Nat.lt_trans hm hl
  have q := List.not_of_lt_findIdx (p := (· == z)) (xs := xs) (i := m) (by exact hm)
  rw [List.getElem?_eq_getElem hml] at hz
  have hz' : xs[m] = z := Option.some.inj hz
  rw [hz'] at q
  simp at q
theorem e_index (F : EqD f) (ha : EvL C γ ta (xs.map f)) (hb : EvS C γ tb (.py (f x))) (h : x ∈ xs) : EvS C γ (tBM K "list" (rIndexD K) ta (tCons tb tNil)) (.py (.int (xs.idxOf x : Nat))) := fun G0 H0 σ G H Q z q =>
  ha G0 H0 σ G H _ z fun a vs G1 H1 g1 h1 r1 => ⟨.inl ⟨rfl, vs, SqL.of h1⟩, hb G0 H0 σ G1 H1 _ (z.grow g1) fun u G2 H2 g2 r2 => by
    obtain ⟨i1, i2⟩ := idx_spec h
    refine ⟨a, u, f x, xs.map f, xs.idxOf x, f x, rfl, rfl, Dp.lst (SqL.of (g2.hh _ _ h1)) ((RpA.mono g2.gg r1).dp g2.gh), r2.dp g2.gh, F.shapedL xs, F.shaped x, by rw [List.getElem?_map, i1]; rfl, by rw [F.eqv]; exact decide_eq_true rfl, fun m z' hm hz' => ?_, q _ G2 H2 (g1.trans g2) (Rp.int _)⟩
    rw [List.getElem?_map] at hz'
    cases e : xs[m]? with
    | none =>
      rw [e] at hz'
      cases hz'
    | some y =>
      rw [e] at hz'
      cases hz'
      rw [F.eqv]
      exact decide_eq_false (i2 m hm y e)⟩
end

/-! ### a board's cells -/
theorem e_cells {cs : List Cell} (T : Cls K C) (N : NoAttr K C "cells") (h : EvS C γ te (.brd cs)) : EvS C γ (tFld K te "cells") (.py (csD cs)) := fun G0 H0 σ G H Q x q =>
  h G0 H0 σ G H _ x fun v G1 H1 g1 r1 => by
    obtain ⟨a, dx, p, vs, rfl, h1, h2, h3⟩ := r1
    exact ⟨a, C, dx, _, .ref p, rfl, g1.gh _ _ h1, T, N, by simp [List.lookup], q _ G1 H1 g1 (Rp.lst h2 h3)⟩

/-! ### calls of defs -/
inductive Out where
  | ret (s : Sl)
  | exc (c : Addr)
  | excF (c : Addr) (fs : List (Str × V))
def OutOk (C : Addr) (G H : Hp) (Q : VK) (E : XK) : Out → Prop
  | .ret s => ∀ v G' H', Grow G H G' H' → SlOk C H G' H' v s → Q v H'
  | .exc c => ∀ G' H', Grow G H G' H' → E (.ref c) none H'
  | .excF c fs => ∀ G' H' d, Grow G H G' H' → H' d = none → E (.ref c) (some d) (upd H' d (.xd fs))
/-- a promise over data: the arguments told by x; what comes of them -/
def spO {α : Type} (C : Addr) (args : α → List Sl) (out : α → Out) : Sp := fun vs H Q E => ∃ (x : α) (G : Hp), Same G H ∧ ArgsOk C G vs (args x) ∧ OutOk C G H Q E (out x)
theorem a_nil : EvA C γ tNil [] := fun _ _ _ G H _ x q => q [] G H (Grow.refl x.same) .nil
theorem a_cons {tr : TA} {ss : List Sl} (h : EvS C γ te (.py d)) (hr : EvA C γ tr ss) : EvA C γ (tCons te tr) (.py d :: ss) := fun G0 H0 σ G H Q x q =>
  h G0 H0 σ G H _ x fun v G1 H1 g1 r1 => hr G0 H0 σ G1 H1 _ (x.grow g1) fun vs G2 H2 g2 r2 => q _ G2 H2 (g1.trans g2) (.cons (Rp.mono g2.gg r1) r2)
theorem a_brd {tr : TA} {ss : List Sl} {cs : List Cell} (h : EvS C γ te (.brd cs)) (hr : EvA C γ tr ss) : EvA C γ (tCons te tr) (.brd cs :: ss) := fun G0 H0 σ G H Q x q =>
  h G0 H0 σ G H _ x fun v G1 H1 g1 r1 => hr G0 H0 σ G1 H1 _ (x.grow g1) fun vs G2 H2 g2 r2 => q _ G2 H2 (g1.trans g2) (.cons (Brd.mono g2.gg r1) r2)
theorem a_pr {tr : TA} {ss : List Sl} {p : Hp → V → Prop} {m : ∀ G G' v, Same G G' → p G v → p G' v} (h : EvS C γ te (.pr p m)) (hr : EvA C γ tr ss) : EvA C γ (tCons te tr) (.pr p m :: ss) := fun G0 H0 σ G H Q x q =>
  h G0 H0 σ G H _ x fun v G1 H1 g1 r1 => hr G0 H0 σ G1 H1 _ (x.grow g1) fun vs G2 H2 g2 r2 => q _ G2 H2 (g1.trans g2) (.cons (m _ _ _ g2.gg r1) r2)
section
variable {α : Type} {args : α → List Sl} {out : α → Out} {tr : TA}
theorem e_call (x : α) (h : EvA C γ tr (args x)) (ho : out x = .ret s) {E : XK} : EvS C γ (tCall (spO C args out) [] E tr) s := fun G0 H0 σ G H Q z q =>
  h G0 H0 σ G H _ z fun vs G1 H1 g1 r1 => ⟨x, G1, g1.gh, by rw [List.append_nil]; exact r1, by rw [ho]; exact fun v G' H' g r => q v G' H' (g1.trans g) (r.back g1.hh)⟩
theorem e_callS (x : α) (h : EvA C γ tr (args x)) (ho : out x = .ret s) {E : L2.St → XK} : EvS C γ (tCallS (spO C args out) E tr) s := fun G0 H0 σ G H Q z q =>
  h G0 H0 σ G H _ z fun vs G1 H1 g1 r1 => ⟨x, G1, g1.gh, r1, by rw [ho]; exact fun v G' H' g r => q v G' H' (g1.trans g) (r.back g1.hh)⟩
/-- what is raised -/
def OutX (W : WX) (σ : L2.St) (G H : Hp) : Out → Prop
  | .ret _ => False
  | .exc c => ∀ G' H', Grow G H G' H' → W (.ref c) none σ H'
  | .excF c fs => ∀ G' H' d, Grow G H G' H' → H' d = none → W (.ref c) (some d) σ (upd H' d (.xd fs))
def EvX (C : Addr) (γ : Env) (W : WX) (te : TE) (o : Out) : Prop := ∀ (G0 H0 : Hp) (σ : L2.St) (G H : Hp) (Q : VK), Stt C G0 H0 γ σ G H → OutX W σ G H o → te σ H Q
theorem x_callS {W : WX} (x : α) {o : Out} (h : EvA C γ tr (args x)) (ho : out x = o) : EvX C γ W (tCallS (spO C args out) (WE W) tr) o := fun G0 H0 σ G H Q z q =>
  h G0 H0 σ G H _ z fun vs G1 H1 g1 r1 => ⟨x, G1, g1.gh, r1, by
    rw [ho]
    cases o with
    | ret _ => exact False.elim q
    | exc c => exact fun G' H' g => q G' H' (g1.trans g)
    | excF c fs => exact fun G' H' d g hd => q G' H' d (g1.trans g) hd⟩
end
end
end Pg

namespace Pg
open PySem PySem.Spec PyProof.Rows L2

/-! ## statements -/
structure Post where
  nx : Env → Prop
  rt : Sl → Prop
  bk : Env → Prop := fun _ => False
  ct : Env → Prop := fun _ => False
section
variable (C : Addr) (G0 H0 : Hp)
/-- what D wants follows from P, at every frozen part beyond B -/
structure Sat (B : Hp) (D : Ends) (P : Post) : Prop where
  nx : ∀ γ σ G H, P.nx γ → Same B G → Stt C G0 H0 γ σ G H → D.nx σ H
  rt : ∀ s v G H, P.rt s → Grow G0 H0 G H → SlOk C H0 G H v s → D.rt v H
  bk : ∀ γ σ G H, P.bk γ → Same B G → Stt C G0 H0 γ σ G H → D.bk σ H
  ct : ∀ γ σ G H, P.ct γ → Same B G → Stt C G0 H0 γ σ G H → D.ct σ H
theorem Sat.up {C : Addr} {G0 H0 B B' : Hp} {D : Ends} {P : Post} (q : Sat C G0 H0 B D P) (e : Same B B') : Sat C G0 H0 B' D P :=
  ⟨fun γ σ G H p z => q.nx γ σ G H p (e.trans z), q.rt, fun γ σ G H p z => q.bk γ σ G H p (e.trans z), fun γ σ G H p z => q.ct γ σ G H p (e.trans z)⟩
def Run (γ : Env) (ts : TS) (P : Post) : Prop := ∀ (σ : L2.St) (G H : Hp) (D : Ends), Stt C G0 H0 γ σ G H → Sat C G0 H0 G D P → ts D σ H
end
section
variable {C : Addr} {G0 H0 : Hp} {γ : Env} {ts tu tw : TS} {P : Post} {te ta tb : TE} {d : PyData} {ds : List PyData} {K : PySem.W.Frag} {s : Sl} {tt : TT} {b : Bool}
/-- what a target does with an item -/
def Tgt (C : Addr) (g : TG) (d : PyData) (γ γ' : Env) : Prop := ∀ (G0 H0 : Hp) (σ : L2.St) (G H : Hp) (v : V) (Q : L2.St → Hp → Prop), Stt C G0 H0 γ σ G H → Rp G v d → (∀ σ', Stt C G0 H0 γ' σ' G H → Q σ' H) → g v σ H Q
theorem g_n {i : Nat} : Tgt C (gName i) d γ (γ.set i (.py d)) := fun G0 H0 σ G H v Q x r q => q _ (x.set (Grow.refl x.same) r)
theorem g_2 {i j : Nat} {d1 d2 : PyData} : Tgt C (gTup K 2 (gCons (gName i) (gCons (gName j) gNil))) (.tuple [d1, d2]) γ ((γ.set i (.py d1)).set j (.py d2)) := fun G0 H0 σ G H v Q x r q => by
  cases r with
  | tup hq hr =>
    cases hr with
    | cons r1 hr =>
      cases hr with
      | cons r2 hr =>
        cases hr
        have y := x.set (i := i) (Grow.refl x.same) (show SlOk C H G H _ (.py d1) from r1)
        exact ⟨_, _, rfl, SqT.of (x.same _ _ hq), rfl, _, _, rfl, _, _, rfl, rfl, q _ (y.set (i := j) (Grow.refl x.same) (show SlOk C H G H _ (.py d2) from r2))⟩
theorem nb_t {b : Bool} (h : (!b) = true) : b = false := by
  cases b
  · rfl
  · cases h
theorem nb_f {b : Bool} (h : (!b) = false) : b = true := by
  cases b
  · cases h
  · rfl
theorem r_next (h : P.nx γ) : Run C G0 H0 γ tNext P := fun σ G H D x q => q.nx γ σ G H h (Same.refl G) x
theorem r_brk (h : P.bk γ) : Run C G0 H0 γ tBreak P := fun σ G H D x q => q.bk γ σ G H h (Same.refl G) x
theorem r_cont (h : P.ct γ) : Run C G0 H0 γ tCont P := fun σ G H D x q => q.ct γ σ G H h (Same.refl G) x
theorem r_seq (h : Run C G0 H0 γ ts { P with nx := fun γ' => Run C G0 H0 γ' tu P }) : Run C G0 H0 γ (tSeq ts tu) P := fun σ G H D x q =>
  h σ G H _ x ⟨fun γ' σ' G' H' h' e' x' => h' σ' G' H' D x' (q.up e'), q.rt, q.bk, q.ct⟩
theorem r_asg {i : Nat} (he : EvS C γ te s) (h : P.nx (γ.set i s)) : Run C G0 H0 γ (tAsg te (gName i)) P := fun σ G H D x q =>
  he G0 H0 σ G H _ x fun v G' H' g r => q.nx _ _ G' H' h g.gg (x.set g r)
theorem s_asg {i : Nat} (s : Sl) (he : EvS C γ te s) (h : Run C G0 H0 (γ.set i s) tu P) : Run C G0 H0 γ (tSeq (tAsg te (gName i)) tu) P := r_seq (r_asg he h)
/-- from a state: the first statement, then what follows -/
theorem seq_go {σ : L2.St} {G H : Hp} {D : Ends} (x : Stt C G0 H0 γ σ G H) (r : Run C G0 H0 γ ts P) (q : Sat C G0 H0 G { D with nx := tu D } P) : tSeq ts tu D σ H := r σ G H _ x q
/-- a, b = e -/
theorem s_asg2 {g : TG} {γ2 : Env} (he : EvS C γ te (.py d)) (hg : Tgt C g d γ γ2) (h : Run C G0 H0 γ2 tu P) : Run C G0 H0 γ (tSeq (tAsg te g) tu) P := fun σ G H D x q =>
  he G0 H0 σ G H _ x fun v G' H' g' r => hg G0 H0 σ G' H' v _ (x.grow g') r fun σ' x' => h σ' G' H' D x' (q.up g'.gg)
theorem r_drop (he : EvS C γ te s) (h : P.nx γ) : Run C G0 H0 γ (tDrop te) P := fun σ G H D x q =>
  he G0 H0 σ G H _ x fun v G' H' g r => q.nx _ _ G' H' h g.gg (x.grow g)
theorem s_drop (he : EvS C γ te s) (h : Run C G0 H0 γ tu P) : Run C G0 H0 γ (tSeq (tDrop te) tu) P := r_seq (r_drop he h)
theorem r_ret (he : EvS C γ te s) (h : P.rt s) : Run C G0 H0 γ (tRet te) P := fun σ G H D x q =>
  he G0 H0 σ G H _ x fun v G' H' g r => q.rt s v G' H' h (x.gr.trans g) (r.back x.gr.hh)
/-- a slot's own thing is handed out -/
theorem r_retO (i : Nat) {w : Own} (hi : γ[i]? = some (.own w)) (h : P.rt (.own w)) : Run C G0 H0 γ (tRet (tVar i)) P := fun σ G H D x q => by
  obtain ⟨v, h1, h2⟩ := x.get hi (by simp)
  exact ⟨v, h1, q.rt _ v G H h x.gr h2⟩
theorem r_if (hc : EvB C γ tt b) (h1 : b = true → Run C G0 H0 γ ts P) (h2 : b = false → Run C G0 H0 γ tu P) : Run C G0 H0 γ (tIfS tt ts tu) P := fun σ G H D x q =>
  hc G0 H0 σ G H _ x fun G' H' g => by
    cases b with
    | true => exact h1 rfl σ G' H' D (x.grow g) (q.up g.gg)
    | false => exact h2 rfl σ G' H' D (x.grow g) (q.up g.gg)
/-- if ..: (leaves); what follows -/
theorem s_if (hc : EvB C γ tt b) (h1 : b = true → Run C G0 H0 γ ts { P with nx := fun γ' => Run C G0 H0 γ' tw P }) (h2 : b = false → Run C G0 H0 γ tu { P with nx := fun γ' => Run C G0 H0 γ' tw P }) : Run C G0 H0 γ (tSeq (tIfS tt ts tu) tw) P := r_seq (r_if hc h1 h2)
/-- a statement behind which the slots hold γ1 -/
theorem s_cut (γ1 : Env) (h : Run C G0 H0 γ ts { nx := fun γ' => γ' = γ1, rt := fun _ => False }) (k : Run C G0 H0 γ1 tu P) : Run C G0 H0 γ (tSeq ts tu) P := fun σ G H D x q =>
  h σ G H _ x ⟨fun γ' σ' G' H' p e x' => by
    subst p
    exact k σ' G' H' D x' (q.up e), fun _ _ _ _ p => False.elim p, fun _ _ _ _ p => False.elim p, fun _ _ _ _ p => False.elim p⟩
/-- the same where the slots are only told -/
theorem s_cutI (I : Env → Prop) (h : Run C G0 H0 γ ts { nx := I, rt := fun _ => False }) (k : ∀ γ1, I γ1 → Run C G0 H0 γ1 tu P) : Run C G0 H0 γ (tSeq ts tu) P := fun σ G H D x q =>
  h σ G H _ x ⟨fun γ' σ' G' H' p e x' => k γ' p σ' G' H' D x' (q.up e), fun _ _ _ _ p => False.elim p, fun _ _ _ _ p => False.elim p, fun _ _ _ _ p => False.elim p⟩
/-- a, b = e1, e2 -/
theorem r_par {i j : Nat} {ta : TA} {d1 d2 : PyData} (he : EvP C γ ta [d1, d2]) (h : P.nx ((γ.set i (.py d1)).set j (.py d2))) : Run C G0 H0 γ (tPar i j ta) P := fun σ G H D x q =>
  he G0 H0 σ G H _ x fun vs G' H' g r => by
    cases r with
    | @cons v _ _ _ r1 r =>
      cases r with
      | @cons w _ _ _ r2 r =>
        cases r
        have y := x.set (i := i) g (show SlOk C H G' H' v (.py d1) from r1)
        have z := y.set (i := j) (Grow.refl y.same) (show SlOk C H' G' H' w (.py d2) from r2)
        exact ⟨v, w, rfl, q.nx _ _ _ _ h g.gg z⟩
theorem s_par {i j : Nat} {ta : TA} (d1 d2 : PyData) (he : EvP C γ ta [d1, d2]) (h : Run C G0 H0 ((γ.set i (.py d1)).set j (.py d2)) tu P) : Run C G0 H0 γ (tSeq (tPar i j ta) tu) P := r_seq (r_par he h)
theorem r_asg2 {g : TG} {γ2 : Env} (he : EvS C γ te (.py d)) (hg : Tgt C g d γ γ2) (h : P.nx γ2) : Run C G0 H0 γ (tAsg te g) P := fun σ G H D x q =>
  he G0 H0 σ G H _ x fun v G' H' g' r => hg G0 H0 σ G' H' v _ (x.grow g') r fun σ' x' => q.nx _ _ _ _ h g'.gg x'
/-- less is known -/
theorem r_weak {γ' : Env} (h : ∀ (σ : L2.St) (G H : Hp), Stt C G0 H0 γ σ G H → Stt C G0 H0 γ' σ G H) (r : Run C G0 H0 γ' ts P) : Run C G0 H0 γ ts P := fun σ G H D x q => r σ G H D (h σ G H x) q
theorem r_post {P' : Post} (r : Run C G0 H0 γ ts P') (h1 : ∀ γ, P'.nx γ → P.nx γ) (h2 : ∀ s, P'.rt s → P.rt s) (h3 : ∀ γ, P'.bk γ → P.bk γ) (h4 : ∀ γ, P'.ct γ → P.ct γ) : Run C G0 H0 γ ts P := fun σ G H D x q =>
  r σ G H D x ⟨fun γ σ G H p => q.nx γ σ G H (h1 γ p), fun s v G H p => q.rt s v G H (h2 s p), fun γ σ G H p => q.bk γ σ G H (h3 γ p), fun γ σ G H p => q.ct γ σ G H (h4 γ p)⟩
/-- xs.append(e), xs one's own -/
theorem r_app (i : Nat) (hi : γ[i]? = some (.own (.lst ds))) (he : EvS C γ te (.py d)) (hz : ds.length < 1000000) (h : P.nx (γ.set i (.own (.lst (ds ++ [d]))))) :
    Run C G0 H0 γ (tDrop (tBM K "list" rAppend (tVar i) (tCons te tNil))) P := fun σ G H D x q => by
  obtain ⟨v, h1, a, o, rfl, h3, _, _, vs, rfl, h6⟩ := x.get hi (by simp)
  refine ⟨_, h1, .inl ⟨rfl, _, SqL.of h3⟩, he G0 H0 σ G H _ x fun v G' H' g r => ?_⟩
  have y := x.grow g
  refine ⟨a, vs, v, rfl, rfl, g.hh _ _ h3, by rw [h6.len]; exact small' hz, q.nx _ _ _ _ h g.gg (y.write hi h1 ⟨_, rfl, (RpA.mono g.gg h6).app (.cons r .nil)⟩)⟩
theorem s_app (i : Nat) (hi : γ[i]? = some (.own (.lst ds))) (he : EvS C γ te (.py d)) (hz : ds.length < 1000000) (h : Run C G0 H0 (γ.set i (.own (.lst (ds ++ [d])))) tu P) :
    Run C G0 H0 γ (tSeq (tDrop (tBM K "list" rAppend (tVar i) (tCons te tNil))) tu) P := r_seq (r_app i hi he hz h)
/-- xs[i] = e, xs one's own -/
theorem r_put (i : Nat) {k : Int} {n : Nat} (hi : γ[i]? = some (.own (.lst ds))) (he : EvS C γ te (.py d)) (hk : EvS C γ tb (.py (.int k))) (hn : k = n) (hl : n < ds.length) (h : P.nx (γ.set i (.own (.lst (ds.set n d))))) :
    Run C G0 H0 γ (tAsg te (gSub (tVar i) tb rSetL)) P := fun σ G H D x q =>
  he G0 H0 σ G H _ x fun v G1 H1 g1 r1 => by
    have y := x.grow g1
    obtain ⟨v', h1, a, o, rfl, h3, _, _, vs, rfl, h6⟩ := y.get hi (by simp)
    refine ⟨_, h1, hk G0 H0 σ G1 H1 _ y fun u G2 H2 g2 r2 => ?_⟩
    have z := y.grow g2
    refine ⟨a, vs, k, n, rfl, rp_int r2, g2.hh _ _ h3, ?_, q.nx _ _ _ _ h (g1.trans g2).gg (z.write hi h1 ⟨_, rfl, RpA.set (Rp.mono g2.gg r1) n (RpA.mono g2.gg h6)⟩)⟩
    unfold ixN
    rw [hn, h6.len, if_pos (by omega), if_pos (by omega)]
    rfl
/-- raise C('..') -/
theorem r_raise (h : ∀ (σ : L2.St) (G H : Hp) (D : Ends), Grow G0 H0 G H → ts D σ H) : Run C G0 H0 γ ts P := fun σ G H D x q => h σ G H D x.gr
/-- what an expression raises -/
theorem r_dropX {W : WX} {o : Out} (he : EvX C γ W te o) (h : ∀ (σ : L2.St) (G H : Hp), Grow G0 H0 G H → OutX W σ G H o) : Run C G0 H0 γ (tDrop te) P := fun σ G H D x q => he G0 H0 σ G H _ x (h σ G H x.gr)
theorem r_retX {W : WX} {o : Out} (he : EvX C γ W te o) (h : ∀ (σ : L2.St) (G H : Hp), Grow G0 H0 G H → OutX W σ G H o) : Run C G0 H0 γ (tRet te) P := fun σ G H D x q => he G0 H0 σ G H _ x (h σ G H x.gr)
theorem r_asgX {W : WX} {o : Out} {g : TG} (he : EvX C γ W te o) (h : ∀ (σ : L2.St) (G H : Hp), Grow G0 H0 G H → OutX W σ G H o) : Run C G0 H0 γ (tAsg te g) P := fun σ G H D x q => he G0 H0 σ G H _ x (h σ G H x.gr)

/-! ### loops -/
theorem r_for {g : TG} {tl : TE} (hl : EvS C γ tl (.py (.list ds))) (I : Nat → Env → Prop) (h0 : I 0 γ)
    (hs : ∀ i d γ1, ds[i]? = some d → I i γ1 → ∃ γ2, Tgt C g d γ1 γ2 ∧ Run C G0 H0 γ2 ts { P with nx := I (i + 1), ct := I (i + 1), bk := P.nx })
    (hd : ∀ γ1, I ds.length γ1 → P.nx γ1) : Run C G0 H0 γ (tFor (iList K tl) g ts) P := fun σ G H D x q =>
  hl G0 H0 σ G H _ x fun v G1 H1 g1 r1 => by
    have r1' : Rp G1 v (.list ds) := r1
    cases r1' with
    | @lst a vs _ ha hr =>
      refine ⟨a, rfl, ⟨vs, SqL.of (g1.gh _ _ ha)⟩, for_list (K := K) (a := a) (xs := vs) (fun i σ' H' => ∃ γ1 G', I i γ1 ∧ Stt C G0 H0 γ1 σ' G' H' ∧ Same G1 G') ⟨γ, G1, h0, x.grow g1, Same.refl _⟩ (fun i σ' H' _ ⟨_, G', _, x', e'⟩ => SqL.of (x'.same _ _ (e' _ _ ha))) ?_ ?_⟩
      · rintro i y σ' H' hi ⟨γ1, G', i1, x', e'⟩
        obtain ⟨d, hd1, rd⟩ := hr.get hi
        obtain ⟨γ2, tg, rn⟩ := hs i d γ1 hd1 i1
        refine tg G0 H0 σ' G' H' y _ x' (Rp.mono e' rd) fun σ2 x2 => ?_
        exact rn σ2 G' H' _ x2 ⟨fun γ3 σ3 G3 H3 p e3 x3 => ⟨γ3, G3, p, x3, e'.trans e3⟩, q.rt, fun γ3 σ3 G3 H3 p e3 x3 => q.nx γ3 σ3 G3 H3 p ((g1.gg.trans e').trans e3) x3, fun γ3 σ3 G3 H3 p e3 x3 => ⟨γ3, G3, p, x3, e'.trans e3⟩⟩
      · rintro σ' H' ⟨γ1, G', i1, x', e'⟩
        rw [hr.len] at i1
        exact q.nx γ1 σ' G' H' (hd γ1 i1) (g1.gg.trans e') x'

/-- for over lo, lo + 1, .. -/
theorem r_forR {g : TG} {wi : TI} {lo : Int} {n : Nat} (hw : ∀ (G H : Hp) (σ : L2.St) (R : It → Hp → Prop), Stt C G0 H0 γ σ G H → (∀ G' H', Grow G H G' H' → R (Itr lo n) H') → wi σ H R) (I : Nat → Env → Prop) (h0 : I 0 γ)
    (hs : ∀ i γ1, i < n → I i γ1 → ∃ γ2, Tgt C g (.int (lo + i)) γ1 γ2 ∧ Run C G0 H0 γ2 ts { P with nx := I (i + 1), ct := I (i + 1), bk := P.nx })
    (hd : ∀ γ1, I n γ1 → P.nx γ1) : Run C G0 H0 γ (tFor wi g ts) P := fun σ G H D x q =>
  hw G H σ _ x fun G1 H1 g1 => for_range (lo := lo) (n := n) (fun i σ' H' => ∃ γ1 G', I i γ1 ∧ Stt C G0 H0 γ1 σ' G' H' ∧ Same G G') ⟨γ, G1, h0, x.grow g1, g1.gg⟩
    (fun i σ' H' hi ⟨γ1, G', i1, x', e'⟩ => by
      obtain ⟨γ2, tg, rn⟩ := hs i γ1 hi i1
      refine tg G0 H0 σ' G' H' _ _ x' (Rp.int _) fun σ2 x2 => ?_
      exact rn σ2 G' H' _ x2 ⟨fun γ3 σ3 G3 H3 p e3 x3 => ⟨γ3, G3, p, x3, e'.trans e3⟩, q.rt, fun γ3 σ3 G3 H3 p e3 x3 => q.nx γ3 σ3 G3 H3 p (e'.trans e3) x3, fun γ3 σ3 G3 H3 p e3 x3 => ⟨γ3, G3, p, x3, e'.trans e3⟩⟩)
    (fun σ' H' ⟨γ1, G', i1, x', e'⟩ => q.nx γ1 σ' G' H' (hd γ1 i1) e' x')
/-- range(n), range(m, n) -/
theorem w_r1 {ta : TA} {n : Int} (h : EvP C γ ta [.int n]) (h1 : -1000000 ≤ n ∧ n ≤ 1000000) (G H : Hp) (σ : L2.St) (R : It → Hp → Prop) (x : Stt C G0 H0 γ σ G H) (q : ∀ G' H', Grow G H G' H' → R (Itr 0 n.toNat) H') : iRng1 ta σ H R :=
  h G0 H0 σ G H _ x fun vs G' H' g r => by
    cases r with
    | cons a b =>
      cases a
      cases b
      exact ⟨n, rfl, by omega, by omega, q G' H' g⟩
theorem w_r2 {ta : TA} {m n : Int} (h : EvP C γ ta [.int m, .int n]) (h1 : -1000000 ≤ m ∧ m ≤ 1000000 ∧ -1000000 ≤ n ∧ n ≤ 1000000) (G H : Hp) (σ : L2.St) (R : It → Hp → Prop) (x : Stt C G0 H0 γ σ G H) (q : ∀ G' H', Grow G H G' H' → R (Itr m (n - m).toNat) H') : iRng2 ta σ H R :=
  h G0 H0 σ G H _ x fun vs G' H' g r => by
    cases r with
    | cons a b =>
      cases a
      cases b with
      | cons a b =>
        cases a
        cases b
        exact ⟨m, n, rfl, by omega, q G' H' g⟩
/-- for over a tuple -/
theorem r_forT {g : TG} {tl : TE} (hl : EvS C γ tl (.py (.tuple ds))) (I : Nat → Env → Prop) (h0 : I 0 γ)
    (hs : ∀ i d γ1, ds[i]? = some d → I i γ1 → ∃ γ2, Tgt C g d γ1 γ2 ∧ Run C G0 H0 γ2 ts { P with nx := I (i + 1), ct := I (i + 1), bk := P.nx })
    (hd : ∀ γ1, I ds.length γ1 → P.nx γ1) : Run C G0 H0 γ (tFor (iTup K tl) g ts) P := fun σ G H D x q =>
  hl G0 H0 σ G H _ x fun v G1 H1 g1 r1 => by
    have r1' : Rp G1 v (.tuple ds) := r1
    cases r1' with
    | @tup a vs _ ha hr =>
      refine ⟨a, rfl, ⟨vs, SqT.of (g1.gh _ _ ha)⟩, for_tup (K := K) (a := a) (xs := vs) (fun i σ' H' => ∃ γ1 G', I i γ1 ∧ Stt C G0 H0 γ1 σ' G' H' ∧ Same G1 G') ⟨γ, G1, h0, x.grow g1, Same.refl _⟩ (fun i σ' H' _ ⟨_, G', _, x', e'⟩ => SqT.of (x'.same _ _ (e' _ _ ha))) ?_ ?_⟩
      · rintro i y σ' H' hi ⟨γ1, G', i1, x', e'⟩
        obtain ⟨d, hd1, rd⟩ := hr.get hi
        obtain ⟨γ2, tg, rn⟩ := hs i d γ1 hd1 i1
        refine tg G0 H0 σ' G' H' y _ x' (Rp.mono e' rd) fun σ2 x2 => ?_
        exact rn σ2 G' H' _ x2 ⟨fun γ3 σ3 G3 H3 p e3 x3 => ⟨γ3, G3, p, x3, e'.trans e3⟩, q.rt, fun γ3 σ3 G3 H3 p e3 x3 => q.nx γ3 σ3 G3 H3 p ((g1.gg.trans e').trans e3) x3, fun γ3 σ3 G3 H3 p e3 x3 => ⟨γ3, G3, p, x3, e'.trans e3⟩⟩
      · rintro σ' H' ⟨γ1, G', i1, x', e'⟩
        rw [hr.len] at i1
        exact q.nx γ1 σ' G' H' (hd γ1 i1) (g1.gg.trans e') x'
/-- for i, x in enumerate(xs) -/
theorem r_forE {g : TG} {tl : TE} (hl : EvS C γ tl (.py (.list ds))) (I : Nat → Env → Prop) (h0 : I 0 γ)
    (hs : ∀ i d γ1, ds[i]? = some d → I i γ1 → ∃ γ2, Tgt C g (.tuple [.int (i : Nat), d]) γ1 γ2 ∧ Run C G0 H0 γ2 ts { P with nx := I (i + 1), ct := I (i + 1), bk := P.nx })
    (hd : ∀ γ1, I ds.length γ1 → P.nx γ1) : Run C G0 H0 γ (tFor (iEnum K (tCons tl tNil)) g ts) P := fun σ G H D x q =>
  hl G0 H0 σ G H _ x fun v G1 H1 g1 r1 => by
    have r1' : Rp G1 v (.list ds) := r1
    cases r1' with
    | @lst a vs _ ha hr =>
      refine ⟨a, vs, rfl, SqL.of (g1.gh _ _ ha), fun i m σ' H' => m = vs.length - i ∧ i ≤ vs.length ∧ ∃ γ1 G', I i γ1 ∧ Stt C G0 H0 γ1 σ' G' H' ∧ Same G1 G', ⟨vs.length, rfl, Nat.zero_le _, γ, G1, h0, x.grow g1, Same.refl _⟩, ?_⟩
      rintro i m σ' H' ⟨rfl, hil, γ1, G', i1, x', e'⟩
      have hS : SqL K H' a vs := SqL.of (x'.same _ _ (e' _ _ ha))
      by_cases hlt : i < vs.length
      · refine .inr ⟨⟨vs, vs[i], hS, List.getElem?_eq_getElem hlt⟩, fun σ2 H2 => ∃ γ2 G2, I (i + 1) γ2 ∧ Stt C G0 H0 γ2 σ2 G2 H2 ∧ Same G1 G2, fun σ2 H2 hN => ⟨vs.length - (i + 1), by omega, rfl, hlt, hN⟩, fun y H2 hy => ?_⟩
        obtain ⟨T, y', rfl, nT, rfl, fy⟩ := hy
        have e1 := fy vs hS
        obtain ⟨d, hd1, rd⟩ := hr.get e1
        obtain ⟨γ2, tg, rn⟩ := hs i d γ1 hd1 i1
        have g2 : Grow G' H' (upd G' T (.tup [.int (i : Nat), y'])) (upd H' T (.tup [.int (i : Nat), y'])) := Grow.lay x'.same nT
        refine tg G0 H0 σ' _ _ _ _ (x'.grow g2) (Rp.tup upd_same (.cons (Rp.int _) (.cons (Rp.mono (e'.trans g2.gg) rd) .nil))) fun σ2 x2 => ?_
        exact rn σ2 _ _ _ x2 ⟨fun γ3 σ3 G3 H3 p e3 x3 => ⟨γ3, G3, p, x3, (e'.trans g2.gg).trans e3⟩, q.rt, fun γ3 σ3 G3 H3 p e3 x3 => q.nx γ3 σ3 G3 H3 p (((g1.gg.trans e').trans g2.gg).trans e3) x3, fun γ3 σ3 G3 H3 p e3 x3 => ⟨γ3, G3, p, x3, (e'.trans g2.gg).trans e3⟩⟩
      · have e : i = vs.length := by omega
        subst e
        rw [hr.len] at i1
        exact .inl ⟨⟨vs, hS, Nat.le_refl _⟩, q.nx γ1 σ' G' H' (hd γ1 i1) (g1.gg.trans e') x'⟩
/-- while: an invariant by a measure -/
theorem r_while (I : Nat → Env → Prop) (m0 : Nat) (h0 : I m0 γ)
    (hs : ∀ m γ1, I m γ1 → ∃ b, EvB C γ1 tt b ∧ (b = true → Run C G0 H0 γ1 ts { P with nx := fun γ2 => ∃ m', m' < m ∧ I m' γ2, ct := fun γ2 => ∃ m', m' < m ∧ I m' γ2, bk := P.nx }) ∧ (b = false → P.nx γ1)) : Run C G0 H0 γ (tWhile tt ts) P := fun σ G H D x q => by
  refine ⟨fun m σ' H' => ∃ γ1 G', I m γ1 ∧ Stt C G0 H0 γ1 σ' G' H' ∧ Same G G', ⟨m0, γ, G, h0, x, Same.refl _⟩, ?_⟩
  rintro m σ' H' ⟨γ1, G', i1, x', e'⟩
  obtain ⟨b, hb, h1, h2⟩ := hs m γ1 i1
  refine hb G0 H0 σ' G' H' _ x' fun G2 H2 g2 => ?_
  cases b with
  | true =>
    rw [if_pos rfl]
    refine ⟨fun σ3 H3 => ∃ m', m' < m ∧ ∃ γ3 G3, I m' γ3 ∧ Stt C G0 H0 γ3 σ3 G3 H3 ∧ Same G G3, fun σ3 H3 ⟨m', l, z⟩ => ⟨m', l, z⟩, ?_⟩
    exact h1 rfl σ' G2 H2 _ (x'.grow g2) ⟨fun γ3 σ3 G3 H3 ⟨m', l, p⟩ e3 x3 => ⟨m', l, γ3, G3, p, x3, (e'.trans g2.gg).trans e3⟩, q.rt, fun γ3 σ3 G3 H3 p e3 x3 => q.nx γ3 σ3 G3 H3 p ((e'.trans g2.gg).trans e3) x3, fun γ3 σ3 G3 H3 ⟨m', l, p⟩ e3 x3 => ⟨m', l, γ3, G3, p, x3, (e'.trans g2.gg).trans e3⟩⟩
  | false =>
    rw [if_neg Bool.false_ne_true]
    exact q.nx γ1 σ' G2 H2 (h2 rfl) (e'.trans g2.gg) (x'.grow g2)

/-! ### comprehensions -/
def wipeE (γ : Env) : List Nat → Env
  | [] => γ
  | v :: vs => (wipeE γ vs).set v .no
theorem Stt.wipes {σ : L2.St} {G H : Hp} (x : Stt C G0 H0 γ σ G H) : ∀ vs : List Nat, Stt C G0 H0 (wipeE γ vs) (L2.wipe σ vs) G H
  | [] => x
  | v :: vs => (Stt.wipes x vs).wipe v
/-- what a comprehension's target does -/
def TgC (C : Addr) (g : TG) (d : PyData) (vs : List Nat) (γ γ' : Env) : Prop := ∀ (G0 H0 : Hp) (σ : L2.St) (G H : Hp) (v : V) (Q : L2.St → Hp → Prop), Stt C G0 H0 γ (wipe σ vs) G H → Rp G v d → (∀ σ', Stt C G0 H0 γ' σ' G H → wipe σ' vs = wipe σ vs → Q σ' H) → g v (wipe σ vs) H Q
theorem c_n {i : Nat} : TgC C (gName i) d [i] γ (γ.set i (.py d)) := fun G0 H0 σ G H v Q x r q =>
  q _ (x.set (Grow.refl x.same) r) (by
    show ((σ.set i none).set i (some v)).set i none = σ.set i none
    rw [List.set_set, List.set_set])
theorem c_2 {i j : Nat} {d1 d2 : PyData} (hij : i ≠ j) : TgC C (gTup K 2 (gCons (gName i) (gCons (gName j) gNil))) (.tuple [d1, d2]) [i, j] γ ((γ.set i (.py d1)).set j (.py d2)) := fun G0 H0 σ G H v Q x r q => by
  cases r with
  | tup hq hr =>
    cases hr with
    | @cons v1 _ _ _ r1 hr =>
      cases hr with
      | @cons v2 _ _ _ r2 hr =>
        cases hr
        have y := x.set (i := i) (Grow.refl x.same) (show SlOk C H G H _ (.py d1) from r1)
        refine ⟨_, _, rfl, SqT.of (x.same _ _ hq), rfl, _, _, rfl, _, _, rfl, rfl, q _ (y.set (i := j) (Grow.refl x.same) (show SlOk C H G H _ (.py d2) from r2)) ?_⟩
        show (((((σ.set j none).set i none).set i (some v1)).set j (some v2)).set j none).set i none = (σ.set j none).set i none
        rw [List.set_set, List.set_set, List.set_comm _ _ hij, List.set_set, List.set_set]
theorem lc_turn {G1 H1 G' H' : Hp} {D : Addr} {p : Bool} {h : PyData} {acc : List PyData} {γ2 : Env} {σ2 : L2.St} {Nx : Hp → Prop} {vs : List V} (x2 : Stt C G0 H0 γ2 σ2 G' H') (ht : EvB C γ2 tt p) (he : p = true → EvS C γ2 te (.py h))
    (hD : H1 D = none) (gr : Grow G1 H1 G' H') (hd : H' D = some (.lst vs)) (hG : G' D = none) (hr : RpA G' vs acc) (hz : acc.length < 1000000)
    (h1 : p = true → ∀ G2 H2 v, Grow G1 H1 G2 H2 → H2 D = some (.lst (vs ++ [v])) → G2 D = none → RpA G2 (vs ++ [v]) (acc ++ [h]) → Nx H2)
    (h2 : p = false → ∀ G2 H2, Grow G1 H1 G2 H2 → H2 D = some (.lst vs) → G2 D = none → RpA G2 vs acc → Nx H2) :
    tt σ2 H' fun b H3 => if b = true then te σ2 H3 fun y H4 => ∃ acc, H4 D = some (.lst acc) ∧ acc.length < sizeLine ∧ Nx (upd H4 D (.lst (acc ++ [y]))) else Nx H3 := by
  have keepN : ∀ {G2 H2}, Grow G' H' G2 H2 → G2 D = none := fun g => g.nw D hG (by rw [hd]; simp)
  refine ht G0 H0 σ2 G' H' _ x2 fun G3 H3 g3 => ?_
  cases p with
  | true =>
    rw [if_pos rfl]
    refine he rfl G0 H0 σ2 G3 H3 _ (x2.grow g3) fun y G4 H4 g4 r4 => ?_
    have g34 := g3.trans g4
    refine ⟨vs, g34.hh _ _ hd, by rw [hr.len]; exact small' hz, h1 rfl G4 _ y ((gr.trans g34).put hD (keepN g34)) upd_same (keepN g34) ((RpA.mono g34.gg hr).app (.cons r4 .nil))⟩
  | false =>
    rw [if_neg Bool.false_ne_true]
    exact h2 rfl G3 H3 (gr.trans g3) (g3.hh _ _ hd) (keepN g3) (RpA.mono g3.gg hr)
theorem filter_take {α : Type} {p : α → Bool} {xs : List α} {i : Nat} {x : α} (h : xs[i]? = some x) : (xs.take (i + 1)).filter p = (xs.take i).filter p ++ (if p x = true then [x] else []) := by
  rw [List.take_add_one, h, List.filter_append]
  congr 1
  cases e : p x <;> simp [e]
section
variable {α : Type} {xs : List α} {f h : α → PyData} {p : α → Bool} {g : TG} {tl : TE} {vs : List Nat}
/-- [h(x) for x in xs if p(x)] -/
theorem e_lcL (hl : EvL C γ tl (xs.map f)) (hz : xs.length < 1000000) (ht : ∀ x ∈ xs, ∃ γ2, TgC C g (f x) vs (wipeE γ vs) γ2 ∧ EvB C γ2 tt (p x) ∧ (p x = true → EvS C γ2 te (.py (h x)))) :
    EvS C γ (tLc (iList K tl) g tt te vs) (.own (.lst ((xs.filter p).map h))) := fun G0 H0 σ G H Q x q =>
  hl G0 H0 σ G H _ x fun a us G1 H1 g1 ha hr => by
      refine ⟨a, rfl, ⟨us, SqL.of ha⟩, fun D hD => ?_⟩
      have hl0 : us.length = xs.length := by rw [hr.len, List.length_map]
      refine lc_list (K := K) (a := a) (xs := us) (fun i H' => ∃ G' ws, Grow G1 H1 G' H' ∧ H' D = some (.lst ws) ∧ G' D = none ∧ RpA G' ws (((xs.take i).filter p).map h)) ⟨G1, [], Grow.own g1.gh hD, upd_same, g1.gh.free hD, .nil⟩
        (fun i H' _ ⟨G', _, gr, _⟩ => SqL.of (gr.hh _ _ ha)) ?_ ?_
      · rintro i y H' hi ⟨G', ws, gr, hd, hG, hw⟩
        obtain ⟨d, hd1, rd⟩ := hr.get hi
        rw [List.getElem?_map] at hd1
        cases ex : xs[i]? with
        | none =>
          rw [ex] at hd1
          cases hd1
        | some z =>
          rw [ex] at hd1
          cases hd1
          obtain ⟨γ2, tg, hb, he⟩ := ht z (List.mem_of_getElem? ex)
          have x' := (x.grow (g1.trans gr)).wipes vs
          refine tg G0 H0 σ G' H' y _ x' (Rp.mono gr.gg rd) fun σ2 x2 hwp => ⟨hwp, ?_⟩
          have hil : i < xs.length := (List.getElem?_eq_some_iff.mp ex).1
          have hlen : (((xs.take i).filter p).map h).length < 1000000 := by
            rw [List.length_map]
            refine Nat.lt_of_le_of_lt (List.length_filter_le _ _) ?_
            rw [List.length_take]
            omega
          refine lc_turn x2 hb he hD gr hd hG hw hlen (fun hp G2 H2 v g2 e2 n2 r2 => ⟨G2, _, g2, e2, n2, ?_⟩) (fun hp G2 H2 g2 e2 n2 r2 => ⟨G2, _, g2, e2, n2, ?_⟩)
          · rw [filter_take ex, if_pos hp, List.map_append]
            exact r2
          · rw [filter_take ex, if_neg (by rw [hp]; exact Bool.false_ne_true), List.append_nil]
            exact r2
      · rintro H' ⟨G', ws, gr, hd, hG, hw⟩
        rw [hl0, List.take_length] at hw
        exact q (.ref D) G' H' (g1.trans gr) ⟨D, _, rfl, hd, hG, g1.hh.free hD, ws, rfl, hw⟩
/-- the same where the list is data -/
theorem e_lc (hl : EvS C γ tl (.py (.list (xs.map f)))) (hz : xs.length < 1000000) (ht : ∀ x ∈ xs, ∃ γ2, TgC C g (f x) vs (wipeE γ vs) γ2 ∧ EvB C γ2 tt (p x) ∧ (p x = true → EvS C γ2 te (.py (h x)))) :
    EvS C γ (tLc (iList K tl) g tt te vs) (.own (.lst ((xs.filter p).map h))) := e_lcL (l_py hl) hz ht
theorem e_lcL1 (hl : EvL C γ tl (xs.map f)) (hz : xs.length < 1000000) (ht : ∀ x ∈ xs, ∃ γ2, TgC C g (f x) vs (wipeE γ vs) γ2 ∧ EvS C γ2 te (.py (h x))) :
    EvS C γ (tLc (iList K tl) g tYes te vs) (.own (.lst (xs.map h))) := by
  have z := e_lcL (K := K) (g := g) (vs := vs) (te := te) (tt := tYes) (p := fun _ => true) (h := h) hl hz fun x hx => by
    obtain ⟨γ2, h1, h2⟩ := ht x hx
    exact ⟨γ2, h1, t_yes, fun _ => h2⟩
  rw [List.filter_eq_self.mpr (fun _ _ => rfl)] at z
  exact z
/-- the same over a tuple -/
theorem e_lcT (hl : EvS C γ tl (.py (.tuple (xs.map f)))) (hz : xs.length < 1000000) (ht : ∀ x ∈ xs, ∃ γ2, TgC C g (f x) vs (wipeE γ vs) γ2 ∧ EvB C γ2 tt (p x) ∧ (p x = true → EvS C γ2 te (.py (h x)))) :
    EvS C γ (tLc (iTup K tl) g tt te vs) (.own (.lst ((xs.filter p).map h))) := fun G0 H0 σ G H Q x q =>
  hl G0 H0 σ G H _ x fun v G1 H1 g1 r1 => by
    have r1' : Rp G1 v (.tuple (xs.map f)) := r1
    cases r1' with
    | @tup a us _ ha hr =>
      refine ⟨a, rfl, ⟨us, SqT.of (g1.gh _ _ ha)⟩, fun D hD => ?_⟩
      have hl0 : us.length = xs.length := by rw [hr.len, List.length_map]
      refine lc_tup (K := K) (a := a) (xs := us) (fun i H' => ∃ G' ws, Grow G1 H1 G' H' ∧ H' D = some (.lst ws) ∧ G' D = none ∧ RpA G' ws (((xs.take i).filter p).map h)) ⟨G1, [], Grow.own g1.gh hD, upd_same, g1.gh.free hD, .nil⟩
        (fun i H' _ ⟨G', _, gr, _⟩ => SqT.of (gr.gh _ _ (gr.gg _ _ ha))) ?_ ?_
      · rintro i y H' hi ⟨G', ws, gr, hd, hG, hw⟩
        obtain ⟨d, hd1, rd⟩ := hr.get hi
        rw [List.getElem?_map] at hd1
        cases ex : xs[i]? with
        | none =>
          rw [ex] at hd1
          cases hd1
        | some z =>
          rw [ex] at hd1
          cases hd1
          obtain ⟨γ2, tg, hb, he⟩ := ht z (List.mem_of_getElem? ex)
          have x' := (x.grow (g1.trans gr)).wipes vs
          refine tg G0 H0 σ G' H' y _ x' (Rp.mono gr.gg rd) fun σ2 x2 hwp => ⟨hwp, ?_⟩
          have hil : i < xs.length := (List.getElem?_eq_some_iff.mp ex).1
          have hlen : (((xs.take i).filter p).map h).length < 1000000 := by
            rw [List.length_map]
            refine Nat.lt_of_le_of_lt (List.length_filter_le _ _) ?_
            rw [List.length_take]
            omega
          refine lc_turn x2 hb he hD gr hd hG hw hlen (fun hp G2 H2 v g2 e2 n2 r2 => ⟨G2, _, g2, e2, n2, ?_⟩) (fun hp G2 H2 g2 e2 n2 r2 => ⟨G2, _, g2, e2, n2, ?_⟩)
          · rw [filter_take ex, if_pos hp, List.map_append]
            exact r2
          · rw [filter_take ex, if_neg (by rw [hp]; exact Bool.false_ne_true), List.append_nil]
            exact r2
      · rintro H' ⟨G', ws, gr, hd, hG, hw⟩
        rw [hl0, List.take_length] at hw
        exact q (.ref D) G' H' (g1.trans gr) ⟨D, _, rfl, hd, hG, g1.hh.free hD, ws, rfl, hw⟩
theorem e_lcT1 (hl : EvS C γ tl (.py (.tuple (xs.map f)))) (hz : xs.length < 1000000) (ht : ∀ x ∈ xs, ∃ γ2, TgC C g (f x) vs (wipeE γ vs) γ2 ∧ EvS C γ2 te (.py (h x))) :
    EvS C γ (tLc (iTup K tl) g tYes te vs) (.own (.lst (xs.map h))) := by
  have z := e_lcT (K := K) (g := g) (vs := vs) (te := te) (tt := tYes) (p := fun _ => true) (h := h) hl hz fun x hx => by
    obtain ⟨γ2, h1, h2⟩ := ht x hx
    exact ⟨γ2, h1, t_yes, fun _ => h2⟩
  rw [List.filter_eq_self.mpr (fun _ _ => rfl)] at z
  exact z
/-- [h(x) for x in xs] -/
theorem e_lc1 (hl : EvS C γ tl (.py (.list (xs.map f)))) (hz : xs.length < 1000000) (ht : ∀ x ∈ xs, ∃ γ2, TgC C g (f x) vs (wipeE γ vs) γ2 ∧ EvS C γ2 te (.py (h x))) :
    EvS C γ (tLc (iList K tl) g tYes te vs) (.own (.lst (xs.map h))) := by
  have z := e_lc (K := K) (g := g) (vs := vs) (te := te) (tt := tYes) (p := fun _ => true) (h := h) hl hz fun x hx => by
    obtain ⟨γ2, h1, h2⟩ := ht x hx
    exact ⟨γ2, h1, t_yes, fun _ => h2⟩
  rw [List.filter_eq_self.mpr (fun _ _ => rfl)] at z
  exact z
/-- [x for x in xs if p(x)] -/
theorem e_lcF (hl : EvS C γ tl (.py (.list (xs.map f)))) (hz : xs.length < 1000000) (ht : ∀ x ∈ xs, ∃ γ2, TgC C g (f x) vs (wipeE γ vs) γ2 ∧ EvB C γ2 tt (p x) ∧ (p x = true → EvS C γ2 te (.py (f x)))) :
    EvS C γ (tLc (iList K tl) g tt te vs) (.own (.lst ((xs.filter p).map f))) := e_lc hl hz ht
/-- [h(i) for i in range(lo, ..)] -/
theorem e_lcR {h : Nat → PyData} {p : Nat → Bool} {wi : TI} {lo : Int} {n : Nat} (hw : ∀ (G0 H0 G H : Hp) (σ : L2.St) (R : It → Hp → Prop), Stt C G0 H0 γ σ G H → (∀ G' H', Grow G H G' H' → R (Itr lo n) H') → wi σ H R)
    (hz : n < 1000000) (ht : ∀ i, i < n → ∃ γ2, TgC C g (.int (lo + i)) vs (wipeE γ vs) γ2 ∧ EvB C γ2 tt (p i) ∧ (p i = true → EvS C γ2 te (.py (h i)))) :
    EvS C γ (tLc wi g tt te vs) (.own (.lst (((List.range n).filter p).map h))) := fun G0 H0 σ G H Q x q =>
  hw G0 H0 G H σ _ x fun G1 H1 g1 D hD => by
    refine lc_range (lo := lo) (n := n) (fun i H' => ∃ G' ws, Grow G1 H1 G' H' ∧ H' D = some (.lst ws) ∧ G' D = none ∧ RpA G' ws (((List.range i).filter p).map h)) ⟨G1, [], Grow.own g1.gh hD, upd_same, g1.gh.free hD, .nil⟩ ?_ ?_
    · rintro i H' hi ⟨G', ws, gr, hd, hG, hw⟩
      obtain ⟨γ2, tg, hb, he⟩ := ht i hi
      have x' := (x.grow (g1.trans gr)).wipes vs
      refine tg G0 H0 σ G' H' _ _ x' (Rp.int _) fun σ2 x2 hwp => ⟨hwp, ?_⟩
      have hlen : (((List.range i).filter p).map h).length < 1000000 := by
        rw [List.length_map]
        refine Nat.lt_of_le_of_lt (List.length_filter_le _ _) ?_
        rw [List.length_range]
        omega
      have e1 : (List.range (i + 1)).filter p = (List.range i).filter p ++ (if p i = true then [i] else []) := by
        rw [List.range_succ, List.filter_append]
        congr 1
        cases e : p i <;> simp [e]
      refine lc_turn x2 hb he hD gr hd hG hw hlen (fun hp G2 H2 v g2 e2 n2 r2 => ⟨G2, _, g2, e2, n2, ?_⟩) (fun hp G2 H2 g2 e2 n2 r2 => ⟨G2, _, g2, e2, n2, ?_⟩)
      · rw [e1, if_pos hp, List.map_append]
        exact r2
      · rw [e1, if_neg (by rw [hp]; exact Bool.false_ne_true), List.append_nil]
        exact r2
    · rintro H' ⟨G', ws, gr, hd, hG, hw⟩
      exact q (.ref D) G' H' (g1.trans gr) ⟨D, _, rfl, hd, hG, g1.hh.free hD, ws, rfl, hw⟩
/-- [h(i, x) for i, x in enumerate(xs) if p(i, x)] -/
theorem e_lcE {h : Nat × α → PyData} {p : Nat × α → Bool} (hl : EvS C γ tl (.py (.list (xs.map f)))) (hz : xs.length < 1000000)
    (ht : ∀ i x, xs[i]? = some x → ∃ γ2, TgC C g (.tuple [.int (i : Nat), f x]) vs (wipeE γ vs) γ2 ∧ EvB C γ2 tt (p (i, x)) ∧ (p (i, x) = true → EvS C γ2 te (.py (h (i, x))))) :
    EvS C γ (tLc (iEnum K (tCons tl tNil)) g tt te vs) (.own (.lst (((xs.zipIdx.map fun z => (z.2, z.1)).filter p).map h))) := fun G0 H0 σ G H Q x q =>
  hl G0 H0 σ G H _ x fun v G1 H1 g1 r1 => by
    have r1' : Rp G1 v (.list (xs.map f)) := r1
    cases r1' with
    | @lst a us _ ha hr =>
      refine ⟨a, us, rfl, SqL.of (g1.gh _ _ ha), fun D hD => ?_⟩
      have hl0 : us.length = xs.length := by rw [hr.len, List.length_map]
      have hzl : (xs.zipIdx.map fun z => (z.2, z.1)).length = xs.length := by rw [List.length_map, List.length_zipIdx]
      refine ⟨fun i m H' => m = us.length - i ∧ i ≤ us.length ∧ ∃ G' ws, Grow G1 H1 G' H' ∧ H' D = some (.lst ws) ∧ G' D = none ∧ RpA G' ws ((((xs.zipIdx.map fun z => (z.2, z.1)).take i).filter p).map h), ⟨us.length, rfl, Nat.zero_le _, G1, [], Grow.own g1.gh hD, upd_same, g1.gh.free hD, .nil⟩, ?_⟩
      rintro i m H' ⟨rfl, hil, G', ws, gr, hd, hG, hw⟩
      have hS : SqL K H' a us := SqL.of (gr.gh _ _ (gr.gg _ _ ha))
      by_cases hlt : i < us.length
      · refine .inr ⟨⟨us, us[i], hS, List.getElem?_eq_getElem hlt⟩, fun H2 => ∃ G' ws, Grow G1 H1 G' H2 ∧ H2 D = some (.lst ws) ∧ G' D = none ∧ RpA G' ws ((((xs.zipIdx.map fun z => (z.2, z.1)).take (i + 1)).filter p).map h), fun H2 hN => ⟨us.length - (i + 1), by omega, rfl, hlt, hN⟩, fun y H2 hy => ?_⟩
        obtain ⟨T, y', rfl, nT, rfl, fy⟩ := hy
        obtain ⟨d, hd1, rd⟩ := hr.get (fy us hS)
        rw [List.getElem?_map] at hd1
        cases ex : xs[i]? with
        | none =>
          rw [ex] at hd1
          cases hd1
        | some z =>
          rw [ex] at hd1
          cases hd1
          have ez : (xs.zipIdx.map fun z => (z.2, z.1))[i]? = some (i, z) := by
            rw [List.getElem?_map, List.getElem?_zipIdx, ex]
            simp
          obtain ⟨γ2, tg, hb, he⟩ := ht i z ex
          have g2 : Grow G' H' (upd G' T (.tup [.int (i : Nat), y'])) (upd H' T (.tup [.int (i : Nat), y'])) := Grow.lay gr.gh nT
          have nDT : D ≠ T := ne_of_none hd nT
          have x' := (x.grow ((g1.trans gr).trans g2)).wipes vs
          refine tg G0 H0 σ _ _ _ _ x' (Rp.tup upd_same (.cons (Rp.int _) (.cons (Rp.mono (gr.gg.trans g2.gg) rd) .nil))) fun σ2 x2 hwp => ⟨hwp, ?_⟩
          have hlen : ((((xs.zipIdx.map fun z => (z.2, z.1)).take i).filter p).map h).length < 1000000 := by
            rw [List.length_map]
            refine Nat.lt_of_le_of_lt (List.length_filter_le _ _) ?_
            rw [List.length_take, hzl]
            omega
          refine lc_turn x2 hb he hD (gr.trans g2) (by rw [upd_ne nDT]; exact hd) (by rw [upd_ne nDT]; exact hG) (RpA.mono g2.gg hw) hlen (fun hp G2 H2 v g2 e2 n2 r2 => ⟨G2, _, g2, e2, n2, ?_⟩) (fun hp G2 H2 g2 e2 n2 r2 => ⟨G2, _, g2, e2, n2, ?_⟩)
          · rw [filter_take ez, if_pos hp, List.map_append]
            exact r2
          · rw [filter_take ez, if_neg (by rw [hp]; exact Bool.false_ne_true), List.append_nil]
            exact r2
      · have e : i = us.length := by omega
        subst e
        rw [hl0, ← hzl, List.take_length] at hw
        exact .inl ⟨⟨us, hS, Nat.le_refl _⟩, q (.ref D) G' H' (g1.trans gr) ⟨D, _, rfl, hd, hG, g1.hh.free hD, ws, rfl, hw⟩⟩
end
end

/-! ### a def's promise by its body -/
def OutE (C : Addr) (G H : Hp) (E : XK) : Out → Prop
  | .ret _ => True
  | .exc c => ∀ G' H', Grow G H G' H' → E (.ref c) none H'
  | .excF c fs => ∀ G' H' d, Grow G H G' H' → H' d = none → E (.ref c) (some d) (upd H' d (.xd fs))
theorem OutOk.e {C : Addr} {G H : Hp} {Q : VK} {E : XK} : ∀ {o : Out}, OutOk C G H Q E o → OutE C G H E o
  | .ret _, _ => trivial
  | .exc _, h => h
  | .excF _ _, h => h
theorem ArgsOk.len {C : Addr} {G : Hp} {vs : List V} {ss : List Sl} (h : ArgsOk C G vs ss) : vs.length = ss.length := Paired.length h
theorem paired_get {α β : Type} {R : α → β → Prop} : ∀ {xs : List α} {ys : List β} {i : Nat} {y : β}, Paired R xs ys → ys[i]? = some y → ∃ x, xs[i]? = some x ∧ R x y
  | _, _, _, _, .nil, e => by simp at e
  | x :: _, _, 0, _, .cons r _, e => by simp at e; subst e; exact ⟨x, rfl, r⟩
  | _, _, i + 1, y, .cons _ t, e => by
    obtain ⟨x, h1, h2⟩ := paired_get (i := i) (y := y) t (by simpa using e)
    exact ⟨x, by simpa using h1, h2⟩
theorem stt_start {C : Addr} {G H : Hp} {vs : List V} {ss : List Sl} {N : List Str} (e : Same G H) (h : ArgsOk C G vs ss) (hn : ss.length ≤ N.length) : Stt C G H (ss ++ List.replicate (N.length - ss.length) .no) (L2.start N vs) G H := by
  have hl := h.len
  have sl : ∀ (i : Nat) (s : Sl), (ss ++ List.replicate (N.length - ss.length) Sl.no)[i]? = some s → s = .no ∨ ss[i]? = some s := fun i s q => by
    by_cases hi : i < ss.length
    · rw [List.getElem?_append_left hi] at q
      exact .inr q
    · rw [List.getElem?_append_right (by omega), List.getElem?_replicate] at q
      split at q
      · exact .inl (Option.some.inj q).symm
      · cases q
  refine ⟨Grow.refl e, ?_, fun i s q => ?_, fun i j u w a h1 h2 _ _ => ?_⟩
  · unfold L2.start
    rw [List.length_append, List.length_map, List.length_replicate, List.length_append, List.length_replicate, hl]
  · rcases sl i s q with z | z
    · exact .inl z
    · obtain ⟨v, hv, r⟩ := paired_get h z
      refine .inr ⟨v, ?_, ?_⟩
      · unfold L2.start
        rw [List.getElem?_append_left (by rw [List.length_map]; exact (List.getElem?_eq_some_iff.mp hv).1), List.getElem?_map, hv]
        rfl
      · cases s with
        | no => exact trivial
        | py d => exact r
        | brd cs => exact r
        | pr p m => exact r
        | nw p m k => exact False.elim r
        | own w => exact False.elim r
  · rcases sl i _ h1 with z | z
    · cases z
    · obtain ⟨v, hv, r⟩ := paired_get h z
      exact False.elim r
section
variable {P : Program} {w : World} {K : PySem.W.Frag} {mg : Str → Option Value} {base : Heap} {C : Addr}
theorem fn_ok {x qual : Str} {st : Stmt} {f : Addr} {fd : FuncData} {N ps : List Str} {k : Nat} {α : Type} {args : α → List Sl} {out : α → Out} (F : L2.Fun K x qual st f fd) (S : FnScope N ps (defScope st)) (hl : ∀ a, (args a).length = ps.length)
    (hbody : ∀ (cdv : Value) (A : Around) (outer : List PySem.Env) (s : Shared) (H : Hp) (E : XK), Room k (A.deeper (envOfC qual (defScope st) s.heap.objs.size f cdv)) →
      ∃ t, PSs (cxOf (L2.CX P w) P w K mg base N qual (defScope st) f cdv A outer s H E) (defBody st) t ∧
        ∀ (a : α) (G : Hp), OutE C G H E (out a) → Run C G H (args a ++ List.replicate (N.length - ps.length) .no) t { nx := fun _ => out a = .ret (.py .none), rt := fun s => out a = .ret s }) : FnOk P w K mg base (L2.CX P w) (k + 1) f fd ps (spO C args out) := by
  refine F.okX S (fun vs H Q E h => ?_) (fun cdv A outer s H vs Q E hr h => ?_)
  · obtain ⟨a, G, e, r, _⟩ := h
    rw [r.len, hl]
  · obtain ⟨a, G, e, r, q⟩ := h
    obtain ⟨t, ht, hrun⟩ := hbody cdv A outer s H E hr
    refine ⟨t, ht, ?_⟩
    have hn : (args a).length ≤ N.length := by
      rw [hl, ← S.pre, List.length_take]
      exact Nat.min_le_right _ _
    have x := stt_start e r hn
    rw [hl] at x
    refine hrun a G q.e (L2.start N vs) G H _ x ⟨fun γ σ G' H' p _ x' => ?_, fun s v G' H' p g r => ?_, fun _ _ _ _ p => False.elim p, fun _ _ _ _ p => False.elim p⟩
    · have p' : out a = .ret (.py .none) := p
      rw [p'] at q
      exact q .non G' H' x'.gr Rp.non
    · have p' : out a = .ret s := p
      rw [p'] at q
      exact q v G' H' g r
end
end Pg

namespace Pg
open PySem PySem.Spec PyProof.Rows L2
open PySem.W (alike alikeAll dataLt AllAlike Sortable EachIs dataLe)

/-! ## order -/
theorem each_of {T : V → PyData → Prop} : ∀ {vs : List V} {us : List Value} {ds : List PyData}, Vals vs us → Paired T vs ds → EachIs (fun v d => ∃ x, RelV x v ∧ T x d) us ds
  | _, _, _, .nil, .nil => .nil
  | _, _, _, .cons r t, .cons q s => .cons ⟨_, r, q⟩ (each_of t s)
theorem of_each {T : V → PyData → Prop} : ∀ {us : List Value} {ds : List PyData}, EachIs (fun v d => ∃ x, RelV x v ∧ T x d) us ds → ∃ vs, Vals vs us ∧ Paired T vs ds
  | _, _, .nil => ⟨[], .nil, .nil⟩
  | _, _, .cons ⟨x, r, q⟩ t => by
    obtain ⟨vs, h1, h2⟩ := of_each t
    exact ⟨x :: vs, .cons r h1, .cons q h2⟩
theorem each_reads {h : Heap} : ∀ {us : List Value} {ds : List PyData} {as : List Addr}, ReadsAll h us ds as → EachIs (fun v d => ∃ as, Reads h v d as) us ds
  | _, _, _, .nil => .nil
  | _, _, _, .cons r t => .cons ⟨_, r⟩ (each_reads t)
section
variable {X : Cx}
/-- sorted(xs) of data that can be ordered; T goes with the items -/
def rSortD (K : PySem.W.Frag) : List V → Hp → VK → Prop := fun xs H Q => ∃ (a : Addr) (vs : List V) (ds : List PyData) (T : V → PyData → Prop), xs = [.ref a] ∧ SqL K H a vs ∧ DpAll K H vs ds ∧ Paired T vs ds ∧ AllAlike ds ∧ Sortable ds ∧ ds.length ≤ 1000000 ∧ (∀ d, d ∈ ds → d.depth ≤ 60) ∧
  ∀ p ws, H p = none → Paired T ws (ds.mergeSort (dataLe false id)) → Q (.ref p) (upd H p (.lst ws))
theorem c_sortD (hu : X.A.units + 64 < cLine) : CallR X (.builtin "sorted") (rSortD X.K) := by
  intro pins s σ H xs us Q I r h
  obtain ⟨a, vs, ds, T, rfl, hS, hd, hT, hal, hk, hz, hdep, q⟩ := h
  have e1 := Vals.ref1 r
  subst e1
  obtain ⟨its, rv, pl, hlen⟩ := I.list hS
  obtain ⟨as, hr⟩ := Dp.readsAll I ds vs its hd rv
  have er := each_reads hr
  have eT := each_of rv hT
  have hm : ds.map id = ds := List.map_id ds
  refine PySem.W.sorted_data (enc := id) (bs := ds) (R := fun v d => ∃ x, RelV x v ∧ T x d) pl.isList eT er (by rw [hm]; exact hal) (by rw [hm]; exact hk) (small hz) (fun b hb => ?_) fun out ho hE => ?_
  · have z := hdep b hb
    show X.A.units + 2 + b.depth < cLine
    omega
  · obtain ⟨ws, h1, h2⟩ := of_each hE
    obtain ⟨n, ha⟩ := sortedAll_at s.heap its (List.toArray out)
    have hp : H (s.heap.objs.size + 1) = none := I.hok.fresh (Nat.le_succ _)
    have hwl : ws.length ≤ sizeLine := by
      rw [h1.length, ho]
      exact small hz
    have new : ObjOk X.prog X.w (upd H (s.heap.objs.size + 1) (.lst ws)) (sortedAll s.heap its (List.toArray out)) (s.heap.objs.size + 1) (.lst ws) := ⟨hwl, out, n, h1, ha⟩
    exact ⟨.ref (s.heap.objs.size + 1), _, I.laid (t' := s.toks) (fun b o e => sortedAll_old e) (Nat.le_succ _) new, rfl, q _ ws hp h2⟩
/-- a >= b of data that can be ordered -/
def rGeD (K : PySem.W.Frag) : R2 := fun x y H Q => ∃ d e, Dp K H x d ∧ Dp K H y e ∧ alike d e = true ∧ d ≠ .none ∧ d.depth ≤ 60 ∧ Q (.bl (!dataLt d e)) H
theorem op_geD (hu : X.A.units + 64 < cLine) : OpR X (compareOp .GtE) (rGeD X.K) := by
  intro pins s σ H x y v u Q I rx ry h
  obtain ⟨d, e, hd, he, hal, hn, hdep, q⟩ := h
  obtain ⟨as, r1⟩ := Dp.reads I d x v hd rx
  obtain ⟨bs, r2⟩ := Dp.reads I e y u he ry
  refine PySem.W.ge_data r1 r2 hal hn ?_ ⟨.bl _, H, I, rfl, q⟩
  have : min d.depth e.depth ≤ d.depth := Nat.min_le_left _ _
  omega
/-- x in t, x not in t: t a tuple of data -/
def rInT (K : PySem.W.Frag) : R2 := fun x y H Q => ∃ d ds, Dp K H x d ∧ Dp K H y (.tuple ds) ∧ SeqAt.shaped d = true ∧ SeqAt.shaped (.tuple ds) = true ∧ Q (.bl (ds.any fun z => PyData.eqv z d)) H
def rNotInT (K : PySem.W.Frag) : R2 := fun x y H Q => ∃ d ds, Dp K H x d ∧ Dp K H y (.tuple ds) ∧ SeqAt.shaped d = true ∧ SeqAt.shaped (.tuple ds) = true ∧ Q (.bl (!ds.any fun z => PyData.eqv z d)) H
theorem room_T {A : Around} {d : PyData} {ds : List PyData} (h : SeqAt.shaped d = true) (hu : A.units + 65 < cLine) : A.units + 1 + min (PyData.depthAll ds) d.depth < cLine := by
  have h1 := SeqAt.depth_of_shaped h
  have h2 : min (PyData.depthAll ds) d.depth ≤ d.depth := Nat.min_le_right _ _
  omega
theorem layT {ds : List PyData} (h : SeqAt.shaped (.tuple ds) = true) : PyData.canLayAll0 ds = true := by
  have := SeqAt.canLay_of_shaped h
  simpa only [PyData.canLay0] using this
theorem op_inT (hu : X.A.units + 65 < cLine) : OpR X (compareOp .In) (rInT X.K) := by
  intro pins s σ H x y v u Q I rx ry h
  obtain ⟨d, ds, hd, he, sd, se, q⟩ := h
  obtain ⟨as, r1⟩ := Dp.reads I d x v hd rx
  obtain ⟨bs, r2⟩ := Dp.reads I (.tuple ds) y u he ry
  exact SeqAt.in_tuple_reads r2 r1 (layT se) (SeqAt.canLay_of_shaped sd) (room_T sd hu) ⟨.bl _, H, I, rfl, q⟩
theorem op_notInT (hu : X.A.units + 65 < cLine) : OpR X (compareOp .NotIn) (rNotInT X.K) := by
  intro pins s σ H x y v u Q I rx ry h
  obtain ⟨d, ds, hd, he, sd, se, q⟩ := h
  obtain ⟨as, r1⟩ := Dp.reads I d x v hd rx
  obtain ⟨bs, r2⟩ := Dp.reads I (.tuple ds) y u he ry
  exact SeqAt.notIn_tuple_reads r2 r1 (layT se) (SeqAt.canLay_of_shaped sd) (room_T sd hu) ⟨.bl _, H, I, rfl, q⟩
end

theorem at_m {α β : Type} {f : α → β} {xs : List α} {z : Int} {x : α} (j : Nat) (e : z = j) (h : xs[j]? = some x) : atI (xs.map f) z = some (f x) := by
  rw [e]
  refine atI_nat ?_
  rw [List.getElem?_map, h]
  rfl
theorem hu65 {k : Nat} {A : Around} (r : Room k A) : A.units + 65 < cLine := by have := r.un; omega
/-! ### ordered kinds -/
structure OrdD {α : Type} (f : α → PyData) (lt : α → α → Bool) : Prop where
  al : ∀ a b, alike (f a) (f b) = true
  lt : ∀ a b, dataLt (f a) (f b) = lt a b
  nn : ∀ a, f a ≠ .none
  dep : ∀ a, (f a).depth ≤ 8
/-- cells, leaps -/
def ltC (a b : Cell) : Bool := decide (a.1 < b.1 ∨ (a.1 = b.1 ∧ a.2 < b.2))
def ltP {α β : Type} [DecidableEq α] (l : α → α → Bool) (m : β → β → Bool) (a b : α × β) : Bool := if a.1 = b.1 then m a.2 b.2 else l a.1 b.1
abbrev ltL : Leap → Leap → Bool := ltP ltC ltC
/-- of rows the first place that differs; the longer one is the greater -/
def ltR {α : Type} [DecidableEq α] (l : α → α → Bool) : List α → List α → Bool
  | [], [] => false
  | [], _ :: _ => true
  | _ :: _, [] => false
  | a :: as, b :: bs => if a = b then ltR l as bs else l a b
theorem alike_map {α : Type} {f : α → PyData} (h : ∀ a b, alike (f a) (f b) = true) : ∀ xs ys : List α, alikeAll (xs.map f) (ys.map f) = true
  | [], _ => by simp [alikeAll]
  | _ :: _, [] => by simp [alikeAll]
  | x :: xs, y :: ys => by simp [alikeAll, h x y, alike_map h xs ys]
theorem o_int : OrdD PyData.int fun a b => decide (a < b) where
  al := fun a b => by simp [alike]
  lt := fun a b => PySem.W.dataLt_int a b
  nn := fun a => by simp
  dep := fun a => by simp [PyData.depth]
theorem o_c : OrdD cD ltC where
  al := fun a b => by simp [cD, alike, alikeAll]
  lt := fun a b => PySem.W.dataLt_ii a.1 a.2 b.1 b.2
  nn := fun a => by simp [cD]
  dep := q_c.dep
theorem ordP {α β : Type} [DecidableEq α] [DecidableEq β] {f : α → PyData} {g : β → PyData} {l : α → α → Bool} {m : β → β → Bool} (F : EqD f) (G : EqD g) (O : OrdD f l) (M : OrdD g m) (mi : ∀ b, m b b = false) (hf : ∀ a, (f a).depth ≤ 6) (hg : ∀ a, (g a).depth ≤ 6) :
    OrdD (fun p : α × β => PyData.tuple [f p.1, g p.2]) (ltP l m) where
  al := fun a b => by simp [alike, alikeAll, O.al, M.al]
  lt := fun a b => by
    rw [PySem.W.dataLt_pair (O.al _ _) (M.al _ _), F.eqv, G.eqv, M.lt, O.lt]
    unfold ltP
    by_cases h1 : a.1 = b.1
    · by_cases h2 : a.2 = b.2
      · simp [h1, h2, mi]
      · simp [h1, h2]
    · simp [h1]
  nn := fun a => by simp
  dep := fun a => by
    have h1 := hf a.1
    have h2 := hg a.2
    simp only [PyData.depth, PyData.depthAll]
    omega
theorem ltC_irr (c : Cell) : ltC c c = false := by unfold ltC; exact decide_eq_false (by omega)
theorem o_l : OrdD lD ltL := ordP q_c q_c o_c o_c ltC_irr (fun a => by rw [dep_c]; omega) (fun a => by rw [dep_c]; omega)
theorem rowLt_map {α : Type} [DecidableEq α] {f : α → PyData} {l : α → α → Bool} (F : EqD f) (O : OrdD f l) : ∀ xs ys : List α, PyProof.Rows.lexLt itemOrd (PySem.W.keyToksAll (xs.map f)) (PySem.W.keyToksAll (ys.map f)) = ltR l xs ys
  | [], [] => by
    rw [lex_irrefl]
    rfl
  | [], y :: ys => by
    rw [List.map_cons, PySem.W.toks_all_cons]
    simp only [List.map_nil, PySem.W.keyToksAll]
    rw [lex_diff (O := itemOrd) (by simp)]
    simp [itemLt, ltR]
  | x :: xs, [] => by
    rw [List.map_cons, PySem.W.toks_all_cons]
    simp only [List.map_nil, PySem.W.keyToksAll]
    rw [lex_diff (O := itemOrd) (by simp)]
    simp [itemLt, ltR]
  | x :: xs, y :: ys => by
    rw [List.map_cons, List.map_cons, PySem.W.dataLt_cons (O.al x y), F.eqv, O.lt, rowLt_map F O xs ys]
    show _ = if x = y then ltR l xs ys else l x y
    by_cases e : x = y <;> simp [e]
theorem ordT {α : Type} [DecidableEq α] {f : α → PyData} {l : α → α → Bool} (F : EqD f) (O : OrdD f l) (h : ∀ a, (f a).depth ≤ 6) : OrdD (fun xs : List α => PyData.tuple (xs.map f)) (ltR l) where
  al := fun a b => by simp only [alike]; exact alike_map O.al a b
  lt := fun a b => by rw [PySem.W.dataLt_tuple]; exact rowLt_map F O a b
  nn := fun a => by simp
  dep := (F.tuple h).dep
theorem ordL {α : Type} [DecidableEq α] {f : α → PyData} {l : α → α → Bool} (F : EqD f) (O : OrdD f l) (h : ∀ a, (f a).depth ≤ 6) : OrdD (fun xs : List α => PyData.list (xs.map f)) (ltR l) where
  al := fun a b => by simp only [alike]; exact alike_map O.al a b
  lt := fun a b => by rw [PySem.W.dataLt_list]; exact rowLt_map F O a b
  nn := fun a => by simp
  dep := (F.list h).dep
theorem o_ts : OrdD tsD (ltR ltC) := ordT q_c o_c fun a => by rw [dep_c]; omega
theorem o_cs : OrdD csD (ltR ltC) := ordL q_c o_c fun a => by rw [dep_c]; omega
theorem ltR_irr {α : Type} [DecidableEq α] {l : α → α → Bool} : ∀ xs : List α, ltR l xs xs = false
  | [] => rfl
  | x :: xs => by
    show (if x = x then ltR l xs xs else l x x) = false
    rw [if_pos rfl, ltR_irr xs]
/-- (n, standing) -/
def ncD (p : Int × List Cell) : PyData := .tuple [.int p.1, csD p.2]
theorem o_nc : OrdD ncD (ltP (fun a b => decide (a < b)) (ltR ltC)) := ordP q_int q_cs o_int o_cs ltR_irr (fun a => by simp [PyData.depth]) (fun a => by have := dep_cs a; omega)
theorem paired_rp {G : Hp} : ∀ {vs : List V} {ds : List PyData}, Paired (Rp G) vs ds → RpA G vs ds
  | _, _, .nil => .nil
  | _, _, .cons r t => .cons r (paired_rp t)
theorem rp_paired {G : Hp} : ∀ {vs : List V} {ds : List PyData}, RpA G vs ds → Paired (Rp G) vs ds
  | _, _, .nil => .nil
  | _, _, .cons r t => .cons r (rp_paired t)
section
variable {C : Addr} {γ : Env} {K : PySem.W.Frag} {ta tb te : TE} {α : Type} {f : α → PyData} {lt : α → α → Bool} {xs : List α} {x y : α}
/-- sorted(xs) -/
theorem e_sort (O : OrdD f lt) (h : EvL C γ ta (xs.map f)) (hz : xs.length ≤ 1000000) (hk : (∀ x ∈ xs, ∃ z r, f x = .tuple (z :: r)) ∨ ∀ x ∈ xs, ∀ r, f x ≠ .tuple r) :
    EvS C γ (tCB (rSortD K) (tCons ta tNil)) (.own (.lst ((xs.mergeSort fun a b => !lt b a).map f))) := fun G0 H0 σ G H Q z q =>
  h G0 H0 σ G H _ z fun a vs G1 H1 g1 h1 r1 => by
    refine ⟨a, vs, xs.map f, Rp G1, rfl, SqL.of h1, r1.dp g1.gh, rp_paired r1, AllAlike.of O.al, ?_, by rw [List.length_map]; exact hz, fun d hd => ?_, fun p ws hp hw => ?_⟩
    · rcases hk with hk | hk
      · refine .inl fun d hd => ?_
        obtain ⟨b, hb, rfl⟩ := List.mem_map.mp hd
        exact hk b hb
      · refine .inr fun d hd => ?_
        obtain ⟨b, hb, rfl⟩ := List.mem_map.mp hd
        exact ⟨O.nn b, hk b hb⟩
    · obtain ⟨b, _, rfl⟩ := List.mem_map.mp hd
      have := O.dep b
      omega
    · have e : (xs.map f).mergeSort (dataLe false id) = (xs.mergeSort fun a b => !lt b a).map f := by
        refine (PySem.W.sort_maps f fun a _ b _ => ?_).symm
        show (!lt b a) = (!dataLt (f b) (f a))
        rw [O.lt]
      rw [e] at hw
      exact q (.ref p) _ _ (g1.trans (Grow.own g1.gh hp)) ⟨p, _, rfl, upd_same, g1.gh.free hp, g1.hh.free hp, ws, rfl, paired_rp hw⟩
theorem e_geD (O : OrdD f lt) (ha : EvS C γ ta (.py (f x))) (hb : EvS C γ tb (.py (f y))) : EvS C γ (tOp (rGeD K) ta tb) (.py (.bool (!lt x y))) :=
  e_op ha hb fun v u G H Q e r1 r2 q => ⟨_, _, r1.dp e, r2.dp e, O.al x y, O.nn x, by have := O.dep x; omega, q _ G H (Grow.refl e) (by rw [O.lt]; exact Rp.bl _)⟩
theorem e_inT [DecidableEq α] (F : EqD f) (ha : EvS C γ ta (.py (f x))) (hb : EvS C γ tb (.py (.tuple (xs.map f)))) : EvS C γ (tOp (rInT K) ta tb) (.py (.bool (memB x xs))) :=
  e_op ha hb fun v u G H Q e r1 r2 q => ⟨_, _, r1.dp e, r2.dp e, F.shaped x, F.shapedT xs, q _ G H (Grow.refl e) (by rw [F.any]; exact Rp.bl _)⟩
theorem e_ninT [DecidableEq α] (F : EqD f) (ha : EvS C γ ta (.py (f x))) (hb : EvS C γ tb (.py (.tuple (xs.map f)))) : EvS C γ (tOp (rNotInT K) ta tb) (.py (.bool (!memB x xs))) :=
  e_op ha hb fun v u G H Q e r1 r2 q => ⟨_, _, r1.dp e, r2.dp e, F.shaped x, F.shapedT xs, q _ G H (Grow.refl e) (by rw [F.any]; exact Rp.bl _)⟩
end
end Pg

namespace Pg
/-! ## plain lists in order -/
/-- a strict total order, as a Bool -/
structure Sto {α : Type} (lt : α → α → Bool) : Prop where
  irr : ∀ a, lt a a = false
  tr : ∀ a b c, lt a b = true → lt b c = true → lt a c = true
  tri : ∀ a b, lt a b = false → lt b a = false → a = b
section
variable {α : Type} {lt : α → α → Bool}
theorem Sto.asym (O : Sto lt) {a b : α} (h : lt a b = true) : lt b a = false := by
  cases e : lt b a with
  | false => rfl
  | true =>
    have := O.tr a b a h e
    rw [O.irr] at this
    cases this
/-- two rows in order with the same members are one -/
theorem Sto.ext (O : Sto lt) : ∀ {l m : List α}, l.Pairwise (fun a b => lt a b = true) → m.Pairwise (fun a b => lt a b = true) → (∀ x, x ∈ l ↔ x ∈ m) → l = m
  | [], [], _, _, _ => rfl
  | [], b :: m, _, _, h => absurd ((h b).mpr List.mem_cons_self) (by simp)
  | a :: l, [], _, _, h => absurd ((h a).mp List.mem_cons_self) (by simp)
  | a :: l, b :: m, hl, hm, h => by
    obtain ⟨h1, h2⟩ := List.pairwise_cons.mp hl
    obtain ⟨h3, h4⟩ := List.pairwise_cons.mp hm
    have e : a = b := by
      rcases List.mem_cons.mp ((h a).mp List.mem_cons_self) with q | q
      · exact q
      · rcases List.mem_cons.mp ((h b).mpr List.mem_cons_self) with r | r
        · exact r.symm
        · have q1 := h3 a q
          have q2 := h1 b r
          rw [O.asym q1] at q2
          cases q2
    subst e
    have ne : ∀ x, x ∈ l → x ≠ a := fun x hx z => by
      have q := h1 x hx
      rw [z, O.irr] at q
      cases q
    have ne' : ∀ x, x ∈ m → x ≠ a := fun x hx z => by
      have q := h3 x hx
      rw [z, O.irr] at q
      cases q
    rw [Sto.ext O h2 h4 fun x => ⟨fun hx => (List.mem_cons.mp ((h x).mp (List.mem_cons_of_mem _ hx))).resolve_left (ne x hx), fun hx => (List.mem_cons.mp ((h x).mpr (List.mem_cons_of_mem _ hx))).resolve_left (ne' x hx)⟩]
/-- sorted: in order, with the members as they were -/
abbrev srt (lt : α → α → Bool) (l : List α) : List α := l.mergeSort fun a b => !lt b a
theorem srt_mem {l : List α} {x : α} : x ∈ srt lt l ↔ x ∈ l := List.mem_mergeSort
theorem srt_len (l : List α) : (srt lt l).length = l.length := List.length_mergeSort l
theorem Sto.le_tr (O : Sto lt) (a b c : α) (h1 : (!lt b a) = true) (h2 : (!lt c b) = true) : (!lt c a) = true := by
  have g1 : lt b a = false := by simpa using h1
  have g2 : lt c b = false := by simpa using h2
  cases e : lt c a with
  | false => rfl
  | true =>
    cases f : lt a b with
    | true =>
      have := O.tr c a b e f
      rw [g2] at this
      cases this
    | false =>
      have z := O.tri a b f g1
      subst z
      rw [g2] at e
      cases e
theorem Sto.le_tot (O : Sto lt) (a b : α) : ((!lt b a) || (!lt a b)) = true := by
  cases e : lt b a with
  | false => rfl
  | true => rw [O.asym e]; rfl
theorem Sto.srt_pw (O : Sto lt) (l : List α) : (srt lt l).Pairwise fun a b => (!lt b a) = true := List.pairwise_mergeSort (fun a b c => O.le_tr a b c) (fun a b => O.le_tot a b) l
theorem Sto.srt_strict (O : Sto lt) {l : List α} (n : l.Nodup) : (srt lt l).Pairwise fun a b => lt a b = true := by
  have n' : (srt lt l).Nodup := (List.mergeSort_perm l _).nodup_iff.mpr n
  refine List.Pairwise.imp₂ (R := fun a b => (!lt b a) = true) (S := fun a b => a ≠ b) (fun a b h1 h2 => ?_) (O.srt_pw l) n'
  have g : lt b a = false := by simpa using h1
  cases e : lt a b with
  | true => rfl
  | false => exact absurd (O.tri a b e g) h2
theorem Sto.srt_is (O : Sto lt) {l m : List α} (n : l.Nodup) (p : m.Pairwise fun a b => lt a b = true) (h : ∀ x, x ∈ m ↔ x ∈ l) : srt lt l = m :=
  O.ext (O.srt_strict n) p fun x => by rw [srt_mem, h]
theorem Sto.nodup (O : Sto lt) {l : List α} (p : l.Pairwise fun a b => lt a b = true) : l.Nodup :=
  p.imp fun {a b} h e => by
    rw [e, O.irr] at h
    cases h
end
/-- whole numbers, cells, leaps -/
theorem sto_int : Sto fun a b : Int => decide (a < b) where
  irr := fun a => decide_eq_false (Int.lt_irrefl a)
  tr := fun a b c h1 h2 => by
    have g1 := of_decide_eq_true h1
    have g2 := of_decide_eq_true h2
    exact decide_eq_true (by omega)
  tri := fun a b h1 h2 => by
    have g1 := of_decide_eq_false h1
    have g2 := of_decide_eq_false h2
    omega
theorem sto_c : Sto ltC where
  irr := ltC_irr
  tr := fun a b c h1 h2 => by
    have g1 := of_decide_eq_true h1
    have g2 := of_decide_eq_true h2
    exact decide_eq_true (by omega)
  tri := fun a b h1 h2 => by
    have g1 := of_decide_eq_false h1
    have g2 := of_decide_eq_false h2
    exact Prod.ext (by omega) (by omega)
theorem sto_p {α β : Type} [DecidableEq α] {l : α → α → Bool} {m : β → β → Bool} (L : Sto l) (M : Sto m) : Sto (ltP l m) where
  irr := fun a => by
    unfold ltP
    rw [if_pos rfl]
    exact M.irr _
  tr := fun a b c h1 h2 => by
    unfold ltP at h1 h2 ⊢
    by_cases e1 : a.1 = b.1
    · rw [if_pos e1] at h1
      by_cases e2 : b.1 = c.1
      · rw [if_pos e2] at h2
        rw [if_pos (e1.trans e2)]
        exact M.tr _ _ _ h1 h2
      · rw [if_neg e2] at h2
        rw [if_neg (fun z => e2 (e1.symm.trans z)), e1]
        exact h2
    · rw [if_neg e1] at h1
      by_cases e2 : b.1 = c.1
      · rw [← e2, if_neg e1]
        exact h1
      · rw [if_neg e2] at h2
        have h3 := L.tr _ _ _ h1 h2
        by_cases e3 : a.1 = c.1
        · rw [e3, L.irr] at h3
          cases h3
        · rw [if_neg e3]
          exact h3
  tri := fun a b h1 h2 => by
    unfold ltP at h1 h2
    by_cases e : a.1 = b.1
    · rw [if_pos e] at h1
      rw [if_pos e.symm] at h2
      exact Prod.ext e (M.tri _ _ h1 h2)
    · rw [if_neg e] at h1
      rw [if_neg (fun z => e z.symm)] at h2
      exact absurd (L.tri _ _ h1 h2) e
theorem sto_l : Sto ltL := sto_p sto_c sto_c
theorem sto_r {α : Type} [DecidableEq α] {l : α → α → Bool} (L : Sto l) : Sto (ltR l) where
  irr := ltR_irr
  tr := by
    intro a
    induction a with
    | nil =>
      intro b c h1 h2
      cases c with
      | nil => cases b <;> simp [ltR] at h1 h2
      | cons z zs => rfl
    | cons x xs ih =>
      intro b c h1 h2
      cases b with
      | nil => simp [ltR] at h1
      | cons y ys =>
        cases c with
        | nil => simp [ltR] at h2
        | cons z zs =>
          simp only [ltR] at h1 h2 ⊢
          by_cases e1 : x = y
          · rw [if_pos e1] at h1
            by_cases e2 : y = z
            · rw [if_pos e2] at h2
              rw [if_pos (e1.trans e2)]
              exact ih _ _ h1 h2
            · rw [if_neg e2] at h2
              rw [if_neg (fun q => e2 (e1.symm.trans q)), e1]
              exact h2
          · rw [if_neg e1] at h1
            by_cases e2 : y = z
            · rw [← e2, if_neg e1]
              exact h1
            · rw [if_neg e2] at h2
              have h3 := L.tr _ _ _ h1 h2
              by_cases e3 : x = z
              · rw [e3, L.irr] at h3
                cases h3
              · rw [if_neg e3]
                exact h3
  tri := by
    intro a
    induction a with
    | nil =>
      intro b h1 h2
      cases b with
      | nil => rfl
      | cons y ys => simp [ltR] at h1
    | cons x xs ih =>
      intro b h1 h2
      cases b with
      | nil => simp [ltR] at h2
      | cons y ys =>
        simp only [ltR] at h1 h2
        by_cases e : x = y
        · rw [if_pos e] at h1
          rw [if_pos e.symm] at h2
          rw [e, ih _ h1 h2]
        · rw [if_neg e] at h1
          rw [if_neg (fun z => e z.symm)] at h2
          exact absurd (L.tri _ _ h1 h2) e
end Pg

namespace Pg
open PySem PySem.Spec PyProof.Rows L2

/-! ## defs that stand in the text -/
/-- where the classes stand: Board (and its __init__), the four refusals and what is over them -/
structure Ad where
  K : PySem.W.Frag
  C : Addr
  fi : Addr
  pe : Addr
  bb : Addr
  bp : Addr
  nl : Addr
  bw : Addr
  fn : Addr
  t1 : Tok
  t2 : Tok
  t3 : Tok
structure Df (P : Program) (w : World) (K : PySem.W.Frag) (mg : Str → Option Value) (base : Heap) (x : Str) (ps : List Str) (k : Nat) (sp : Sp) (f : Addr) (fd : FuncData) : Prop where
  g : mg x = some (.ref f)
  kp : PySem.W.keepIn K (.ref f) = true
  b : Binds K fd ps []
  ok : FnOk P w K mg base (L2.CX P w) k f fd ps sp

/-! ### within a comprehension the written part is named -/
section
variable {X : Cx} {K : PySem.W.Frag}
theorem pe_fldK {e : Expr} {ta : TE} {f : Str} {pos : Pos} (hK : X.K = K) (he : PE X e ta) (hb : attributeBase e f X.env (eval e X.env) = eval e X.env) : PE X (.Attribute e f pos) (tFld K ta f) := hK ▸ pe_fld he hb
theorem op_inDK (hK : X.K = K) (hu : X.A.units + 65 < cLine) : OpR X (compareOp .In) (rInD K) := hK ▸ op_inD hu
theorem op_notInDK (hK : X.K = K) (hu : X.A.units + 65 < cLine) : OpR X (compareOp .NotIn) (rNotInD K) := hK ▸ op_notInD hu
theorem op_inTK (hK : X.K = K) (hu : X.A.units + 65 < cLine) : OpR X (compareOp .In) (rInT K) := hK ▸ op_inT hu
theorem op_notInTK (hK : X.K = K) (hu : X.A.units + 65 < cLine) : OpR X (compareOp .NotIn) (rNotInT K) := hK ▸ op_notInT hu
theorem op_eqDK (hK : X.K = K) (hu : X.A.units + 64 < cLine) : OpR X (compareOp .Eq) (rEqD K) := hK ▸ op_eqD hu
theorem op_neDK (hK : X.K = K) (hu : X.A.units + 64 < cLine) : OpR X (compareOp .NotEq) (rNeD K) := hK ▸ op_neD hu
theorem op_geDK (hK : X.K = K) (hu : X.A.units + 64 < cLine) : OpR X (compareOp .GtE) (rGeD K) := hK ▸ op_geD hu
theorem ix_listK (hK : X.K = K) : IxR X (rIxL K) := hK ▸ ix_list
theorem ix_tupK (hK : X.K = K) : IxR X (rIxT K) := hK ▸ ix_tup
theorem c_lenK (hK : X.K = K) : CallR X (.builtin "len") (rLn K) := hK ▸ c_len
theorem c_listK (hK : X.K = K) : CallR X (.type "list") (rLs K) := hK ▸ c_list
theorem c_tupleK (hK : X.K = K) : CallR X (.type "tuple") (rTp K) := hK ▸ c_tuple
theorem c_isiK (hK : X.K = K) : CallR X (.builtin "isinstance") (rIsi K) := hK ▸ call_isi
theorem mt_indexDK (hK : X.K = K) (hu : X.A.units + 65 < cLine) : MtR X "list.index" (rIndexD K) := hK ▸ mt_indexD hu
theorem pe_bmK {T : String} {name : Str} {id : String} {r : V → List V → Hp → VK → Prop} {o e : Expr} {es : List Expr} {to : TE} {t : TA} {apos cpos : Pos} (hK : X.K = K) (pa : PlainAttrs T) (sl : Slot T name id) (ty : typeOf (.builtin id) = pure (.type "method_descriptor")) (hm : MtR X id r) (ho : PE X o to) (ha : PA X (e :: es) t) (h1 : attributeBase o name X.env (eval o X.env) = eval o X.env := by rfl) (h2 : ((backTo cpos (starEach (e :: es) X.env)).all (fun x => !x.1) && (backToKw cpos (keywordEach [] X.env)).all (fun x => x.1.isSome) && decide ((e :: es).length + ([] : List Keyword).length + (if ([] : List Keyword).isEmpty then 0 else 1) < 30)) = true := by rfl) (h3 : (apos.endLine == cpos.line) = true := by rfl) (h4 : starEach (e :: es) X.env = (false, eval e X.env) :: starEach es X.env := by rfl) (h5 : (backTo cpos (starEach es X.env)).any (·.1) = false := by rfl) : PE X (.Call (.Attribute o name apos) (e :: es) [] cpos) (tBM K T r to t) := hK ▸ pe_bm pa sl ty hm ho ha h1 h2 h3 h4 h5
theorem pg_tupK {es : List Expr} {k : Nat} {t : TGs} {n : Nat} {pos : Pos} (hK : X.K = K) (hc : X.calm = true) (h : PGs X es t)
    (hn : (assignEach es X.env).length = n := by rfl) (hst : (assignEach es X.env).findIdx? (·.1) = none := by rfl) : PG X (.Tuple es k pos) (gTup K n t) := hK ▸ pg_tup hc h hn hst
end
/-! ### a board is made -/
def inBoard (c : Cell) : Bool := decide (0 ≤ c.1 ∧ c.1 < 8) && decide (0 ≤ c.2 ∧ c.2 < 8)
def risingF : List Cell → Bool
  | a :: b :: r => ltC a b && risingF (b :: r)
  | _ => true
def boardF (cs : List Cell) : Bool := decide (1 ≤ cs.length ∧ cs.length ≤ 24) && (risingF cs && cs.all inBoard)
def sp_Board (Z : Ad) : Sp := fun vs H Q E => ∃ (x dx a : Addr) (us : List V) (cs : List Cell), vs = [.ref x, .ref a] ∧ x ≠ a ∧ H x = some (.ins Z.C dx []) ∧ H a = some (.lst us) ∧ (∃ G, Same G H ∧ G x = none ∧ RpA G us (cs.map cD)) ∧ cs.length ≤ 1000 ∧
  (boardF cs = true → ∀ l H', H l = none → (∀ b o, H b = some o → b ≠ x → H' b = some o) → H' l = some (.lst us) → H' x = some (.ins Z.C dx [("cells", .ref l)]) → Q .non H') ∧
  (boardF cs = false → ∀ H', (∀ b o, H b = some o → H' b = some o) → E (.ref Z.bb) none H')
section
variable {X : Cx} {CX : CXT} {k : Nat} {f C : Addr} {fd : FuncData} {ps : List Str} {sp : Sp} {E : L2.St → XK} {x : Str} {p pos : Pos} {e : Expr} {es : List Expr} {t : TA}
def tMakeS (C : Addr) (sp : Sp) (E : L2.St → XK) (t : TA) : TE := fun σ H Q => t σ H fun vs H1 => ∀ x dx, H1 x = none → H1 dx = none → dx ≠ x →
  sp (.ref x :: vs) (upd (upd H1 dx (.own x)) x (.ins C dx [])) (fun v H2 => v = .non ∧ Q (.ref x) H2) (E σ)
/-- as an instance is made, what is raised being wished for at the caller's slots -/
theorem pe_makeS (M : Mk X.K C f) (F : FnOk X.prog X.w X.K X.mg X.base (L2.CX X.prog X.w) k f fd ps sp) (hr : Room (k + 1) X.A) (hg : Gl X x) (hm : X.mg x = some (.ref C)) (hb : Binds X.K fd ps []) {W : WX} (tk : Takes X W)
    (ha : PA X (e :: es) t) (hdb : (x == ("__debug__" : Str)) = false := by decide) (he : starEach (e :: es) X.env = (false, eval e X.env) :: starEach es X.env := by rfl) (hpl : (backTo pos (starEach es X.env)).any (·.1) = false := by rfl) :
    PE X (.Call (.Name x p) (e :: es) [] pos) (tMakeS C sp (WE W) t) := by
  refine ⟨fun pins s σ H Q I h => wpAny_Call_Name_kw (ld_glob I hg hm ?_ hdb)⟩
  refine PySem.W.callWith_K (h₀ := X.base) I.ok.mod.kin M.kp (thn (ha.run pos pins s σ H _ I h) fun us s1 hh => ?_) he hpl
  obtain ⟨vs, H1, I1, r, q⟩ := hh
  refine ⟨I1.kIn, ?_⟩
  have q1 := q (s1.heap.objs.size + 1) s1.heap.objs.size (I1.hok.fresh (Nat.le_succ _)) (I1.hok.fresh (Nat.le_refl _)) (Nat.ne_of_lt (Nat.lt_succ_self _))
  have I2 := Inv.made (C := C) I1
  have r2 : Vals (V.ref (s1.heap.objs.size + 1) :: vs) (Value.ref (s1.heap.objs.size + 1) :: us) := .cons rfl r
  have hl : (Value.ref (s1.heap.objs.size + 1) :: us).length = ps.length := by
    rw [← r2.length]
    exact F.len _ _ _ _ q1
  have hb2 := hb _ (Value.ref (s1.heap.objs.size + 1) :: us) I2.kIn (by rw [List.append_nil]; exact hl)
  rw [List.append_nil] at hb2
  have H2e : Same H1 (upd (upd H1 s1.heap.objs.size (.own (s1.heap.objs.size + 1))) (s1.heap.objs.size + 1) (.ins C s1.heap.objs.size [])) := fun b o z => by
    rw [upd_ne (ne_of_none z (I1.hok.fresh (Nat.le_succ _))), upd_ne (ne_of_none z (I1.hok.fresh (Nat.le_refl _)))]
    exact z
  refine wpAny_call (make_map (f := f) I1.kIn M.makes M.init (beq_iff_eq.mp M.fn) (codeAny_mono (F.run _ X.stack _ _ ⟨Value.ref (s1.heap.objs.size + 1) :: us, []⟩ _ _ _
    (WE W σ) (hr.make C us []) (I2.env0.make C us []) hb2 r2 q1) fun r s' hq' => ?_))
  · cases r with
    | error e => exact tk e s' (XE.of_call I2 (fun _ _ _ h => h) hq')
    | ok fl =>
      cases fl with
      | ret u =>
        obtain ⟨v, H', I3, rv, ev, q3⟩ := I2.after hq'
        subst ev
        exact ⟨rv, ⟨V.ref (s1.heap.objs.size + 1), H', I3, rfl, q3⟩⟩
      | next => exact False.elim hq'
      | brk => exact False.elim hq'
      | cont => exact False.elim hq'
end
section
variable {γ : Env} {K : PySem.W.Frag} {ta : TE} {Z : Ad} {cs : List Cell} {E : L2.St → XK}
theorem made_ne {H1 : Hp} {x dx a : Addr} {us : List V} (h : H1 a = some (.lst us)) (nx : H1 x = none) (ndx : H1 dx = none) : x ≠ a ∧ (upd (upd H1 dx (.own x)) x (.ins Z.C dx [])) a = some (.lst us) :=
  ⟨(ne_of_none h nx).symm, by rw [upd_ne (ne_of_none h nx), upd_ne (ne_of_none h ndx)]; exact h⟩
/-- Board(cells) of a board's cells -/
theorem e_make (h : EvL Z.C γ ta (cs.map cD)) (hz : cs.length ≤ 1000) (hb : boardF cs = true) : EvS Z.C γ (tMakeS Z.C (sp_Board Z) E (tCons ta tNil)) (.brd cs) := fun G0 H0 σ G H Q z q =>
  h G0 H0 σ G H _ z fun a us G1 H1 g1 h1 r1 x dx nx ndx nex => by
    obtain ⟨n1, n2⟩ := made_ne (Z := Z) h1 nx ndx
    have sm : Same H1 (upd (upd H1 dx (.own x)) x (.ins Z.C dx [])) := fun b o e => by
      rw [upd_ne (ne_of_none e nx), upd_ne (ne_of_none e ndx)]
      exact e
    refine ⟨x, dx, a, us, cs, rfl, n1, upd_same, n2, ⟨G1, g1.gh.trans sm, g1.gh.free nx, r1⟩, hz, fun _ l H' nl keep hl hx => ⟨rfl, ?_⟩, fun e => by rw [hb] at e; cases e⟩
    have nl1 : H1 l = none := sm.free nl
    have nlx : l ≠ x := fun e => by
      rw [e, upd_same] at nl
      cases nl
    have k1 : Same H1 H' := fun b o e => keep b o (sm b o e) (ne_of_none e nx)
    refine q (.ref x) (upd (upd G1 l (.lst us)) x (.ins Z.C dx [("cells", .ref l)])) H' (g1.trans ⟨?_, ?_, k1, ?_⟩) ⟨x, dx, l, us, rfl, upd_same, ?_, ?_⟩
    · exact (same_new (g1.gh.free nl1)).trans (same_new (by rw [upd_ne nlx.symm]; exact g1.gh.free nx))
    · intro b o e
      by_cases e1 : b = x
      · subst e1
        rw [upd_same] at e
        rw [hx]
        exact e
      · rw [upd_ne e1] at e
        by_cases e2 : b = l
        · subst e2
          rw [upd_same] at e
          rw [hl]
          exact e
        · rw [upd_ne e2] at e
          exact k1 b o (g1.gh b o e)
    · intro b e e'
      have b1 : b ≠ x := fun z => e' (z ▸ nx)
      have b2 : b ≠ l := fun z => e' (z ▸ nl1)
      rw [upd_ne b1, upd_ne b2]
      exact e
    · rw [upd_ne nlx, upd_same]
    · exact RpA.mono ((same_new (g1.gh.free nl1)).trans (same_new (by rw [upd_ne nlx.symm]; exact g1.gh.free nx))) r1
/-- Board(cells) of what is none -/
theorem x_make {W : WX} (h : EvL Z.C γ ta (cs.map cD)) (hz : cs.length ≤ 1000) (hb : boardF cs = false) : EvX Z.C γ W (tMakeS Z.C (sp_Board Z) (WE W) (tCons ta tNil)) (.exc Z.bb) := fun G0 H0 σ G H Q z q =>
  h G0 H0 σ G H _ z fun a us G1 H1 g1 h1 r1 x dx nx ndx nex => by
    obtain ⟨n1, n2⟩ := made_ne (Z := Z) h1 nx ndx
    have sm : Same H1 (upd (upd H1 dx (.own x)) x (.ins Z.C dx [])) := fun b o e => by
      rw [upd_ne (ne_of_none e nx), upd_ne (ne_of_none e ndx)]
      exact e
    refine ⟨x, dx, a, us, cs, rfl, n1, upd_same, n2, ⟨G1, g1.gh.trans sm, g1.gh.free nx, r1⟩, hz, (fun e => by rw [hb] at e; cases e), fun _ H' keep => ?_⟩
    have k1 : Same H1 H' := sm.trans keep
    exact q G1 H' (g1.trans ⟨Same.refl _, g1.gh.trans k1, k1, fun _ e _ => e⟩)
end
end Pg

namespace Pg
open PySem PySem.Spec PyProof.Rows L2

/-! ## isinstance, comparisons of one's own lists, clear -/
section
variable {C : Addr} {γ : Env} {K : PySem.W.Frag} {ta tb tc te : TE} {d e : PyData} {ds es : List PyData} {s : Sl} {b : Bool}
def tyN : PyData → Option String
  | .none => some "NoneType"
  | .bool _ => some "bool"
  | .int _ => some "int"
  | .str _ => some "str"
  | .list _ => some "list"
  | .tuple _ => some "tuple"
  | _ => none
theorem Rp.tyX {G H : Hp} (e : Same G H) {v : V} {d : PyData} {n : String} (r : Rp G v d) (h : tyN d = some n) : TyX K H v (.type n) := by
  cases r with
  | non =>
    cases h
    exact .base .non
  | bl b =>
    cases h
    exact .base (.bl b)
  | int i =>
    cases h
    exact .base (.int i)
  | str x =>
    cases h
    exact .base (.str x)
  | lst h1 _ =>
    cases h
    exact .base (.lst (e _ _ h1))
  | tup h1 _ =>
    cases h
    exact .base (.tup (e _ _ h1))
/-- isinstance(e, a built-in class) -/
theorem e_isi {n m : String} (h : EvS C γ ta (.py d)) (h1 : tyN d = some n) (h2 : L2.kitB n m = some b) : EvS C γ (tCB (rIsi K) (tCons ta (tCons (tC (.ty m)) tNil))) (.py (.bool b)) := fun G0 H0 σ G H Q x q =>
  h G0 H0 σ G H _ x fun v G1 H1 g1 r1 => ⟨v, .ty m, .type n, .type m, b, rfl, .ty m, Rp.tyX g1.gh r1 h1, L2.kit_ty h2, q _ G1 H1 g1 (Rp.bl b)⟩
theorem e_isiL (h : EvL C γ ta ds) : EvS C γ (tCB (rIsi K) (tCons ta (tCons (tC (.ty "list")) tNil))) (.py (.bool true)) := fun G0 H0 σ G H Q x q =>
  h G0 H0 σ G H _ x fun a vs G1 H1 g1 h1 r1 => ⟨.ref a, .ty "list", .type "list", .type "list", true, rfl, .ty "list", .base (.lst h1), L2.kit_ty (by decide +kernel), q _ G1 H1 g1 (Rp.bl true)⟩
theorem e_eqL {α : Type} [DecidableEq α] {f : α → PyData} {xs ys : List α} (F : EqD f) (ha : EvL C γ ta (xs.map f)) (hb : EvL C γ tb (ys.map f)) : EvS C γ (tOp (rEqD K) ta tb) (.py (.bool (decide (xs = ys)))) := fun G0 H0 σ G H Q z q =>
  ha G0 H0 σ G H _ z fun a vs G1 H1 g1 h1 r1 => hb G0 H0 σ G1 H1 _ (z.grow g1) fun c ws G2 H2 g2 h2 r2 =>
    ⟨_, _, Dp.lst (SqL.of (g2.hh _ _ h1)) ((RpA.mono g2.gg r1).dp g2.gh), Dp.lst (SqL.of h2) (r2.dp g2.gh), F.shapedL xs, F.shapedL ys, q _ G2 H2 (g1.trans g2) (by
      rw [show PyData.eqv (.list (xs.map f)) (.list (ys.map f)) = PyData.eqvAll (xs.map f) (ys.map f) by simp only [PyData.eqv], F.eqvAll]
      exact Rp.bl _)⟩
theorem e_neL {α : Type} [DecidableEq α] {f : α → PyData} {xs ys : List α} (F : EqD f) (ha : EvL C γ ta (xs.map f)) (hb : EvL C γ tb (ys.map f)) : EvS C γ (tOp (rNeD K) ta tb) (.py (.bool (!decide (xs = ys)))) := fun G0 H0 σ G H Q z q =>
  ha G0 H0 σ G H _ z fun a vs G1 H1 g1 h1 r1 => hb G0 H0 σ G1 H1 _ (z.grow g1) fun c ws G2 H2 g2 h2 r2 =>
    ⟨_, _, Dp.lst (SqL.of (g2.hh _ _ h1)) ((RpA.mono g2.gg r1).dp g2.gh), Dp.lst (SqL.of h2) (r2.dp g2.gh), F.shapedL xs, F.shapedL ys, q _ G2 H2 (g1.trans g2) (by
      rw [show PyData.eqv (.list (xs.map f)) (.list (ys.map f)) = PyData.eqvAll (xs.map f) (ys.map f) by simp only [PyData.eqv], F.eqvAll]
      exact Rp.bl _)⟩
variable {G0 H0 : Hp} {P : Post} {tu : TS}
theorem r_clear (i : Nat) (hi : γ[i]? = some (.own (.lst ds))) (h : P.nx (γ.set i (.own (.lst [])))) : Run C G0 H0 γ (tDrop (tBM0 K "list" rClear (tVar i))) P := fun σ G H D x q => by
  obtain ⟨v, h1, a, o, rfl, h3, _, _, vs, rfl, h6⟩ := x.get hi (by simp)
  exact ⟨_, h1, .inl ⟨rfl, _, SqL.of h3⟩, a, vs, rfl, rfl, h3, q.nx _ _ _ _ h (Same.refl _) (x.write hi h1 ⟨_, rfl, .nil⟩)⟩
theorem r_pop (i : Nat) (hi : γ[i]? = some (.own (.lst (ds ++ [d])))) (h : P.nx (γ.set i (.own (.lst ds)))) : Run C G0 H0 γ (tDrop (tBM0 K "list" rPop (tVar i))) P := fun σ G H D x q => by
  obtain ⟨v, h1, a, o, rfl, h3, _, _, vs, rfl, h6⟩ := x.get hi (by simp)
  have hl := h6.len
  rw [List.length_append, List.length_singleton] at hl
  have hv : vs[vs.length - 1]? = some (vs[vs.length - 1]'(by omega)) := List.getElem?_eq_getElem _
  refine ⟨_, h1, .inl ⟨rfl, _, SqL.of h3⟩, a, vs, _, rfl, rfl, h3, hv, q.nx _ _ _ _ h (Same.refl _) (x.write hi h1 ⟨_, rfl, ?_⟩)⟩
  rw [List.dropLast_eq_take]
  have h7 := h6.tk (vs.length - 1)
  rw [hl, Nat.add_sub_cancel, List.take_left'] at h7
  · rw [hl, Nat.add_sub_cancel]
    exact h7
  · rfl
end

section
variable {C : Addr} {γ : Env} {K : PySem.W.Frag} {ta tb : TE} {ds : List PyData} {G0 H0 : Hp} {P : Post} {ts : TS}
/-- how often a whole number stands in a list -/
theorem e_count {ns : List Int} {k : Int} (ha : EvL C γ ta (ns.map .int)) (hb : EvS C γ tb (.py (.int k))) : EvS C γ (tBM K "list" (rCntI K) ta (tCons tb tNil)) (.py (.int ((ns.count k : Nat) : Int))) := fun G0 H0 σ G H Q z q =>
  ha G0 H0 σ G H _ z fun a vs G1 H1 g1 h1 r1 => ⟨.inl ⟨rfl, vs, SqL.of h1⟩, hb G0 H0 σ G1 H1 _ (z.grow g1) fun u G2 H2 g2 r2 => by
    cases rp_int r2
    exact ⟨a, ns, k, rfl, rfl, by rw [← r1.ints]; exact SqL.of (g2.hh _ _ h1), q _ G2 H2 (g1.trans g2) (Rp.int _)⟩⟩
/-- one's own list in a slot freezes -/
theorem Stt.frz {σ : L2.St} {G H : Hp} (x : Stt C G0 H0 γ σ G H) (i : Nat) (hi : γ[i]? = some (.own (.lst ds))) : ∃ G', Same G G' ∧ Stt C G0 H0 (γ.set i (.py (.list ds))) σ G' H := by
  obtain ⟨v, h1, a, o, rfl, h3, h4, h5, vs, rfl, h6⟩ := x.get hi (by simp)
  have e : Same G (upd G a (.lst vs)) := same_new h4
  refine ⟨_, e, x.gr.frz h5 h4 h3, by rw [List.length_set]; exact x.ln, fun j t h => ?_, fun j k u w b q1 q2 q3 q4 => ?_⟩
  · by_cases z : j = i
    · subst z
      have hj : j < γ.length := by
        have := (List.getElem?_eq_some_iff.mp h).1
        rw [List.length_set] at this
        exact this
      rw [List.getElem?_set_self hj] at h
      cases h
      exact .inr ⟨_, h1, Rp.lst upd_same (RpA.mono e h6)⟩
    · rw [List.getElem?_set_ne (Ne.symm z)] at h
      rcases x.ok j t h with y | ⟨u, u1, u2⟩
      · exact .inl y
      · refine .inr ⟨u, u1, ?_⟩
        cases t with
        | no => trivial
        | py d => exact Rp.mono e u2
        | brd cs => exact Brd.mono e u2
        | pr p m => exact m _ _ _ e u2
        | nw p m k => exact m _ _ _ _ e u2
        | own w =>
          obtain ⟨b, o', rfl, b2, b3, b4, b5⟩ := u2
          refine ⟨b, o', rfl, b2, ?_, b4, OwnOk.mono e b5⟩
          rw [upd_ne (fun q => z ?_)]
          · exact b3
          · subst q
            exact x.ap j i w _ _ h hi u1 h1
  · have ne : ∀ (m : Nat) (w : Own), (γ.set i (.py (.list ds)))[m]? = some (.own w) → γ[m]? = some (.own w) := fun m w h => by
      by_cases z : m = i
      · subst z
        have hj : m < γ.length := by
          have := (List.getElem?_eq_some_iff.mp h).1
          rw [List.length_set] at this
          exact this
        rw [List.getElem?_set_self hj] at h
        cases h
      · rw [List.getElem?_set_ne (Ne.symm z)] at h
        exact h
    exact x.ap j k u w b (ne j u q1) (ne k w q2) q3 q4
theorem r_frz (i : Nat) (hi : γ[i]? = some (.own (.lst ds))) (h : Run C G0 H0 (γ.set i (.py (.list ds))) ts P) : Run C G0 H0 γ ts P := fun σ G H D x q => by
  obtain ⟨G', e, y⟩ := x.frz i hi
  exact h σ G' H D y (q.up e)
end

section
variable {C : Addr} {γ : Env} {K : PySem.W.Frag} {ta tb te : TE} {d : PyData} {ds : List PyData}
/-! ### parts of lists; one's own list lent to what tells flat things -/
theorem e_cutTo {n : Nat} {i : Int} (h : EvL C γ ta ds) (hb : EvS C γ tb (.py (.int i))) (hi : i = n) : EvS C γ (tSl (rSlL K) ta tNoPart (tPart tb)) (.own (.lst (ds.take n))) := (e_cut h o_none (o_some hb)).to (by
  rw [hi, HT.sIx_none, HT.sIx_nat, List.drop_zero, Nat.sub_zero, ← List.take_eq_take_min])
theorem e_cutFrom {n : Nat} {i : Int} (h : EvL C γ ta ds) (hb : EvS C γ tb (.py (.int i))) (hi : i = n) : EvS C γ (tSl (rSlL K) ta (tPart tb) tNoPart) (.own (.lst (ds.drop n))) := (e_cut h (o_some hb) o_none).to (by
  rw [hi, HT.sIx_none, HT.sIx_nat]
  congr 2
  by_cases hn : n ≤ ds.length
  · rw [Nat.min_eq_left hn]
    exact List.take_of_length_le (by rw [List.length_drop]; omega)
  · rw [Nat.min_eq_right (by omega), List.drop_of_length_le (by omega : ds.length ≤ n), List.drop_of_length_le (Nat.le_refl _)]
    exact List.take_nil)
theorem e_cutLast {n : Nat} {i : Int} (h : EvL C γ ta ds) (hb : EvS C γ tb (.py (.int i))) (hi : i = -(n : Int)) (hn : 0 < n) : EvS C γ (tSl (rSlL K) ta (tPart tb) tNoPart) (.own (.lst (ds.drop (ds.length - n)))) := (e_cut h (o_some hb) o_none).to (by
  rw [hi, HT.sIx_none]
  have e : HT.sIx ds.length 0 (some (-(n : Int))) = ds.length - n := by
    show (if -(n : Int) < 0 then (-(n : Int) + ds.length).toNat else _) = _
    rw [if_pos (by omega)]
    omega
  rw [e]
  congr 2
  exact List.take_of_length_le (by rw [List.length_drop]; omega))
theorem at_d {β : Type} {ds : List β} {z : Int} {d : β} (j : Nat) (e : z = j) (h : ds[j]? = some d) : atI ds z = some d := by
  rw [e]
  exact atI_nat h
theorem RpA.rep {G : Hp} {vs : List V} {ds : List PyData} (r : RpA G vs ds) : ∀ n : Nat, RpA G (List.replicate n vs).flatten (List.replicate n ds).flatten
  | 0 => .nil
  | n + 1 => by
    rw [List.replicate_succ, List.replicate_succ, List.flatten_cons, List.flatten_cons]
    exact r.app (RpA.rep r n)
/-- xs * n -/
theorem e_rep {n : Nat} {i : Int} (ha : EvS C γ ta (.own (.lst ds))) (hb : EvS C γ tb (.py (.int i))) (hi : i = n) (hz : ds.length * n ≤ 1000000) (hn : n ≤ 1000000) : EvS C γ (tOp rRep ta tb) (.own (.lst (List.replicate n ds).flatten)) := fun G0 H0 σ G H Q x q =>
  ha G0 H0 σ G H _ x fun v G1 H1 g1 r1 => by
    obtain ⟨a, o, rfl, h3, h4, h5, vs, rfl, h6⟩ := r1
    refine hb G0 H0 σ G1 H1 _ (x.grow g1) fun u G2 H2 g2 r2 => ?_
    cases rp_int r2
    refine ⟨a, i, vs, rfl, rfl, g2.hh _ _ h3, by omega, by omega, ?_, fun p hp => ?_⟩
    · rw [hi, h6.len]
      exact small (by simpa using hz)
    · refine q (.ref p) _ _ ((g1.trans g2).trans (Grow.own g2.gh hp)) ⟨p, _, rfl, upd_same, g2.gh.free hp, ((g1.trans g2).hh).free hp, _, rfl, ?_⟩
      have e : i.toNat = n := by omega
      rw [e]
      exact (RpA.mono g2.gg h6).rep n
/-- data that no object stands behind -/
def flat : PyData → Bool
  | .none => true
  | .bool _ => true
  | .int _ => true
  | .str _ => true
  | _ => false
theorem Rp.flat {G G' : Hp} {v : V} {d : PyData} (r : Rp G v d) (h : flat d = true) : Rp G' v d := by
  cases r with
  | non => exact .non
  | bl b => exact .bl b
  | int i => exact .int i
  | str x => exact .str x
  | lst _ _ => cases h
  | tup _ _ => cases h
theorem e_lend (i : Nat) (hi : γ[i]? = some (.own (.lst ds))) (h : EvS C (γ.set i (.py (.list ds))) te (.py d)) (hd : flat d = true) : EvS C γ te (.py d) := fun G0 H0 σ G H Q x q => by
  obtain ⟨G1, e1, y⟩ := x.frz i hi
  exact h G0 H0 σ G1 H _ y fun v G' H' g r => q v G H' ⟨Same.refl G, e1.trans (g.gg.trans g.gh), g.hh, fun _ z _ => z⟩ (Rp.flat r hd)
theorem t_lend {t : TT} {b : Bool} (i : Nat) (hi : γ[i]? = some (.own (.lst ds))) (h : EvB C (γ.set i (.py (.list ds))) t b) : EvB C γ t b := fun G0 H0 σ G H Q x q => by
  obtain ⟨G1, e1, y⟩ := x.frz i hi
  exact h G0 H0 σ G1 H _ y fun G' H' g => q G H' ⟨Same.refl G, e1.trans (g.gg.trans g.gh), g.hh, fun _ z _ => z⟩
end

section
variable {C : Addr} {γ : Env} {K : PySem.W.Frag} {ta tb te : TE} {d : PyData} {ds : List PyData} {G0 H0 : Hp} {P : Post} {tu : TS} {a b : Bool}
/-- a, b, c = e1, e2, e3 -/
theorem r_par3 {i j l : Nat} {tA : TA} {d1 d2 d3 : PyData} (he : EvP C γ tA [d1, d2, d3]) (h : P.nx (((γ.set i (.py d1)).set j (.py d2)).set l (.py d3))) : Run C G0 H0 γ (tPar3 i j l tA) P := fun σ G H D x q =>
  he G0 H0 σ G H _ x fun vs G' H' g r => by
    cases r with
    | @cons u _ _ _ r1 r =>
      cases r with
      | @cons v _ _ _ r2 r =>
        cases r with
        | @cons w _ _ _ r3 r =>
          cases r
          have y := x.set (i := i) g (show SlOk C H G' H' u (.py d1) from r1)
          have z := y.set (i := j) (Grow.refl y.same) (show SlOk C H' G' H' v (.py d2) from r2)
          have t := z.set (i := l) (Grow.refl z.same) (show SlOk C H' G' H' w (.py d3) from r3)
          exact ⟨u, v, w, rfl, q.nx _ _ _ _ h g.gg t⟩
theorem s_par3 {i j l : Nat} {tA : TA} (d1 d2 d3 : PyData) (he : EvP C γ tA [d1, d2, d3]) (h : Run C G0 H0 (((γ.set i (.py d1)).set j (.py d2)).set l (.py d3)) tu P) : Run C G0 H0 γ (tSeq (tPar3 i j l tA) tu) P := r_seq (r_par3 he h)
/-- is not, of truth values and of None -/
theorem e_notBl (ha : EvS C γ ta (.py (.bool a))) (hb : EvS C γ tb (.py (.bool b))) : EvS C γ (tOp rNotB ta tb) (.py (.bool (!decide (a = b)))) :=
  e_op ha hb fun x y G H Q e r1 r2 q => ⟨a, b, rp_bl r1, rp_bl r2, q _ G H (Grow.refl e) (Rp.bl _)⟩
def isN : PyData → Bool
  | .none => true
  | _ => false
theorem e_notN (ha : EvS C γ ta (.py d)) (hb : EvS C γ tb (.py .none)) : EvS C γ (tOp rNotN ta tb) (.py (.bool (!isN d))) :=
  e_op ha hb fun x y G H Q e r1 r2 q => by
    cases r2
    refine ⟨rfl, q _ G H (Grow.refl e) ?_⟩
    have z : decide (x = .non) = isN d := by
      cases r1 with
      | non => rfl
      | bl b => rfl
      | int i => rfl
      | str x => rfl
      | lst h _ => rfl
      | tup h _ => rfl
    rw [z]
    exact Rp.bl _
theorem e_eqB (ha : EvS C γ ta (.py (.bool a))) (hb : EvS C γ tb (.py (.bool b))) : EvS C γ (tOp rEq ta tb) (.py (.bool (decide (a = b)))) :=
  e_op ha hb fun x y G H Q e r1 r2 q => by
    cases rp_bl r1
    cases rp_bl r2
    refine ⟨rfl, q _ G H (Grow.refl e) ?_⟩
    have z : decide (V.bl a = V.bl b) = decide (a = b) := by
      cases a <;> cases b <;> rfl
    rw [z]
    exact Rp.bl _
theorem e_pow {i j : Int} (ha : EvS C γ ta (.py (.int i))) (hb : EvS C γ tb (.py (.int j))) (h : 0 ≤ j ∧ j ≤ 1000000 ∧ i.natAbs < 2 ^ 64) : EvS C γ (tOp (rI CPow fun i j => .int (i ^ j.toNat)) ta tb) (.py (.int (i ^ j.toNat))) :=
  e_op ha hb fun x y G H Q e r1 r2 q => ⟨i, j, rp_int r1, rp_int r2, h, q _ G H (Grow.refl e) (Rp.int _)⟩
def minF : List Int → Int
  | [] => 0
  | [x] => x
  | x :: r => if x ≤ minF r then x else minF r
def maxF : List Int → Int
  | [] => 0
  | [x] => x
  | x :: r => if maxF r ≤ x then x else maxF r
theorem minF_spec : ∀ {ns : List Int}, ns ≠ [] → minF ns ∈ ns ∧ ∀ y, y ∈ ns → minF ns ≤ y
  | [], h => absurd rfl h
  | [x], _ => ⟨List.mem_cons_self, fun y hy => by
      have : y = x := by simpa using hy
      rw [this]
      exact Int.le_refl _⟩
  | x :: z :: r, _ => by
    obtain ⟨h1, h2⟩ := minF_spec (ns := z :: r) (by simp)
    show (if x ≤ minF (z :: r) then x else minF (z :: r)) ∈ _ ∧ ∀ y, _ → (if x ≤ minF (z :: r) then x else minF (z :: r)) ≤ y
    split
    · next h =>
      refine ⟨List.mem_cons_self, fun y hy => ?_⟩
      rcases List.mem_cons.mp hy with e | e
      · rw [e]
        exact Int.le_refl _
      · exact Int.le_trans h (h2 y e)
    · next h =>
      refine ⟨List.mem_cons_of_mem _ h1, fun y hy => ?_⟩
      rcases List.mem_cons.mp hy with e | e
      · rw [e]
        omega
      · exact h2 y e
theorem maxF_spec : ∀ {ns : List Int}, ns ≠ [] → maxF ns ∈ ns ∧ ∀ y, y ∈ ns → y ≤ maxF ns
  | [], h => absurd rfl h
  | [x], _ => ⟨List.mem_cons_self, fun y hy => by
      have : y = x := by simpa using hy
      rw [this]
      exact Int.le_refl _⟩
  | x :: z :: r, _ => by
    obtain ⟨h1, h2⟩ := maxF_spec (ns := z :: r) (by simp)
    show (if maxF (z :: r) ≤ x then x else maxF (z :: r)) ∈ _ ∧ ∀ y, _ → y ≤ (if maxF (z :: r) ≤ x then x else maxF (z :: r))
    split
    · next h =>
      refine ⟨List.mem_cons_self, fun y hy => ?_⟩
      rcases List.mem_cons.mp hy with e | e
      · rw [e]
        exact Int.le_refl _
      · exact Int.le_trans (h2 y e) h
    · next h =>
      refine ⟨List.mem_cons_of_mem _ h1, fun y hy => ?_⟩
      rcases List.mem_cons.mp hy with e | e
      · rw [e]
        omega
      · exact h2 y e
theorem e_min {ns : List Int} (h : EvL C γ ta (ns.map .int)) (hn : ns ≠ []) : EvS C γ (tCB (rMin K) (tCons ta tNil)) (.py (.int (minF ns))) := fun G0 H0 σ G H Q x q =>
  h G0 H0 σ G H _ x fun a vs G1 H1 g1 h1 r1 => ⟨a, ns, rfl, by rw [← r1.ints]; exact SqL.of h1, List.length_pos_iff.mpr hn, fun m hm hy => by
    obtain ⟨s1, s2⟩ := minF_spec hn
    have e : m = minF ns := Int.le_antisymm (hy _ s1) (s2 _ hm)
    rw [e]
    exact q _ G1 H1 g1 (Rp.int _)⟩
theorem e_max {ns : List Int} (h : EvL C γ ta (ns.map .int)) (hn : ns ≠ []) : EvS C γ (tCB (rMax K) (tCons ta tNil)) (.py (.int (maxF ns))) := fun G0 H0 σ G H Q x q =>
  h G0 H0 σ G H _ x fun a vs G1 H1 g1 h1 r1 => ⟨a, ns, rfl, by rw [← r1.ints]; exact SqL.of h1, List.length_pos_iff.mpr hn, fun m hm hy => by
    obtain ⟨s1, s2⟩ := maxF_spec hn
    have e : m = maxF ns := Int.le_antisymm (s2 _ hm) (hy _ s1)
    rw [e]
    exact q _ G1 H1 g1 (Rp.int _)⟩
/-- a list of two things -/
theorem EqD.pairL {α β : Type} [DecidableEq α] [DecidableEq β] {f : α → PyData} {g : β → PyData} (F : EqD f) (F' : EqD g) (h : ∀ a, (f a).depth ≤ 6) (h' : ∀ a, (g a).depth ≤ 6) : EqD fun x : α × β => PyData.list [f x.1, g x.2] where
  eqv := fun a b => by
    obtain ⟨x, y⟩ := a
    obtain ⟨z, w⟩ := b
    simp only [PyData.eqv, PyData.eqvAll, Bool.and_true, F.eqv, F'.eqv]
    by_cases h1 : x = z <;> by_cases h2 : y = w <;> simp [h1, h2]
  lay := fun a => by simp only [PyData.canLay0, PyData.canLayAll0, F.lay, F'.lay, Bool.and_self]
  dep := fun a => by
    have h1 := h a.1
    have h2 := h' a.2
    simp only [PyData.depth, PyData.depthAll]
    omega
theorem dep_is (ns : List Int) : (isD ns).depth ≤ 2 := by
  have : PyData.depthAll (ns.map PyData.int) ≤ 1 := by
    induction ns with
    | nil => simp [PyData.depthAll]
    | cons x xs ih =>
      simp only [List.map_cons, PyData.depthAll, PyData.depth]
      omega
  simp only [isD, PyData.depth]
  omega
theorem dep_ls (ls : List Leap) : (lsD ls).depth ≤ 3 := by
  have : PyData.depthAll (ls.map lD) ≤ 2 := by
    induction ls with
    | nil => simp [PyData.depthAll]
    | cons x xs ih =>
      have := dep_l x
      simp only [List.map_cons, PyData.depthAll]
      omega
  simp only [lsD, PyData.depth]
  omega
theorem q_wp : EqD fun x : List Int × List Cell => PyData.list [isD x.1, csD x.2] := q_is.pairL q_cs (fun a => by have := dep_is a; omega) fun a => by have := dep_cs a; omega
theorem q_pp : EqD fun x : List Cell × List Cell => PyData.list [csD x.1, csD x.2] := q_cs.pairL q_cs (fun a => by have := dep_cs a; omega) fun a => by have := dep_cs a; omega
theorem q_pr : EqD fun x : List Cell × List Leap => PyData.list [csD x.1, lsD x.2] := q_cs.pairL q_ls (fun a => by have := dep_cs a; omega) fun a => by have := dep_ls a; omega
theorem q_bl : EqD PyData.bool where
  eqv := fun a b => by
    simp only [PyData.eqv]
    cases a <;> cases b <;> rfl
  lay := fun a => by simp only [PyData.canLay0]
  dep := fun a => by simp only [PyData.depth]; omega
end

/-! ## the law's own head -/
theorem rp_bool {G : Hp} {v : V} {b : Bool} (r : Rp G v (.bool b)) : v = .bl b := rp_bl r
structure Dm (P : Program) (w : World) (K : PySem.W.Frag) (mg : Str → Option Value) (base : Heap) (ps : List Str) (k : Nat) (sp : Sp) (f : Addr) (fd : FuncData) : Prop where
  b : Binds K fd ps []
  ok : FnOk P w K mg base (L2.CX P w) k f fd ps sp
/-- a def that is never called -/
def spNo : Sp := fun _ _ _ _ => False
theorem no_ok {P : Program} {w : World} {K : PySem.W.Frag} {mg : Str → Option Value} {base : Heap} {CX : CXT} {k : Nat} {f : Addr} {fd : FuncData} {ps : List Str} : FnOk P w K mg base CX k f fd ps spNo :=
  ⟨fun _ _ _ _ h => False.elim h, fun _ _ _ _ _ _ _ _ _ _ _ _ _ h => False.elim h⟩
def spLaw (K : PySem.W.Frag) : Sp := fun vs H Q _ => ∃ (a : Addr) (ns : List Int), vs = [.ref a] ∧ SqL K H a (ns.map V.int) ∧ ns.length ≤ 63 ∧ ∀ H', Q (.bl true) H'
theorem law_ok {P : Program} {w : World} {K : PySem.W.Frag} {mg : Str → Option Value} {base : Heap} {CX : CXT} {k : Nat} {f : Addr} {fd : FuncData} {ps : List Str} {sp sp' : Sp} (F : FnOk P w K mg base CX k f fd ps sp) (h : ∀ vs H Q E, sp' vs H Q E → sp vs H Q E) : FnOk P w K mg base CX k f fd ps sp' :=
  ⟨fun vs H Q E q => F.len vs H Q E (h _ _ _ _ q), fun A outer s H args us vs Q E hr he hb hv q => F.run A outer s H args us vs Q E hr he hb hv (h _ _ _ _ q)⟩
end Pg

namespace Pg
open PySem PySem.Spec PyProof.Rows L2

/-! ## the game in plain lists -/
theorem rising_iff : ∀ cs : List Cell, risingF cs = true ↔ ∀ (j : Nat) (a b : Cell), cs[j]? = some a → cs[j + 1]? = some b → ltC a b = true
  | [] => by simp [risingF]
  | [x] => by simp [risingF]
  | x :: y :: r => by
    have ih := rising_iff (y :: r)
    simp only [risingF, Bool.and_eq_true]
    constructor
    · rintro ⟨h1, h2⟩ j a b ha hb
      cases j with
      | zero =>
        simp at ha hb
        subst ha hb
        exact h1
      | succ j => exact ih.mp h2 j a b (by simpa using ha) (by simpa using hb)
    · intro h
      exact ⟨h 0 x y rfl rfl, ih.mpr fun j a b ha hb => h (j + 1) a b (by simpa using ha) (by simpa using hb)⟩
theorem ltC_of {a b : Cell} (h : a.1 < b.1 ∨ a.1 = b.1 ∧ a.2 < b.2) : ltC a b = true := decide_eq_true h
theorem rising_pw : ∀ {cs : List Cell}, risingF cs = true ↔ cs.Pairwise fun a b => ltC a b = true
  | [] => by simp [risingF]
  | [x] => by simp [risingF]
  | x :: y :: r => by
    have ih := rising_pw (cs := y :: r)
    simp only [risingF, Bool.and_eq_true]
    rw [List.pairwise_cons, ih]
    constructor
    · rintro ⟨h1, h2⟩
      refine ⟨fun z hz => ?_, h2⟩
      rcases List.mem_cons.mp hz with e | e
      · rw [e]
        exact h1
      · exact sto_c.tr _ _ _ h1 ((List.pairwise_cons.mp h2).1 z e)
    · rintro ⟨h1, h2⟩
      exact ⟨h1 y List.mem_cons_self, h2⟩
def betw (l : Leap) : Cell := ((l.1.1 + l.2.1) / 2, (l.1.2 + l.2.2) / 2)
def absI (i : Int) : Int := if i < 0 then -i else i
def apartF (l : Leap) : Cell := (absI (l.1.1 - l.2.1), absI (l.1.2 - l.2.2))
def isLeapF (cs : List Cell) (l : Leap) : Bool := memB (apartF l) [(0, 2), (2, 0)] && (memB l.1 cs && (memB l.2 cs && memB (betw l) cs))
def toF (c : Cell) : List Cell := [(c.1 - 2, c.2), (c.1, c.2 - 2), (c.1, c.2 + 2), (c.1 + 2, c.2)]
def leapsAt (cs : List Cell) (c : Cell) : List Leap := ((toF c).filter fun t => isLeapF cs (c, t)).map fun t => (c, t)
def leapsF (cs : List Cell) : List Leap := cs.flatMap (leapsAt cs)
theorem leapsAt_len (cs : List Cell) (c : Cell) : (leapsAt cs c).length ≤ 4 := by
  unfold leapsAt
  rw [List.length_map]
  exact List.length_filter_le _ _
theorem flatMap_len {α β : Type} {f : α → List β} {n : Nat} (h : ∀ a, (f a).length ≤ n) : ∀ xs : List α, (xs.flatMap f).length ≤ n * xs.length
  | [] => by simp
  | x :: xs => by
    have h1 := h x
    have h2 := flatMap_len h xs
    rw [List.flatMap_cons, List.length_append, List.length_cons, Nat.mul_succ]
    omega
theorem flatMap_take {α β : Type} {f : α → List β} {xs : List α} {i : Nat} {x : α} (h : xs[i]? = some x) : (xs.take (i + 1)).flatMap f = (xs.take i).flatMap f ++ f x := by
  rw [List.take_add_one, h, List.flatMap_append]
  simp
def standF (cs pegs : List Cell) : Bool := risingF pegs && pegs.all fun c => memB c cs
def canF (cs pegs : List Cell) (l : Leap) : Bool := isLeapF cs l && (memB l.1 pegs && (memB (betw l) pegs && !memB l.2 pegs))
def openF (cs pegs : List Cell) : List Leap := (leapsF cs).filter (canF cs pegs)
theorem leapsF_len (cs : List Cell) : (leapsF cs).length ≤ 4 * cs.length := flatMap_len (leapsAt_len cs) cs
def pairOk (cs : List Cell) (one two : Cell) : Bool := decide (srt (fun a b : Int => decide (a < b)) [absI (one.1 - two.1), absI (one.2 - two.2)] = [0, 2]) && memB (betw (one, two)) cs
def pairsAt (cs : List Cell) (one : Cell) : List Leap := (cs.filter (pairOk cs one)).map fun two => (one, two)
theorem srt2 (a b : Int) : srt (fun a b : Int => decide (a < b)) [a, b] = [0, 2] ↔ (a = 0 ∧ b = 2) ∨ (a = 2 ∧ b = 0) := by
  have pw : ([0, 2] : List Int).Pairwise fun a b => decide (a < b) = true := by decide
  constructor
  · intro h
    have p : [a, b].Perm [0, 2] := by
      have q := List.mergeSort_perm [a, b] fun a b : Int => !decide (b < a)
      rw [show [a, b].mergeSort (fun a b : Int => !decide (b < a)) = [0, 2] from h] at q
      exact q.symm
    have ha : a = 0 ∨ a = 2 := by simpa using p.mem_iff.mp (show a ∈ [a, b] by simp)
    have hb : b = 0 ∨ b = 2 := by simpa using p.mem_iff.mp (show b ∈ [a, b] by simp)
    have h0 : 0 = a ∨ 0 = b := by simpa using p.mem_iff.mpr (show (0 : Int) ∈ [0, 2] by simp)
    have h2 : 2 = a ∨ 2 = b := by simpa using p.mem_iff.mpr (show (2 : Int) ∈ [0, 2] by simp)
    omega
  · rintro (⟨rfl, rfl⟩ | ⟨rfl, rfl⟩)
    · exact sto_int.srt_is (by decide) pw fun x => Iff.rfl
    · exact sto_int.srt_is (by decide) pw fun x => by simp [or_comm]
theorem apart_srt (one two : Cell) : decide (srt (fun a b : Int => decide (a < b)) [absI (one.1 - two.1), absI (one.2 - two.2)] = [0, 2]) = memB (apartF (one, two)) [(0, 2), (2, 0)] := by
  by_cases h : memB (apartF (one, two)) [(0, 2), (2, 0)] = true
  · rw [h]
    have h1 := memB_iff.mp h
    refine decide_eq_true ((srt2 _ _).mpr ?_)
    simpa [apartF, Prod.ext_iff] using h1
  · have h' : memB (apartF (one, two)) [(0, 2), (2, 0)] = false := by simpa using h
    rw [h']
    refine decide_eq_false fun z => h (memB_iff.mpr ?_)
    have := (srt2 _ _).mp z
    simpa [apartF, Prod.ext_iff] using this
theorem pairOk_leap {cs : List Cell} {one two : Cell} (h1 : one ∈ cs) (h2 : two ∈ cs) : pairOk cs one two = isLeapF cs (one, two) := by
  unfold pairOk isLeapF
  rw [apart_srt, memB_iff.mpr h1, memB_iff.mpr h2, Bool.true_and, Bool.true_and]
theorem to_of_apart {one two : Cell} (h : memB (apartF (one, two)) [(0, 2), (2, 0)] = true) : two ∈ toF one := by
  have h1 := memB_iff.mp h
  obtain ⟨a, b⟩ := one
  obtain ⟨c, d⟩ := two
  simp only [apartF, absI, List.mem_cons, Prod.mk.injEq, List.not_mem_nil, or_false] at h1
  simp only [toF, List.mem_cons, Prod.mk.injEq, List.not_mem_nil, or_false]
  split at h1 <;> split at h1 <;> omega
theorem leapsF_mem {cs : List Cell} {l : Leap} : l ∈ leapsF cs ↔ isLeapF cs l = true := by
  unfold leapsF leapsAt
  rw [List.mem_flatMap]
  constructor
  · rintro ⟨c, hc, hl⟩
    obtain ⟨t, ht, rfl⟩ := List.mem_map.mp hl
    exact (List.mem_filter.mp ht).2
  · intro h
    have h' := h
    unfold isLeapF at h
    simp only [Bool.and_eq_true] at h
    exact ⟨l.1, memB_iff.mp h.2.1, List.mem_map.mpr ⟨l.2, List.mem_filter.mpr ⟨to_of_apart h.1, h'⟩, rfl⟩⟩
theorem pairs_mem {cs : List Cell} {l : Leap} : l ∈ cs.flatMap (pairsAt cs) ↔ isLeapF cs l = true := by
  unfold pairsAt
  rw [List.mem_flatMap]
  constructor
  · rintro ⟨c, hc, hl⟩
    obtain ⟨t, ht, rfl⟩ := List.mem_map.mp hl
    obtain ⟨h1, h2⟩ := List.mem_filter.mp ht
    rw [pairOk_leap hc h1] at h2
    exact h2
  · intro h
    have h' := h
    unfold isLeapF at h
    simp only [Bool.and_eq_true] at h
    have h1 := memB_iff.mp h.2.1
    have h2 := memB_iff.mp h.2.2.1
    exact ⟨l.1, h1, List.mem_map.mpr ⟨l.2, List.mem_filter.mpr ⟨h2, by rw [pairOk_leap h1 h2]; exact h'⟩, rfl⟩⟩
theorem flatMap_pw {cs : List Cell} {f : Cell → List Leap} (hr : cs.Pairwise fun a b => ltC a b = true) (h1 : ∀ c l, l ∈ f c → l.1 = c) (h2 : ∀ c, c ∈ cs → (f c).Pairwise fun a b => ltL a b = true) : (cs.flatMap f).Pairwise fun a b => ltL a b = true := by
  induction cs with
  | nil => simp
  | cons c cs ih =>
    obtain ⟨g1, g2⟩ := List.pairwise_cons.mp hr
    rw [List.flatMap_cons, List.pairwise_append]
    refine ⟨h2 c List.mem_cons_self, ih g2 fun c hc => h2 c (List.mem_cons_of_mem _ hc), fun a ha b hb => ?_⟩
    obtain ⟨c', hc', hb'⟩ := List.mem_flatMap.mp hb
    have e1 := h1 c a ha
    have e2 := h1 c' b hb'
    have e3 := g1 c' hc'
    unfold ltL ltP
    rw [e1, e2, if_neg (fun z => by rw [z, ltC_irr] at e3; cases e3)]
    exact e3
theorem map_pw {c : Cell} {ts : List Cell} (h : ts.Pairwise fun a b => ltC a b = true) : (ts.map fun t => (c, t)).Pairwise fun a b => ltL a b = true := by
  rw [List.pairwise_map]
  refine h.imp fun {a b} q => ?_
  unfold ltL ltP
  rw [if_pos rfl]
  exact q
theorem toF_pw (c : Cell) : (toF c).Pairwise fun a b => ltC a b = true := by
  unfold toF
  refine List.pairwise_cons.mpr ⟨fun b h => ?_, List.pairwise_cons.mpr ⟨fun b h => ?_, List.pairwise_cons.mpr ⟨fun b h => ?_, List.pairwise_cons.mpr ⟨fun b h => absurd h (by simp), .nil⟩⟩⟩⟩
  · simp only [List.mem_cons, List.not_mem_nil, or_false] at h
    rcases h with rfl | rfl | rfl <;> refine ltC_of ?_ <;> dsimp only <;> omega
  · simp only [List.mem_cons, List.not_mem_nil, or_false] at h
    rcases h with rfl | rfl <;> refine ltC_of ?_ <;> dsimp only <;> omega
  · simp only [List.mem_cons, List.not_mem_nil, or_false] at h
    rcases h with rfl
    refine ltC_of ?_
    dsimp only
    omega
theorem leapsF_pw {cs : List Cell} (hr : risingF cs = true) : (leapsF cs).Pairwise fun a b => ltL a b = true :=
  flatMap_pw (rising_pw.mp hr) (fun c l hl => by
    obtain ⟨t, _, rfl⟩ := List.mem_map.mp hl
    rfl) fun c _ => map_pw ((toF_pw c).filter _)
theorem pairs_nodup {cs : List Cell} (hr : risingF cs = true) : (cs.flatMap (pairsAt cs)).Nodup :=
  sto_l.nodup (flatMap_pw (rising_pw.mp hr) (fun c l hl => by
    obtain ⟨t, _, rfl⟩ := List.mem_map.mp hl
    rfl) fun c _ => map_pw ((rising_pw.mp hr).filter _))
theorem pairs_srt {cs : List Cell} (hr : risingF cs = true) : srt ltL (cs.flatMap (pairsAt cs)) = leapsF cs :=
  sto_l.srt_is (pairs_nodup hr) (leapsF_pw hr) fun x => by rw [leapsF_mem, pairs_mem]
theorem pairsAt_len (cs : List Cell) (c : Cell) : (pairsAt cs c).length ≤ cs.length := by
  unfold pairsAt
  rw [List.length_map]
  exact List.length_filter_le _ _
theorem canF_of {cs pegs : List Cell} {l : Leap} (h : l ∈ leapsF cs) : canF cs pegs l = (memB l.1 pegs && (memB (betw l) pegs && !memB l.2 pegs)) := by
  unfold canF
  rw [leapsF_mem.mp h, Bool.true_and]
theorem standF_sub {cs pegs : List Cell} (h : pegs.Sublist cs) (hr : risingF cs = true) : standF cs pegs = true := by
  unfold standF
  rw [rising_pw.mpr ((rising_pw.mp hr).sublist h), List.all_eq_true.mpr fun c hc => memB_iff.mpr (h.subset hc)]
  rfl
theorem boardF_of {cs : List Cell} (h1 : 1 ≤ cs.length) (h2 : cs.length ≤ 24) (h3 : cs.Pairwise fun a b => ltC a b = true) (h4 : ∀ c, c ∈ cs → inBoard c = true) : boardF cs = true := by
  unfold boardF
  rw [rising_pw.mpr h3, List.all_eq_true.mpr h4, decide_eq_true ⟨h1, h2⟩]
  rfl
theorem boardF_rising {cs : List Cell} (h : boardF cs = true) : risingF cs = true := by
  unfold boardF at h
  rw [Bool.and_eq_true, Bool.and_eq_true] at h
  exact h.2.1
/-! ### a leap is done -/
def leftF (pegs : List Cell) (l : Leap) : List Cell := pegs.filter fun c => !memB c [l.1, betw l]
def doneF (pegs : List Cell) (l : Leap) : List Cell := srt ltC (leftF pegs l ++ [l.2])
theorem standF_iff {cs pegs : List Cell} : standF cs pegs = true ↔ (pegs.Pairwise fun a b => ltC a b = true) ∧ ∀ c, c ∈ pegs → c ∈ cs := by
  unfold standF
  rw [Bool.and_eq_true, rising_pw, List.all_eq_true]
  exact ⟨fun h => ⟨h.1, fun c hc => memB_iff.mp (h.2 c hc)⟩, fun h => ⟨h.1, fun c hc => memB_iff.mpr (h.2 c hc)⟩⟩
theorem standF_nodup {cs pegs : List Cell} (h : standF cs pegs = true) : pegs.Nodup := sto_c.nodup (standF_iff.mp h).1
theorem canF_iff {cs pegs : List Cell} {l : Leap} : canF cs pegs l = true ↔ isLeapF cs l = true ∧ l.1 ∈ pegs ∧ betw l ∈ pegs ∧ l.2 ∉ pegs := by
  unfold canF
  rw [Bool.and_eq_true, Bool.and_eq_true, Bool.and_eq_true, memB_iff, memB_iff, Bool.not_eq_true', memB_no]
theorem isLeapF_iff {cs : List Cell} {l : Leap} : isLeapF cs l = true ↔ memB (apartF l) [(0, 2), (2, 0)] = true ∧ l.1 ∈ cs ∧ l.2 ∈ cs ∧ betw l ∈ cs := by
  unfold isLeapF
  rw [Bool.and_eq_true, Bool.and_eq_true, Bool.and_eq_true, memB_iff (xs := cs), memB_iff (xs := cs), memB_iff (xs := cs)]
theorem pair2 {a b c d : Int} (h1 : a = c) (h2 : b = d) : ((a, b) : Cell) = (c, d) := by rw [h1, h2]
theorem pair4 {a b c d a' b' c' d' : Int} (h1 : a = a') (h2 : b = b') (h3 : c = c') (h4 : d = d') : (((a, b), (c, d)) : Leap) = ((a', b'), (c', d')) := by rw [h1, h2, h3, h4]
/-- the three cells of a leap: one beside the other in a row or a column -/
theorem leap_three {cs : List Cell} {l : Leap} (h : isLeapF cs l = true) : ∃ (a b e f : Int), ((e = 1 ∨ e = -1) ∧ f = 0 ∨ e = 0 ∧ (f = 1 ∨ f = -1)) ∧ l = ((a, b), (a + 2 * e, b + 2 * f)) ∧ betw l = (a + e, b + f) := by
  have h1 := to_of_apart (one := l.1) (two := l.2) (isLeapF_iff.mp h).1
  obtain ⟨⟨a, b⟩, c, d⟩ := l
  unfold toF at h1
  simp only [List.mem_cons, List.not_mem_nil, or_false, Prod.mk.injEq] at h1
  unfold betw
  dsimp only
  rcases h1 with ⟨rfl, rfl⟩ | ⟨rfl, rfl⟩ | ⟨rfl, rfl⟩ | ⟨rfl, rfl⟩
  · exact ⟨a, d, -1, 0, .inl ⟨.inr rfl, rfl⟩, pair4 rfl rfl (by omega) (by omega), pair2 (by omega) (by omega)⟩
  · exact ⟨c, b, 0, -1, .inr ⟨rfl, .inr rfl⟩, pair4 rfl rfl (by omega) (by omega), pair2 (by omega) (by omega)⟩
  · exact ⟨c, b, 0, 1, .inr ⟨rfl, .inl rfl⟩, pair4 rfl rfl (by omega) (by omega), pair2 (by omega) (by omega)⟩
  · exact ⟨a, d, 1, 0, .inl ⟨.inl rfl, rfl⟩, pair4 rfl rfl (by omega) (by omega), pair2 (by omega) (by omega)⟩
theorem leap_ne {cs : List Cell} {l : Leap} (h : isLeapF cs l = true) : l.1 ≠ betw l ∧ l.1 ≠ l.2 ∧ betw l ≠ l.2 := by
  obtain ⟨a, b, e, f, h1, h2, h3⟩ := leap_three h
  rw [h3, h2]
  simp only [ne_eq, Prod.mk.injEq]
  omega
theorem leftF_mem {pegs : List Cell} {l : Leap} {c : Cell} : c ∈ leftF pegs l ↔ c ∈ pegs ∧ c ≠ l.1 ∧ c ≠ betw l := by
  unfold leftF
  rw [List.mem_filter, Bool.not_eq_true', memB_no]
  simp
theorem doneF_mem {pegs : List Cell} {l : Leap} {c : Cell} : c ∈ doneF pegs l ↔ (c ∈ pegs ∧ c ≠ l.1 ∧ c ≠ betw l) ∨ c = l.2 := by
  unfold doneF
  rw [srt_mem, List.mem_append, leftF_mem, List.mem_singleton]
theorem doneF_perm (pegs : List Cell) (l : Leap) : (doneF pegs l).Perm (l.2 :: leftF pegs l) :=
  (List.mergeSort_perm _ _).trans (List.perm_append_singleton _ _)
theorem left_nodup {pegs : List Cell} {l : Leap} (h : pegs.Nodup) : (leftF pegs l).Nodup := h.filter _
theorem pegs_perm {cs pegs : List Cell} {l : Leap} (hp : pegs.Nodup) (h : canF cs pegs l = true) : pegs.Perm (l.1 :: betw l :: leftF pegs l) := by
  obtain ⟨h1, h2, h3, _⟩ := canF_iff.mp h
  refine (List.perm_ext_iff_of_nodup hp ?_).mpr fun c => ?_
  · refine List.nodup_cons.mpr ⟨fun z => ?_, List.nodup_cons.mpr ⟨fun z => (leftF_mem.mp z).2.2 rfl, left_nodup hp⟩⟩
    rcases List.mem_cons.mp z with e | e
    · exact (leap_ne h1).1 e
    · exact (leftF_mem.mp e).2.1 rfl
  · rw [List.mem_cons, List.mem_cons, leftF_mem]
    constructor
    · intro hc
      by_cases e1 : c = l.1
      · exact .inl e1
      · by_cases e2 : c = betw l
        · exact .inr (.inl e2)
        · exact .inr (.inr ⟨hc, e1, e2⟩)
    · rintro (e | e | e)
      · rw [e]
        exact h2
      · rw [e]
        exact h3
      · exact e.1
theorem doneF_stand {cs pegs : List Cell} {l : Leap} (hs : standF cs pegs = true) (h : canF cs pegs l = true) : standF cs (doneF pegs l) = true := by
  obtain ⟨h1, h2, h3, h4⟩ := canF_iff.mp h
  refine standF_iff.mpr ⟨sto_c.srt_strict ?_, fun c hc => ?_⟩
  · refine (List.perm_append_singleton _ _).nodup_iff.mpr (List.nodup_cons.mpr ⟨fun z => h4 (leftF_mem.mp z).1, left_nodup (standF_nodup hs)⟩)
  · rcases doneF_mem.mp hc with e | e
    · exact (standF_iff.mp hs).2 c e.1
    · rw [e]
      exact (isLeapF_iff.mp h1).2.2.1
theorem doneF_len {cs pegs : List Cell} {l : Leap} (hp : pegs.Nodup) (h : canF cs pegs l = true) : (doneF pegs l).length + 1 = pegs.length := by
  rw [(doneF_perm pegs l).length_eq, (pegs_perm hp h).length_eq]
  simp
theorem doneF_le {pegs : List Cell} {l : Leap} : (doneF pegs l).length ≤ pegs.length + 1 := by
  rw [(doneF_perm pegs l).length_eq, List.length_cons]
  exact Nat.succ_le_succ (List.length_filter_le _ _)
theorem openF_mem {cs pegs : List Cell} {l : Leap} : l ∈ openF cs pegs ↔ canF cs pegs l = true := by
  unfold openF
  rw [List.mem_filter]
  exact ⟨fun h => h.2, fun h => ⟨leapsF_mem.mpr (canF_iff.mp h).1, h⟩⟩

/-! ### classes -/
def itD (ns : List Int) : PyData := .tuple (ns.map PyData.int)
theorem q_it : EqD itD := q_int.tuple fun a => by simp only [PyData.depth]; omega
def colF (s : Int) (pegs : List Cell) : List Int := pegs.map fun c => (c.1 + s * c.2) % 3
def clsF (pegs : List Cell) (s : Int) : List Int :=
  [((((colF s pegs).count 0 : Nat) : Int) + (((colF s pegs).count 1 : Nat) : Int)) % 2, ((((colF s pegs).count 1 : Nat) : Int) + (((colF s pegs).count 2 : Nat) : Int)) % 2]
def classF (pegs : List Cell) : List Int := [(1 : Int), -1].flatMap (clsF pegs)
theorem colF_three (s : Int) (pegs : List Cell) : ∀ x, x ∈ colF s pegs → x = 0 ∨ x = 1 ∨ x = 2 := fun x h => by
  obtain ⟨c, _, rfl⟩ := List.mem_map.mp h
  have h1 := Int.emod_nonneg (c.1 + s * c.2) (show (3 : Int) ≠ 0 by decide)
  have h2 := Int.emod_lt_of_pos (c.1 + s * c.2) (show (0 : Int) < 3 by decide)
  omega
theorem count_lo : ∀ {xs : List Int}, (∀ x, x ∈ xs → x = 0 ∨ x = 1 ∨ x = 2) → (xs.filter fun x => decide (x < 2)).length = xs.count 0 + xs.count 1
  | [], _ => rfl
  | x :: xs, h => by
    have ih := count_lo (xs := xs) fun y hy => h y (List.mem_cons_of_mem _ hy)
    rcases h x List.mem_cons_self with rfl | rfl | rfl
    · rw [List.filter_cons_of_pos (by decide), List.length_cons, ih, List.count_cons_self, List.count_cons_of_ne (by decide)]
      omega
    · rw [List.filter_cons_of_pos (by decide), List.length_cons, ih, List.count_cons_self, List.count_cons_of_ne (by decide)]
      omega
    · rw [List.filter_cons_of_neg (by decide), ih, List.count_cons_of_ne (by decide), List.count_cons_of_ne (by decide)]
theorem count_hi : ∀ {xs : List Int}, (∀ x, x ∈ xs → x = 0 ∨ x = 1 ∨ x = 2) → (xs.filter fun x => decide (0 < x)).length = xs.count 1 + xs.count 2
  | [], _ => rfl
  | x :: xs, h => by
    have ih := count_hi (xs := xs) fun y hy => h y (List.mem_cons_of_mem _ hy)
    rcases h x List.mem_cons_self with rfl | rfl | rfl
    · rw [List.filter_cons_of_neg (by decide), ih, List.count_cons_of_ne (by decide), List.count_cons_of_ne (by decide)]
    · rw [List.filter_cons_of_pos (by decide), List.length_cons, ih, List.count_cons_self, List.count_cons_of_ne (by decide)]
      omega
    · rw [List.filter_cons_of_pos (by decide), List.length_cons, ih, List.count_cons_self, List.count_cons_of_ne (by decide)]
      omega
theorem cls_done {cs pegs : List Cell} {l : Leap} {s : Int} (hs1 : s = 1 ∨ s = -1) (hp : pegs.Nodup) (h : canF cs pegs l = true) : clsF (doneF pegs l) s = clsF pegs s := by
  obtain ⟨a, b, e, f, h1, h2, h3⟩ := leap_three (canF_iff.mp h).1
  have p1 : ∀ k, (colF s (doneF pegs l)).count k = (colF s (l.2 :: leftF pegs l)).count k := fun k => ((doneF_perm pegs l).map _).count_eq k
  have p2 : ∀ k, (colF s pegs).count k = (colF s (l.1 :: betw l :: leftF pegs l)).count k := fun k => ((pegs_perm hp h).map _).count_eq k
  unfold clsF
  rw [p1, p1, p1, p2, p2, p2, h3]
  generalize leftF pegs l = r
  rw [h2]
  unfold colF
  simp only [List.map_cons, List.count_cons]
  generalize (r.map fun c => (c.1 + s * c.2) % 3) = w
  have m1 := Int.emod_nonneg (a + s * b) (show (3 : Int) ≠ 0 by decide)
  have m2 := Int.emod_lt_of_pos (a + s * b) (show (0 : Int) < 3 by decide)
  have hx : ∃ g, (g = 1 ∨ g = -1) ∧ a + e + s * (b + f) = a + s * b + g ∧ a + 2 * e + s * (b + 2 * f) = a + s * b + 2 * g := by
    rcases hs1 with rfl | rfl
    · exact ⟨e + f, by omega, by omega, by omega⟩
    · exact ⟨e - f, by omega, by omega, by omega⟩
  obtain ⟨g, hg, x1, x2⟩ := hx
  rw [x1, x2]
  generalize a + s * b = t at m1 m2
  have ht : t % 3 = 0 ∨ t % 3 = 1 ∨ t % 3 = 2 := by omega
  rcases hg with rfl | rfl <;> rcases ht with q | q | q
  all_goals
    first
    | (have q1 : (t + 1) % 3 = (if t % 3 = 2 then 0 else t % 3 + 1) := by split <;> omega
       have q2 : (t + 2 * 1) % 3 = (if t % 3 = 0 then 2 else t % 3 - 1) := by split <;> omega
       rw [q1, q2, q]
       simp
       omega)
    | (have q1 : (t + -1) % 3 = (if t % 3 = 0 then 2 else t % 3 - 1) := by split <;> omega
       have q2 : (t + 2 * -1) % 3 = (if t % 3 = 2 then 0 else t % 3 + 1) := by split <;> omega
       rw [q1, q2, q]
       simp
       omega)
theorem class_done {cs pegs : List Cell} {l : Leap} (hp : pegs.Nodup) (h : canF cs pegs l = true) : classF (doneF pegs l) = classF pegs := by
  unfold classF
  rw [List.flatMap_cons, List.flatMap_cons, List.flatMap_cons, List.flatMap_cons, cls_done (.inl rfl) hp h, cls_done (.inr rfl) hp h]
  rfl

/-! ### rows of leaps -/
def goes (cs : List Cell) : List Cell → List Leap → Bool
  | _, [] => true
  | pegs, l :: r => canF cs pegs l && goes cs (doneF pegs l) r
def after (pegs : List Cell) (r : List Leap) : List Cell := r.foldl doneF pegs
theorem goes_app {cs : List Cell} : ∀ (r : List Leap) {pegs : List Cell} {l : Leap}, goes cs pegs (r ++ [l]) = (goes cs pegs r && canF cs (after pegs r) l)
  | [], pegs, l => by
    show (canF cs pegs l && true) = (true && canF cs pegs l)
    rw [Bool.and_true, Bool.true_and]
  | x :: r, pegs, l => by
    show (canF cs pegs x && goes cs (doneF pegs x) (r ++ [l])) = _
    rw [goes_app r]
    show _ = (canF cs pegs x && goes cs (doneF pegs x) r && canF cs (after (doneF pegs x) r) l)
    rw [Bool.and_assoc]
theorem after_app (pegs : List Cell) (r : List Leap) (l : Leap) : after pegs (r ++ [l]) = doneF (after pegs r) l := by
  unfold after
  rw [List.foldl_append]
  rfl
theorem goes_stand {cs : List Cell} : ∀ (r : List Leap) {pegs : List Cell}, standF cs pegs = true → goes cs pegs r = true → standF cs (after pegs r) = true
  | [], _, h, _ => h
  | x :: r, pegs, h, g => by
    obtain ⟨g1, g2⟩ := (Bool.and_eq_true _ _).mp g
    exact goes_stand r (doneF_stand h g1) g2
theorem goes_class {cs : List Cell} : ∀ (r : List Leap) {pegs : List Cell}, standF cs pegs = true → goes cs pegs r = true → classF (after pegs r) = classF pegs
  | [], _, _, _ => rfl
  | x :: r, pegs, h, g => by
    obtain ⟨g1, g2⟩ := (Bool.and_eq_true _ _).mp g
    exact (goes_class r (doneF_stand h g1) g2).trans (class_done (standF_nodup h) g1)
theorem goes_len {cs : List Cell} : ∀ (r : List Leap) {pegs : List Cell}, standF cs pegs = true → goes cs pegs r = true → (after pegs r).length + r.length = pegs.length
  | [], _, _, _ => rfl
  | x :: r, pegs, h, g => by
    obtain ⟨g1, g2⟩ := (Bool.and_eq_true _ _).mp g
    have h1 := goes_len r (doneF_stand h g1) g2
    have h2 := doneF_len (standF_nodup h) g1
    show (after (doneF pegs x) r).length + (r.length + 1) = _
    omega
theorem stand_len {cs pegs : List Cell} (h : standF cs pegs = true) : pegs.length ≤ cs.length :=
  (standF_nodup h).length_le_of_subset (standF_iff.mp h).2
/-- the place of the first leap that can't be done -/
def failAt (cs : List Cell) : List Cell → List Leap → Option Nat
  | _, [] => none
  | pegs, l :: r => if canF cs pegs l = true then (failAt cs (doneF pegs l) r).map (· + 1) else some 0
theorem failAt_none {cs : List Cell} : ∀ (r : List Leap) {pegs : List Cell}, failAt cs pegs r = none ↔ goes cs pegs r = true
  | [], _ => ⟨fun _ => rfl, fun _ => rfl⟩
  | l :: r, pegs => by
    have ih := failAt_none (cs := cs) r (pegs := doneF pegs l)
    unfold failAt goes
    by_cases h : canF cs pegs l = true
    · rw [if_pos h, h, Bool.true_and, Option.map_eq_none_iff, ih]
    · rw [if_neg h]
      have h' : canF cs pegs l = false := by simpa using h
      rw [h', Bool.false_and]
      simp
theorem failAt_some {cs : List Cell} : ∀ (r : List Leap) {pegs : List Cell} {k : Nat} {l : Leap}, r[k]? = some l → goes cs pegs (r.take k) = true → canF cs (after pegs (r.take k)) l = false → failAt cs pegs r = some k
  | [], _, _, _, h, _, _ => by simp at h
  | x :: r, pegs, 0, l, h, _, hc => by
    have e : x = l := by simpa using h
    subst e
    unfold failAt
    rw [if_neg (by rw [show canF cs pegs x = false from hc]; exact Bool.false_ne_true)]
  | x :: r, pegs, k + 1, l, h, hg, hc => by
    obtain ⟨g1, g2⟩ := (Bool.and_eq_true _ _).mp (show (canF cs pegs x && goes cs (doneF pegs x) (r.take k)) = true from hg)
    have ih := failAt_some (cs := cs) r (pegs := doneF pegs x) (k := k) (l := l) (by simpa using h) g2 hc
    unfold failAt
    rw [if_pos g1, ih]
    rfl
theorem goes_take {cs : List Cell} : ∀ (r : List Leap) {pegs : List Cell} (k : Nat), goes cs pegs r = true → goes cs pegs (r.take k) = true
  | [], _, k, _ => by
    rw [List.take_nil]
    rfl
  | _ :: _, _, 0, _ => rfl
  | x :: r, pegs, k + 1, h => by
    obtain ⟨g1, g2⟩ := (Bool.and_eq_true _ _).mp h
    show (canF cs pegs x && goes cs (doneF pegs x) (r.take k)) = true
    rw [g1, goes_take r k g2]
    rfl

/-! ### weights -/
def areW (cs : List Cell) (ws : List Int) : Bool := decide (ws.length = cs.length) && ws.all fun x => decide (absI x ≤ 1000)
def idxC {α : Type} [DecidableEq α] (xs : List α) (x : α) : Nat := xs.idxOf x
theorem idxC_lt {α : Type} [DecidableEq α] {xs : List α} {x : α} (h : x ∈ xs) : idxC xs x < xs.length := List.idxOf_lt_length_iff.mpr h
def wAt (cs : List Cell) (ws : List Int) (c : Cell) : Int := ws.getD (idxC cs c) 0
def fairL (cs : List Cell) (ws : List Int) (l : Leap) : Bool := !decide (wAt cs ws l.1 + wAt cs ws (betw l) < wAt cs ws l.2)
def fairF (cs : List Cell) (ws : List Int) : Bool := (leapsF cs).all (fairL cs ws)
def weightF (cs : List Cell) (ws : List Int) (pegs : List Cell) : Int := (pegs.map (wAt cs ws)).sum
theorem wAt_get {cs : List Cell} {ws : List Int} {c : Cell} (hc : c ∈ cs) (hl : ws.length = cs.length) : ws[idxC cs c]? = some (wAt cs ws c) := by
  have h : idxC cs c < ws.length := by
    rw [hl]
    exact idxC_lt hc
  unfold wAt
  rw [List.getD_eq_getElem?_getD, List.getElem?_eq_getElem h]
  rfl
theorem areW_len {cs : List Cell} {ws : List Int} (h : areW cs ws = true) : ws.length = cs.length := by
  unfold areW at h
  rw [Bool.and_eq_true] at h
  exact of_decide_eq_true h.1
theorem boardF_len {cs : List Cell} (h : boardF cs = true) : 1 ≤ cs.length ∧ cs.length ≤ 24 := by
  unfold boardF at h
  rw [Bool.and_eq_true] at h
  exact of_decide_eq_true h.1
theorem boardF_in {cs : List Cell} (h : boardF cs = true) {c : Cell} (hc : c ∈ cs) : inBoard c = true := by
  unfold boardF at h
  rw [Bool.and_eq_true, Bool.and_eq_true] at h
  exact List.all_eq_true.mp h.2.2 c hc
theorem perm_sum {l m : List Int} (h : l.Perm m) : l.sum = m.sum := by
  induction h with
  | nil => rfl
  | cons x _ ih => rw [List.sum_cons, List.sum_cons, ih]
  | swap x y l =>
    rw [List.sum_cons, List.sum_cons, List.sum_cons, List.sum_cons]
    omega
  | trans _ _ h1 h2 => exact h1.trans h2
theorem weight_done {cs pegs : List Cell} {ws : List Int} {l : Leap} (hp : pegs.Nodup) (h : canF cs pegs l = true) (hf : fairF cs ws = true) : weightF cs ws (doneF pegs l) ≤ weightF cs ws pegs := by
  have h1 : fairL cs ws l = true := List.all_eq_true.mp hf l (leapsF_mem.mpr (canF_iff.mp h).1)
  have h2 : ¬ wAt cs ws l.1 + wAt cs ws (betw l) < wAt cs ws l.2 := by
    unfold fairL at h1
    rw [Bool.not_eq_true'] at h1
    exact of_decide_eq_false h1
  have e1 : weightF cs ws (doneF pegs l) = weightF cs ws (l.2 :: leftF pegs l) := perm_sum ((doneF_perm pegs l).map _)
  have e2 : weightF cs ws pegs = weightF cs ws (l.1 :: betw l :: leftF pegs l) := perm_sum ((pegs_perm hp h).map _)
  rw [e1, e2]
  unfold weightF
  simp only [List.map_cons, List.sum_cons]
  omega
theorem pw_get {α : Type} {R : α → α → Prop} {l : List α} (h : l.Pairwise R) {i j : Nat} {a b : α} (hij : i < j) (hi : l[i]? = some a) (hj : l[j]? = some b) : R a b := by
  obtain ⟨h1, rfl⟩ := List.getElem?_eq_some_iff.mp hi
  obtain ⟨h2, rfl⟩ := List.getElem?_eq_some_iff.mp hj
  exact List.pairwise_iff_getElem.mp h i j h1 h2 hij
end Pg

namespace Pg
open PySem PySem.Spec PyProof.Rows L2
open PySem.W (alike alikeAll dataLt AllAlike Sortable EachIs dataLe)

/-! ## dicts whose keys are tuples of cells -/
def nkC (c : Cell) : NestedKey := .tup [.num c.1, .num c.2]
def nk (cs : List Cell) : NestedKey := .tup (cs.map nkC)
theorem nkC_inj {a b : Cell} (h : nkC a = nkC b) : a = b := by
  unfold nkC at h
  injection h with h
  injection h with h1 h2
  injection h2 with h2 _
  injection h1 with h1
  injection h2 with h2
  exact Prod.ext h1 h2
theorem nk_inj {a b : List Cell} (h : nk a = nk b) : a = b := by
  unfold nk at h
  injection h with h
  revert b
  induction a with
  | nil =>
    intro b h
    cases b with
    | nil => rfl
    | cons y ys => cases h
  | cons x xs ih =>
    intro b h
    cases b with
    | nil => cases h
    | cons y ys =>
      rw [List.map_cons, List.map_cons] at h
      injection h with h1 h2
      rw [nkC_inj h1, ih h2]
theorem nk_eq {a b : List Cell} : nk a = nk b ↔ a = b := ⟨nk_inj, fun h => by rw [h]⟩
theorem nk_depth (cs : List Cell) : (nk cs).depth ≤ 8 := by
  have h : ∀ cs : List Cell, NestedKey.depthAll (cs.map nkC) ≤ 2 := fun cs => by
    induction cs with
    | nil => simp [NestedKey.depthAll]
    | cons c cs ih => simp [NestedKey.depthAll, nkC, NestedKey.depth] at ih ⊢; omega
  have := h cs
  unfold nk
  simp only [NestedKey.depth]
  omega
/-- at b the tuple of cells cs -/
def CellAt (H : Hp) (u : V) (c : Cell) : Prop := ∃ p, u = .ref p ∧ H p = some (.tup [.int c.1, .int c.2])
def KeyH (H : Hp) (b : Addr) (cs : List Cell) : Prop := ∃ us, H b = some (.tup us) ∧ Paired (CellAt H) us cs
theorem CellAt.mono {H H' : Hp} (e : Same H H') {u : V} {c : Cell} (h : CellAt H u c) : CellAt H' u c := by
  obtain ⟨p, rfl, h2⟩ := h
  exact ⟨p, rfl, e _ _ h2⟩
theorem paired_imp {α β : Type} {R S : α → β → Prop} (f : ∀ a b, R a b → S a b) : ∀ {xs : List α} {ys : List β}, Paired R xs ys → Paired S xs ys
  | _, _, .nil => .nil
  | _, _, .cons r t => .cons (f _ _ r) (paired_imp f t)
theorem KeyH.mono {H H' : Hp} (e : Same H H') {b : Addr} {cs : List Cell} (h : KeyH H b cs) : KeyH H' b cs := by
  obtain ⟨us, h1, h2⟩ := h
  exact ⟨us, e _ _ h1, paired_imp (fun _ _ q => q.mono e) h2⟩
theorem keyH_of {G : Hp} {b : Addr} {cs : List Cell} (r : Rp G (.ref b) (tsD cs)) : KeyH G b cs := by
  have r' : Rp G (.ref b) (.tuple (cs.map cD)) := r
  cases r' with
  | @tup _ us _ h hr =>
    refine ⟨_, h, ?_⟩
    clear h r
    revert hr
    induction us generalizing cs with
    | nil =>
      intro hr
      cases cs with
      | nil => exact .nil
      | cons c cs => cases hr
    | cons u us ih =>
      intro hr
      cases cs with
      | nil => cases hr
      | cons c cs =>
        cases hr with
        | cons r1 r2 =>
          refine .cons ?_ (ih r2)
          have r1' : Rp G u (cD c) := r1
          cases r1' with
          | tup h1 h2 =>
            cases h2 with
            | cons a1 a2 =>
              cases a2 with
              | cons a3 a4 =>
                cases a4
                cases a1
                cases a3
                exact ⟨_, rfl, h1⟩
theorem keyH_nested {P : Program} {w : World} {H : Hp} {h : Heap} (ok : HOk P w H h) {b : Addr} {cs : List Cell} (k : KeyH H b cs) : (nestedKind P w).is h (nk cs) b := by
  obtain ⟨us, hb, hp⟩ := k
  refine ⟨?_, nk_depth cs⟩
  obtain ⟨hz0, its, rv, o, ho, hc, n, hd⟩ : ObjOk P w H h b (.tup us) := ok b _ hb
  refine .tup ho hc hd ?_
  show NestedAll h (cs.map nkC) its
  clear hd ho hc hb hz0
  revert its
  induction hp with
  | nil =>
    intro its rv
    cases rv
    exact .nil
  | @cons u c us cs q t ih =>
    intro its rv
    cases rv with
    | cons r1 r2 =>
      refine .cons ?_ (ih _ r2)
      obtain ⟨p, rfl, hq⟩ := q
      cases r1
      obtain ⟨_, jts, jv, o', ho', hc', m, hd'⟩ : ObjOk P w H h p (.tup [.int c.1, .int c.2]) := ok p _ hq
      cases jv with
      | cons j1 jv =>
        cases jv with
        | cons j2 jv =>
          cases jv
          obtain ⟨t1, rfl⟩ := j1
          obtain ⟨t2, rfl⟩ := j2
          exact .tup ho' hc' hd' (.cons (.int _ _) (.cons (.int _ _) .nil))
abbrev Ent := List Cell × Addr × V
def EntR (p : Ent) (q : NestedKey × Addr × Value) : Prop := nk p.1 = q.1 ∧ p.2.1 = q.2.1 ∧ RelV p.2.2 q.2.2
def NDP (P : Program) (w : World) (a : Addr) (ents : List Ent) (h : Heap) : Prop :=
  ents.length ≤ sizeLine ∧ (a == sysModules) = false ∧ ∃ xs : List (NestedKey × Addr × Value), Paired EntR ents xs ∧ (xs.map (·.1)).Nodup ∧ ∃ o es ep, h.get? a = some o ∧ o.ExactDict ∧ o.data = .dict es ep ∧ es.toList = xs.map (entryOfKey (nestedKind P w))
/-- at a such a dict: its keys, where they stand, its values -/
def NDo (P : Program) (w : World) (a : Addr) (ents : List Ent) : HO := .ext (NDP P w a ents)
def KeysH (H : Hp) (ents : List Ent) : Prop := ∀ e, e ∈ ents → KeyH H e.2.1 e.1
def findN : List Ent → List Cell → Option V
  | [], _ => none
  | e :: r, cs => if e.1 = cs then some e.2.2 else findN r cs
def putN (ents : List Ent) (cs : List Cell) (b : Addr) (v : V) : List Ent := if (findN ents cs).isSome = true then ents.map fun e => if e.1 = cs then (e.1, e.2.1, v) else e else ents ++ [(cs, b, v)]
theorem NDP.okO {P : Program} {w : World} {H : Hp} {h : Heap} {a : Addr} {ents : List Ent} (x : NDP P w a ents h) : ObjOk P w H h a (NDo P w a ents) := by
  refine ⟨x, ?_, fun h1 h2 q st => ?_⟩
  · obtain ⟨_, _, xs, _, _, o, es, ep, ho, _⟩ := x
    exact ⟨o, ho⟩
  · obtain ⟨z, y, xs, r, nd, o, es, ep, ho, rest⟩ := q
    exact ⟨z, y, xs, r, nd, o, es, ep, st o ho, rest⟩
theorem NDP.dict {P : Program} {w : World} {H : Hp} {h : Heap} (ok : HOk P w H h) {a : Addr} {ents : List Ent} (x : NDP P w a ents h) (k : KeysH H ents) : ∃ xs, Paired EntR ents xs ∧ h.DictOfH (nestedKind P w) a xs := by
  obtain ⟨_, _, xs, r, nd, o, es, ep, ho, hc, hd, he⟩ := x
  refine ⟨xs, r, o, es, ep, ho, hc, hd, he, ?_, nd⟩
  have all : ∀ {l : List Ent} {m : List (NestedKey × Addr × Value)}, Paired EntR l m → (∀ e, e ∈ l → KeyH H e.2.1 e.1) → ∀ y ∈ m, (nestedKind P w).is h y.1 y.2.1 := fun q => by
    induction q with
    | nil => exact fun _ y hy => nomatch hy
    | @cons e y l m q t ih =>
      intro hk z hz
      rcases List.mem_cons.mp hz with g | g
      · rw [g, ← q.1, ← q.2.1]
        exact keyH_nested ok (hk e List.mem_cons_self)
      · exact ih (fun e he => hk e (List.mem_cons_of_mem _ he)) z g
  exact all r k
theorem ent_find {cs : List Cell} : ∀ {l : List Ent} {m : List (NestedKey × Addr × Value)}, Paired EntR l m → (findN l cs = none ∧ atKey m (nk cs) = none) ∨ ∃ v u p, findN l cs = some v ∧ atKey m (nk cs) = some (p, u) ∧ RelV v u
  | _, _, .nil => .inl ⟨rfl, rfl⟩
  | _, _, .cons (a := e) (b := y) (l₁ := l) (l₂ := m) q t => by
    unfold findN atKey
    by_cases h : e.1 = cs
    · rw [if_pos h]
      refine .inr ⟨e.2.2, y.2.2, y.2.1, rfl, ?_, q.2.2⟩
      have h2 : y.1 = nk cs := by rw [← q.1, h]
      rw [List.find?_cons_of_pos (by simpa using h2)]
      rfl
    · rw [if_neg h]
      have h2 : ¬ y.1 = nk cs := fun z => h (nk_inj (q.1.trans z))
      rw [List.find?_cons_of_neg (by simpa using h2)]
      exact ent_find (cs := cs) t
theorem ent_put {cs : List Cell} {b : Addr} {v : V} {u : Value} (rv : RelV v u) {l : List Ent} {m : List (NestedKey × Addr × Value)} (r : Paired EntR l m) : Paired EntR (putN l cs b v) (storedH m (nk cs) b u) := by
  unfold putN
  rcases ent_find (cs := cs) r with ⟨h1, h2⟩ | ⟨v', u', p, h1, h2, _⟩
  · rw [h1, storedH_new h2]
    rw [if_neg (by simp)]
    clear h1 h2
    induction r with
    | nil => exact .cons ⟨rfl, rfl, rv⟩ .nil
    | cons q t ih => exact .cons q ih
  · rw [h1, storedH_old h2]
    rw [if_pos (by simp)]
    clear h1 h2
    induction r with
    | nil => exact .nil
    | @cons e y l m q t ih =>
      refine .cons ?_ ih
      show EntR (if e.1 = cs then (e.1, e.2.1, v) else e) (putAt (nk cs) u y)
      unfold putAt
      by_cases h : e.1 = cs
      · rw [if_pos h, if_pos (by rw [← q.1, h])]
        exact ⟨q.1, q.2.1, rv⟩
      · rw [if_neg h, if_neg fun z => h (nk_inj (q.1.trans z))]
        exact q
theorem putN_len (l : List Ent) (cs : List Cell) (b : Addr) (v : V) : (putN l cs b v).length ≤ l.length + 1 := by
  unfold putN
  split
  · rw [List.length_map]
    omega
  · rw [List.length_append]
    exact Nat.le_refl _
theorem keysH_put {H : Hp} {l : List Ent} {cs : List Cell} {b : Addr} {v : V} (k : KeysH H l) (kb : KeyH H b cs) : KeysH H (putN l cs b v) := fun e he => by
  unfold putN at he
  split at he
  · obtain ⟨e', he', rfl⟩ := List.mem_map.mp he
    split
    · exact k e' he'
    · exact k e' he'
  · rcases List.mem_append.mp he with z | z
    · exact k e z
    · have : e = (cs, b, v) := by simpa using z
      rw [this]
      exact kb
section
variable {X : Cx} {pins : List (Addr × Obj)} {σ : L2.St} {H : Hp} {s : Shared} {a : Addr} {ents : List Ent}
theorem nd_at (I : Inv X pins σ H s) (h : H a = some (NDo X.prog X.w a ents)) : NDP X.prog X.w a ents s.heap := (show ObjOk X.prog X.w H s.heap a (NDo X.prog X.w a ents) from I.hok a _ h).1
theorem nd_dict (I : Inv X pins σ H s) (h : H a = some (NDo X.prog X.w a ents)) (k : KeysH H ents) : (a == sysModules) = false ∧ ents.length ≤ sizeLine ∧ ∃ xs, Paired EntR ents xs ∧ s.heap.DictOfH (nestedKind X.prog X.w) a xs := by
  have x := nd_at I h
  exact ⟨x.2.1, x.1, x.dict I.hok k⟩
theorem room_nk {A : Around} (hu : A.units + 65 < cLine) {P : Program} {w : World} : (nestedKind P w).room A.in1 := by
  show A.units + 1 + 8 < cLine
  omega
/-- {} -/
def tNNew (P : Program) (w : World) : TE := fun _ H Q => ∀ p, H p = none → Q (.ref p) (upd H p (NDo P w p []))
theorem pe_nnew {pos : Pos} : PE X (.Dict [] [] pos) (tNNew X.prog X.w) := ⟨fun pins s σ H Q I h => by
  have nw : NDP X.prog X.w s.heap.objs.size [] (s.heap.push { cls := .type "dict", data := .dict #[] }) := ⟨Nat.zero_le _, beq_eq_false_iff_ne.mpr (Nat.ne_of_gt I.big), [], .nil, List.nodup_nil, _, #[], 0, Heap.get?_push_size _ rfl, ⟨rfl, rfl, rfl⟩, rfl, rfl⟩
  exact wpAny_Dict_empty ⟨.ref s.heap.objs.size, _, I.laid (t' := s.toks) (fun b u e => Heap.get?_push_of_some _ e) (Nat.le_refl _) nw.okO, rfl, h _ (I.hok.fresh (Nat.le_refl _))⟩⟩
/-- k in d, k not in d -/
def rNIn (P : Program) (w : World) (neg : Bool) : R2 := fun x y H Q => ∃ (b a : Addr) (cs : List Cell) (ents : List Ent), x = .ref b ∧ y = .ref a ∧ KeyH H b cs ∧ H a = some (NDo P w a ents) ∧ KeysH H ents ∧ Q (.bl (if neg then !(findN ents cs).isSome else (findN ents cs).isSome)) H
theorem find_some {cs : List Cell} {m : List (NestedKey × Addr × Value)} (r : Paired EntR ents m) : (atKey m (nk cs)).isSome = (findN ents cs).isSome := by
  rcases ent_find (cs := cs) r with ⟨h1, h2⟩ | ⟨v', u', p, h1, h2, _⟩
  · rw [h1, h2]
    rfl
  · rw [h1, h2]
    rfl
theorem op_nin (hu : X.A.units + 65 < cLine) : OpR X (compareOp .In) (rNIn X.prog X.w false) := by
  intro pins s σ H x y v u Q I rx ry h
  obtain ⟨b, a, cs, ents, rfl, rfl, kb, ha, kh, q⟩ := h
  cases rx
  cases ry
  obtain ⟨h1, h2, xs, r, D⟩ := nd_dict I ha kh
  refine wpAny_in_heap (room_nk hu) (keyH_nested I.hok kb) h1 D ⟨.bl _, H, I.tok _, ?_, q⟩
  show Value.bool _ = Value.bool _
  rw [find_some r]
  rfl
theorem op_nnotin (hu : X.A.units + 65 < cLine) : OpR X (compareOp .NotIn) (rNIn X.prog X.w true) := by
  intro pins s σ H x y v u Q I rx ry h
  obtain ⟨b, a, cs, ents, rfl, rfl, kb, ha, kh, q⟩ := h
  cases rx
  cases ry
  obtain ⟨h1, h2, xs, r, D⟩ := nd_dict I ha kh
  show wpAny _ _ (do return Value.bool (!(← contains (.ref a) (.ref b)))) _ _ s
  refine wpAny_bind (wpAny_contains_heap (room_nk hu) (keyH_nested I.hok kb) h1 D (wpAny_pure ⟨.bl _, H, I.tok _, ?_, q⟩))
  show Value.bool _ = Value.bool _
  rw [find_some r]
  rfl
/-- d[k] -/
def rNGet (P : Program) (w : World) : R2 := fun x y H Q => ∃ (a b : Addr) (cs : List Cell) (ents : List Ent) (v : V), x = .ref a ∧ y = .ref b ∧ KeyH H b cs ∧ H a = some (NDo P w a ents) ∧ KeysH H ents ∧ findN ents cs = some v ∧ Q v H
theorem pe_nget {o i : Expr} {pos : Pos} {td ty : TE} (hu : X.A.units + 65 < cLine) (ho : PE X o td) (hi : PE X i ty) (hs : NoSl i) : PE X (.Subscript o i pos) (tOp (rNGet X.prog X.w) td ty) := by
  refine ⟨fun pins s σ H Q I h => ?_⟩
  refine subD_of PySem.F.slot_dict_getitem.lookup hs (thn (ho.run pins s σ H _ I h) fun u s1 hh => ?_)
  obtain ⟨x, H1, I1, rx, q1⟩ := hh
  refine thn (hi.run pins s1 σ H1 _ I1 q1) fun iv s2 hh => ?_
  obtain ⟨y, H2, I2, ry, a, b, cs, ents, v, rfl, rfl, kb, ha, kh, hf, q⟩ := hh
  cases rx
  cases ry
  obtain ⟨h1, h2, xs, r, D⟩ := nd_dict I2 ha kh
  rcases ent_find (cs := cs) r with ⟨e1, _⟩ | ⟨v', u', p, e1, e2, e3⟩
  · rw [hf] at e1
    cases e1
  · rw [hf] at e1
    cases e1
    exact ⟨D.typeIs, wpAny_getItem_heap (room_nk hu) (keyH_nested I2.hok kb) D e2 ⟨v, H2, I2.tok _, e3, q⟩⟩
/-- d[k] = v -/
def sNPut (P : Program) (w : World) (td ty tv : TE) : TS := fun D σ H => tv σ H fun v H1 => td σ H1 fun x H2 => ty σ H2 fun y H3 => ∃ (a b : Addr) (cs : List Cell) (ents : List Ent), x = .ref a ∧ y = .ref b ∧ KeyH H3 b cs ∧ H3 a = some (NDo P w a ents) ∧ KeysH H3 ents ∧ ents.length < 1000000 ∧ D.nx σ (upd H3 a (NDo P w a (putN ents cs b v)))
theorem ps_nput {o i value : Expr} {pos pos' : Pos} {td ty tv : TE} (hu : X.A.units + 65 < cLine) (ho : PE X o td) (hi : PE X i ty) (hv : PE X value tv) (hs : swapsWith value (some (.Subscript o i pos')) pos.line X.env = pure false := by rfl) :
    PS X (.Assign [.Subscript o i pos'] value pos) (sNPut X.prog X.w td ty tv) := by
  refine ⟨fun pins s σ H D I h => ?_⟩
  refine wpAny_Assign_Subscript (thn (hv.run pins s σ H _ I h) fun r s1 hh => ?_) hs
  obtain ⟨v, H1, I1, rv, q1⟩ := hh
  refine thn (ho.run pins s1 σ H1 _ I1 q1) fun u s2 hh => ?_
  obtain ⟨x, H2, I2, rx, q2⟩ := hh
  refine thn (hi.run pins s2 σ H2 _ I2 q2) fun iv s3 hh => ?_
  obtain ⟨y, H3, I3, ry, a, b, cs, ents, rfl, rfl, kb, ha, kh, hz, q⟩ := hh
  cases rx
  cases ry
  obtain ⟨h1, h2, xs, rr, Dd⟩ := nd_dict I3 ha kh
  have hxl : xs.length ≤ sizeLine := by
    rw [← rr.length]
    exact h2
  refine wpAny_setItem_heap (room_nk hu) (keyH_nested I3.hok kb) Dd (fun h' Dd' sb => ?_) hxl
  obtain ⟨o', es, ep, e1, e2, e3, e4, e5, e6⟩ := Dd'
  have hl := putN_len ents cs b v
  have nw : NDP X.prog X.w a (putN ents cs b v) h' := ⟨small (by omega), h1, _, ent_put rv rr, e6, o', es, ep, e1, e2, e3, e4⟩
  exact ⟨σ, _, I3.write (x := a) (e := a) (t' := _) (by rw [ha]; exact True.intro) (.inl rfl) (fun c q hc e => (sb.2 c hc).trans e) ⟨o', e1⟩ nw.okO, q⟩
/-- d.get(k, e) -/
def tNGetO (P : Program) (w : World) (td ty te : TE) : TE := fun σ H Q => td σ H fun x H1 => (∃ a ents, x = .ref a ∧ H1 a = some (NDo P w a ents)) ∧ ty σ H1 fun y H2 => te σ H2 fun z H3 => ∃ (a b : Addr) (cs : List Cell) (ents : List Ent), x = .ref a ∧ y = .ref b ∧ KeyH H3 b cs ∧ H3 a = some (NDo P w a ents) ∧ KeysH H3 ents ∧ Q ((findN ents cs).getD z) H3
theorem ndp_type (I : Inv X pins σ H s) (h : H a = some (NDo X.prog X.w a ents)) : s.TypeIs (.ref a) "dict" ∧ ∀ b, Value.ref a = .ref b → ∃ o, s.heap.get? b = some o ∧ o.dict = none := by
  obtain ⟨_, _, xs, _, _, o, es, ep, ho, hc, _⟩ := nd_at I h
  exact ⟨⟨o, ho, hc.1⟩, fun b q => by
    cases q
    exact ⟨o, ho, hc.2.1⟩⟩
theorem pe_ngetO {o e f : Expr} {td ty te : TE} {apos cpos : Pos} (hu : X.A.units + 65 < cLine) (ho : PE X o td) (he : PE X e ty) (hf : PE X f te) (m : M2 X o "get" apos e f cpos) : PE X (.Call (.Attribute o "get" apos) [e, f] [] cpos) (tNGetO X.prog X.w td ty te) := by
  refine ⟨fun pins s σ H Q I h => ?_⟩
  refine wpAny_Call_method m.base m.few m.line PySem.F.plainAttrs_dict PySem.F.slot_dict_get PySem.F.type_dict_get (thn (ho.run pins s σ H _ I h) fun u s1 hh => ?_)
  obtain ⟨x, H1, I1, rx, ⟨a, ents, rfl, ha⟩, q1⟩ := hh
  cases rx
  obtain ⟨t1, t2⟩ := ndp_type I1 ha
  refine ⟨t1, t2, ?_⟩
  rw [m.trees]
  refine Calls.callWith_builtin rfl (Calls.evalArgs_plain (Calls.spliced_cons (thn (he.run pins s1 σ H1 _ I1 q1) fun iv s2 hh => ?_)))
  obtain ⟨y, H2, I2, ry, q2⟩ := hh
  refine Calls.spliced_cons (thn (hf.run pins s2 σ H2 _ I2 q2) fun fv s3 hh => ?_)
  obtain ⟨z, H3, I3, rz, a', b, cs, ents', e1, rfl, kb, ha', kh, q⟩ := hh
  cases e1
  cases ry
  obtain ⟨h1, h2, xs, r, D⟩ := nd_dict I3 ha' kh
  refine Calls.spliced_nil (call_meetsIn PySem.F.slot_dict_get D.typeIs PySem.F.entry_dict_get (PySem.F.args_dict_get_3 _ _ _) (meetsH_dict_get_default (nestedKind X.prog X.w) a b h1 fv) ⟨room_nk hu, nk cs, xs, keyH_nested I3.hok kb, D, ?_⟩)
  rcases ent_find (cs := cs) r with ⟨g1, g2⟩ | ⟨v', u', p, g1, g2, g3⟩
  · rw [g2]
    rw [g1] at q
    exact ⟨z, H3, I3.tok _, rz, q⟩
  · rw [g2]
    rw [g1] at q
    exact ⟨v', H3, I3.tok _, g3, q⟩
theorem dep_ts (cs : List Cell) : (tsD cs).depth ≤ 2 := by
  have h := dep_cs1 cs
  simp only [tsD, PyData.depth]
  omega
/-- sorted(d): the keys -/
def rSortN (P : Program) (w : World) : List V → Hp → VK → Prop := fun xs H Q => ∃ (a : Addr) (ents : List Ent), xs = [.ref a] ∧ H a = some (NDo P w a ents) ∧ KeysH H ents ∧ (∀ e, e ∈ ents → e.1 ≠ []) ∧ ents.length ≤ 1000000 ∧
  ∀ p ws, H p = none → Paired (fun v cs => ∃ e, e ∈ ents ∧ v = .ref e.2.1 ∧ e.1 = cs) ws ((ents.map fun e => e.1).mergeSort (dataLe false tsD)) → Q (.ref p) (upd H p (.lst ws))
theorem keyH_dp {K : PySem.W.Frag} {H : Hp} {b : Addr} {cs : List Cell} (k : KeyH H b cs) : Dp K H (.ref b) (tsD cs) := by
  obtain ⟨us, hb, hp⟩ := k
  refine Dp.tup (SqT.of hb) ?_
  clear hb
  induction hp with
  | nil => exact .nil
  | cons q t ih =>
    obtain ⟨p, rfl, h⟩ := q
    exact .cons (Dp.tup (SqT.of h) (.cons (.int _) (.cons (.int _) .nil))) ih
theorem each_mk {α β : Type} {R : α → β → Prop} : ∀ {xs : List α} {ys : List β}, xs.length = ys.length → (∀ (i : Nat) (x : α) (y : β), xs[i]? = some x → ys[i]? = some y → R x y) → Paired R xs ys
  | [], [], _, _ => .nil
  | [], _ :: _, h, _ => by cases h
  | _ :: _, [], h, _ => by cases h
  | x :: xs, y :: ys, h, f => .cons (f 0 x y rfl rfl) (each_mk (by simpa using h) fun i a b ha hb => f (i + 1) a b (by simpa using ha) (by simpa using hb))
theorem paired_get2 {α β : Type} {R : α → β → Prop} : ∀ {xs : List α} {ys : List β} {i : Nat} {x : α}, Paired R xs ys → xs[i]? = some x → ∃ y, ys[i]? = some y ∧ R x y
  | _, _, _, _, .nil, h => by simp at h
  | _, _, 0, _, .cons (b := y) r t, h => by
    simp at h
    subst h
    exact ⟨y, rfl, r⟩
  | _, _, i + 1, x, .cons r t, h => by
    obtain ⟨y, h1, h2⟩ := paired_get2 (i := i) t (by simpa using h)
    exact ⟨y, by simpa using h1, h2⟩
theorem of_eachG {β : Type} {T : V → β → Prop} : ∀ {us : List Value} {ds : List β}, EachIs (fun v d => ∃ x, RelV x v ∧ T x d) us ds → ∃ vs, Vals vs us ∧ Paired T vs ds
  | _, _, .nil => ⟨[], .nil, .nil⟩
  | _, _, .cons h t => by
    obtain ⟨x, r, q⟩ := h
    obtain ⟨vs, h1, h2⟩ := of_eachG t
    exact ⟨x :: vs, .cons r h1, .cons q h2⟩
theorem eachIs_of {β : Type} {R : Value → β → Prop} : ∀ {xs : List Value} {ys : List β}, Paired R xs ys → EachIs R xs ys
  | _, _, .nil => .nil
  | _, _, .cons r t => .cons r (eachIs_of t)
theorem c_sortN (hc : X.calm = true) (hu : X.A.units + 65 < cLine) : CallR X (.builtin "sorted") (rSortN X.prog X.w) := by
  intro pins s σ H xs us Q I r h
  obtain ⟨a, ents, rfl, ha, kh, hne, hz, q⟩ := h
  have e1 := Vals.ref1 r
  subst e1
  obtain ⟨h1, h2, m, rel, D⟩ := nd_dict I ha kh
  obtain ⟨es, ep, hraw, hs, he⟩ := D.raw
  have hml : m.length = ents.length := rel.length.symm
  have hdl := PySem.KdlSrc.rawDict (prog := X.prog) (w := X.w) (d := a) (es := es) (ep := ep) h1
  refine Calls.call_function_entry kind_sorted plain_sorted entry_sorted (args_sorted1 _) ?_
  unfold Builtin.«sorted»
  refine wpAny_bind (m := checkCount "sorted" 1 1 _) (wpAny_pure (wpAny_bind (PySem.W.kdu_collect (A := X.A.in1) hdl (I.ok.hd hc) hraw (by rw [hs, hml]; exact h2) fun h' tk acc hk hacc => ?_)))
  have hal : acc.toList.length = ents.length := by
    rw [Array.length_toList, hacc.1, hs, hml]
  have I2 : Inv X pins σ H { s with heap := h', toks := tk } := I.kept (t' := tk) fun b o e => hk b o e
  have items : Paired (fun u e => u = Value.ref e.2.1) acc.toList ents := each_mk hal fun i u e hu' hee => by
    have hu2 : acc[i]? = some u := by rw [← Array.getElem?_toList]; exact hu'
    obtain ⟨hi, ev⟩ := hacc.2 i u hu2
    obtain ⟨y, hy, k1, _, _⟩ := he i hi
    rw [ev, k1]
    obtain ⟨y', hy', ry⟩ := paired_get2 rel hee
    rw [hy] at hy'
    cases hy'
    rw [ry.2.1]
  have hlen : acc.toList.length ≤ sizeLine := by
    rw [hal]
    exact small hz
  refine wpAny_bind (wpAny_newList ?_ hlen)
  have keep : ∀ b o, h'.get? b = some o → (h'.push { cls := .type "list", data := .seq acc.toList.toArray }).get? b = some o := fun b o e => Heap.get?_push_of_some _ e
  have eR : EachIs (fun u cs => ∃ v, RelV v u ∧ ∃ e, e ∈ ents ∧ v = V.ref e.2.1 ∧ e.1 = cs) acc.toList (ents.map fun e => e.1) := by
    refine eachIs_of (each_mk (by rw [List.length_map]; exact hal) fun i u cs hu' hcs => ?_)
    rw [List.getElem?_map] at hcs
    cases ee : ents[i]? with
    | none =>
      rw [ee] at hcs
      cases hcs
    | some e =>
      rw [ee] at hcs
      cases hcs
      obtain ⟨x, hx, rx⟩ := paired_get items ee
      rw [hu'] at hx
      cases hx
      exact ⟨.ref e.2.1, by rw [rx]; rfl, e, List.mem_of_getElem? ee, rfl, rfl⟩
  have er : EachIs (fun u cs => ∃ as, Reads (h'.push { cls := .type "list", data := .seq acc.toList.toArray }) u (tsD cs) as ∧ h'.objs.size ∉ as) acc.toList (ents.map fun e => e.1) := by
    refine eR.mono fun u cs hh => ?_
    obtain ⟨v, rv, e, he', rfl, rfl⟩ := hh
    obtain ⟨as, ra⟩ := Dp.reads I2 (tsD e.1) (.ref e.2.1) u (keyH_dp (kh e he')) rv
    refine ⟨as, PyProof.Rows.Reads.keeps keep ra, fun hm => ?_⟩
    obtain ⟨o, ho⟩ := PyProof.On.reads_mem_get ra _ hm
    exact absurd (Heap.lt_size ho) (Nat.lt_irrefl _)
  refine wpAny_bind (wpAny_holding (PySem.W.list_sort_data (s := { s with heap := h'.push { cls := .type "list", data := .seq acc.toList.toArray }, toks := tk }) (a := h'.objs.size) (n := 0) (vs := acc.toList) (bs := ents.map fun e => e.1) (enc := tsD) (Heap.get?_push_size _ rfl) eR er (AllAlike.of o_ts.al) ?_ (by rw [List.length_map]; exact small hz) (fun b hb => ?_) fun out ho hE => ?_))
  · exact .inl fun d hd => by
      obtain ⟨cs, hcs, rfl⟩ := List.mem_map.mp hd
      obtain ⟨e, he', rfl⟩ := List.mem_map.mp hcs
      cases e2 : e.1 with
      | nil => exact absurd e2 (hne e he')
      | cons c r => exact ⟨_, _, rfl⟩
  · have := dep_ts b
    show X.A.units + 1 + 1 + (tsD b).depth < cLine
    omega
  · obtain ⟨ws, hw1, hw2⟩ := of_eachG hE
    obtain ⟨n', ha'⟩ := sortedHeap_at (h := h'.push { cls := .type "list", data := .seq acc.toList.toArray }) (a := h'.objs.size) (vs := acc.toList) (n := 0) (out := List.toArray out) (Heap.get?_push_size _ rfl)
    have hp : H h'.objs.size = none := I2.hok.fresh (Nat.le_refl _)
    have hwl : ws.length ≤ sizeLine := by
      rw [hw1.length, ho, List.length_map]
      exact small hz
    have new : ObjOk X.prog X.w (upd H h'.objs.size (.lst ws)) (sortedHeap (h'.push { cls := .type "list", data := .seq acc.toList.toArray }) h'.objs.size acc.toList (List.toArray out)) h'.objs.size (.lst ws) := ⟨hwl, out, n', hw1, ha'⟩
    exact wpAny_pure ⟨_, rfl, .ref h'.objs.size, _, I2.laid (t' := tk) (fun b o e => (sortedHeap_old (Nat.ne_of_lt (Heap.lt_size e)) (Heap.lt_size (keep b o e))).trans (keep b o e)) (Nat.le_refl _) new, rfl, q _ ws hp hw2⟩
end
end Pg

namespace Pg
open PySem PySem.Spec PyProof.Rows L2
open PySem.W (dataLe)

/-! ## one's own dict in a slot -/
abbrev Kv := List (List Cell × PyData)
def EntOk (G : Hp) (e : Ent) (kv : List Cell × PyData) : Prop := e.1 = kv.1 ∧ Rp G (.ref e.2.1) (tsD kv.1) ∧ Rp G e.2.2 kv.2
theorem EntOk.mono {G G' : Hp} (e : Same G G') {x : Ent} {y : List Cell × PyData} (h : EntOk G x y) : EntOk G' x y := ⟨h.1, Rp.mono e h.2.1, Rp.mono e h.2.2⟩
def dctO (P : Program) (w : World) (kvs : Kv) : Own := .any (fun _ G a o => ∃ ents, o = NDo P w a ents ∧ Paired (EntOk G) ents kvs) (fun _ _ _ _ _ e ⟨ents, h1, h2⟩ => ⟨ents, h1, paired_imp (fun _ _ q => q.mono e) h2⟩) (fun _ _ _ _ _ _ h => h)
def lookD : Kv → List Cell → Option PyData
  | [], _ => none
  | e :: r, cs => if e.1 = cs then some e.2 else lookD r cs
def putD (kvs : Kv) (cs : List Cell) (d : PyData) : Kv := if (lookD kvs cs).isSome = true then kvs.map fun e => if e.1 = cs then (e.1, d) else e else kvs ++ [(cs, d)]
theorem ents_keys {G H : Hp} (e : Same G H) : ∀ {l : List Ent} {m : Kv}, Paired (EntOk G) l m → KeysH H l
  | _, _, .nil => fun _ h => nomatch h
  | _, _, .cons q t => fun x hx => by
    rcases List.mem_cons.mp hx with z | z
    · rw [z, q.1]
      exact (keyH_of q.2.1).mono e
    · exact ents_keys e t x z
theorem ents_find {G : Hp} {cs : List Cell} : ∀ {l : List Ent} {m : Kv}, Paired (EntOk G) l m → (findN l cs = none ∧ lookD m cs = none) ∨ ∃ v d, findN l cs = some v ∧ lookD m cs = some d ∧ Rp G v d
  | _, _, .nil => .inl ⟨rfl, rfl⟩
  | _, _, .cons (a := x) (b := y) q t => by
    unfold findN lookD
    by_cases h : x.1 = cs
    · rw [if_pos h, if_pos (q.1.symm.trans h)]
      exact .inr ⟨_, _, rfl, rfl, q.2.2⟩
    · rw [if_neg h, if_neg (fun z => h (q.1.trans z))]
      exact ents_find (cs := cs) t
theorem ents_put {G : Hp} {cs : List Cell} {b : Addr} {v : V} {d : PyData} (rb : Rp G (.ref b) (tsD cs)) (rv : Rp G v d) {l : List Ent} {m : Kv} (r : Paired (EntOk G) l m) : Paired (EntOk G) (putN l cs b v) (putD m cs d) := by
  unfold putN putD
  rcases ents_find (cs := cs) r with ⟨h1, h2⟩ | ⟨v', d', h1, h2, _⟩
  · rw [h1, h2, if_neg (by simp), if_neg (by simp)]
    clear h1 h2
    induction r with
    | nil => exact .cons ⟨rfl, rb, rv⟩ .nil
    | cons q t ih => exact .cons q ih
  · rw [h1, h2, if_pos (by simp), if_pos (by simp)]
    clear h1 h2
    induction r with
    | nil => exact .nil
    | @cons x y l m q t ih =>
      refine .cons ?_ ih
      show EntOk G (if x.1 = cs then (x.1, x.2.1, v) else x) (if y.1 = cs then (y.1, d) else y)
      by_cases h : x.1 = cs
      · rw [if_pos h, if_pos (q.1.symm.trans h)]
        exact ⟨q.1, q.2.1, rv⟩
      · rw [if_neg h, if_neg (fun z => h (q.1.trans z))]
        exact q
theorem putD_len (m : Kv) (cs : List Cell) (d : PyData) : (putD m cs d).length ≤ m.length + 1 := by
  unfold putD
  split
  · rw [List.length_map]
    omega
  · rw [List.length_append]
    exact Nat.le_refl _
theorem ents_ek {G : Hp} : ∀ {l : List Ent} {m : Kv}, Paired (EntOk G) l m → l.map (fun e => e.1) = m.map fun e => e.1
  | _, _, .nil => rfl
  | _, _, .cons z t => by rw [List.map_cons, List.map_cons, z.1, ents_ek t]
theorem ents_rp {G : Hp} : ∀ {l : List Ent} {m : Kv}, Paired (EntOk G) l m → ∀ e, e ∈ l → Rp G (.ref e.2.1) (tsD e.1)
  | _, _, .nil => fun _ h => nomatch h
  | _, _, .cons z t => fun e he => by
    rcases List.mem_cons.mp he with g | g
    · rw [g, z.1]
      exact z.2.1
    · exact ents_rp t e g
theorem rp_tsD {G : Hp} {v : V} {cs : List Cell} (r : Rp G v (tsD cs)) : ∃ b, v = .ref b := by
  have r' : Rp G v (.tuple (cs.map cD)) := r
  cases r' with
  | tup _ _ => exact ⟨_, rfl⟩
section
variable {P : Program} {w : World} {C : Addr} {γ : Env} {ta tb te tv : TE} {kvs : Kv} {cs : List Cell} {d : PyData} {G0 H0 : Hp} {Po : Post}
theorem e_nnew : EvS C γ (tNNew P w) (.own (dctO P w [])) := fun G0 H0 σ G H Q x q p hp => q (.ref p) G _ (Grow.own x.same hp) ⟨p, _, rfl, upd_same, x.same.free hp, hp, [], rfl, .nil⟩
theorem own_dct {G H : Hp} {σ : L2.St} (x : Stt C G0 H0 γ σ G H) (i : Nat) (hi : γ[i]? = some (.own (dctO P w kvs))) : ∃ a ents, σ[i]? = some (some (.ref a)) ∧ H a = some (NDo P w a ents) ∧ Paired (EntOk G) ents kvs := by
  obtain ⟨v, h1, a, o, rfl, h3, _, _, ents, rfl, h6⟩ := x.get hi (by simp)
  exact ⟨a, ents, h1, h3, h6⟩
theorem e_nIn {neg : Bool} (i : Nat) (hi : γ[i]? = some (.own (dctO P w kvs))) (ha : EvS C γ ta (.py (tsD cs))) : EvS C γ (tOp (rNIn P w neg) ta (tVar i)) (.py (.bool (if neg then !(lookD kvs cs).isSome else (lookD kvs cs).isSome))) := fun G0 H0 σ G H Q x q =>
  ha G0 H0 σ G H _ x fun v G1 H1 g1 r1 => by
    obtain ⟨b, rfl⟩ := rp_tsD r1
    have y := x.grow g1
    obtain ⟨a, ents, h1, h2, h3⟩ := own_dct y i hi
    refine ⟨_, h1, b, a, cs, ents, rfl, rfl, (keyH_of r1).mono g1.gh, h2, ents_keys g1.gh h3, q _ G1 H1 g1 ?_⟩
    have e : (findN ents cs).isSome = (lookD kvs cs).isSome := by
      rcases ents_find (cs := cs) h3 with ⟨z1, z2⟩ | ⟨_, _, z1, z2, _⟩ <;> rw [z1, z2] <;> rfl
    rw [e]
    exact Rp.bl _
theorem e_nGet (i : Nat) (hi : γ[i]? = some (.own (dctO P w kvs))) (hb : EvS C γ tb (.py (tsD cs))) (hl : lookD kvs cs = some d) : EvS C γ (tOp (rNGet P w) (tVar i) tb) (.py d) := fun G0 H0 σ G H Q x q => by
  obtain ⟨a0, _, h0, _, _⟩ := own_dct x i hi
  refine ⟨_, h0, hb G0 H0 σ G H _ x fun v G1 H1 g1 r1 => ?_⟩
  obtain ⟨b, rfl⟩ := rp_tsD r1
  have y := x.grow g1
  obtain ⟨a, ents, h1, h2, h3⟩ := own_dct y i hi
  rw [h0] at h1
  cases h1
  rcases ents_find (cs := cs) h3 with ⟨_, z2⟩ | ⟨v', d', z1, z2, z3⟩
  · rw [hl] at z2
    cases z2
  · rw [hl] at z2
    cases z2
    exact ⟨_, b, cs, ents, v', rfl, rfl, (keyH_of r1).mono g1.gh, h2, ents_keys g1.gh h3, z1, q _ G1 H1 g1 z3⟩
theorem e_nGetO (i : Nat) (hi : γ[i]? = some (.own (dctO P w kvs))) (hb : EvS C γ tb (.py (tsD cs))) (he : EvS C γ te (.py d)) : EvS C γ (tNGetO P w (tVar i) tb te) (.py ((lookD kvs cs).getD d)) := fun G0 H0 σ G H Q x q => by
  obtain ⟨a0, ents0, h0, h00, _⟩ := own_dct x i hi
  refine ⟨_, h0, ⟨a0, ents0, rfl, h00⟩, hb G0 H0 σ G H _ x fun v G1 H1 g1 r1 => he G0 H0 σ G1 H1 _ (x.grow g1) fun u G2 H2 g2 r2 => ?_⟩
  obtain ⟨b, rfl⟩ := rp_tsD r1
  have y := x.grow (g1.trans g2)
  obtain ⟨a, ents, h1, h2, h3⟩ := own_dct y i hi
  rw [h0] at h1
  cases h1
  have r1' : Rp G2 (.ref b) (tsD cs) := Rp.mono g2.gg r1
  refine ⟨_, b, cs, ents, rfl, rfl, (keyH_of r1').mono g2.gh, h2, ents_keys g2.gh h3, ?_⟩
  rcases ents_find (cs := cs) h3 with ⟨z1, z2⟩ | ⟨v', d', z1, z2, z3⟩
  · rw [z1]
    refine q _ G2 H2 (g1.trans g2) ?_
    rw [z2]
    exact r2
  · rw [z1]
    refine q _ G2 H2 (g1.trans g2) ?_
    rw [z2]
    exact z3
theorem r_nput (i : Nat) (hi : γ[i]? = some (.own (dctO P w kvs))) (hv : EvS C γ tv (.py d)) (hb : EvS C γ tb (.py (tsD cs))) (hz : kvs.length < 1000000) (h : Po.nx (γ.set i (.own (dctO P w (putD kvs cs d))))) : Run C G0 H0 γ (sNPut P w (tVar i) tb tv) Po := fun σ G H D x q =>
  hv G0 H0 σ G H _ x fun v G1 H1 g1 r1 => by
    obtain ⟨a0, _, h0, _, _⟩ := own_dct (x.grow g1) i hi
    refine ⟨_, h0, hb G0 H0 σ G1 H1 _ (x.grow g1) fun u G2 H2 g2 r2 => ?_⟩
    obtain ⟨b, rfl⟩ := rp_tsD r2
    have y := x.grow (g1.trans g2)
    obtain ⟨a, ents, h1, h2, h3⟩ := own_dct y i hi
    rw [h0] at h1
    cases h1
    refine ⟨a0, b, cs, ents, rfl, rfl, (keyH_of r2).mono g2.gh, h2, ents_keys g2.gh h3, by rw [Paired.length h3]; exact hz, q.nx _ _ _ _ h (g1.trans g2).gg (y.write hi h0 ?_)⟩
    exact ⟨_, rfl, ents_put r2 (Rp.mono g2.gg r1) h3⟩
theorem e_nSort (i : Nat) (hi : γ[i]? = some (.own (dctO P w kvs))) (hz : kvs.length ≤ 1000000) (hne : ∀ e, e ∈ kvs → e.1 ≠ []) : EvS C γ (tCB (rSortN P w) (tCons (tVar i) tNil)) (.own (.lst ((srt (ltR ltC) (kvs.map fun e => e.1)).map tsD))) := fun G0 H0 σ G H Q x q => by
  obtain ⟨a, ents, h1, h2, h3⟩ := own_dct x i hi
  have ek := ents_ek h3
  refine ⟨_, h1, a, ents, rfl, h2, ents_keys x.same h3, fun e he => ?_, by rw [Paired.length h3]; exact hz, fun p ws hp hw => ?_⟩
  · have : e.1 ∈ kvs.map fun e => e.1 := by
      rw [← ek]
      exact List.mem_map_of_mem he
    obtain ⟨kv, hk, e2⟩ := List.mem_map.mp this
    rw [← e2]
    exact hne kv hk
  · refine q (.ref p) _ _ (Grow.own x.same hp) ⟨p, _, rfl, upd_same, x.same.free hp, hp, ws, rfl, ?_⟩
    have el : dataLe false tsD = fun a b => !ltR ltC b a := by
      funext a b
      show (!PySem.W.dataLt (tsD b) (tsD a)) = _
      rw [o_ts.lt]
    rw [el, ek] at hw
    have all := ents_rp h3
    unfold srt
    generalize (kvs.map fun e => e.1).mergeSort _ = ks at hw
    clear hne q
    induction hw with
    | nil => exact .nil
    | cons z t ih =>
      obtain ⟨e, he, rfl, rfl⟩ := z
      exact .cons (all e he) ih
end
end Pg

namespace Pg
open PySem PySem.Spec PyProof.Rows L2

/-! ## things that are new since the entry, told by relations -/
structure Rel (α : Type) where
  R : Hp → Hp → V → α → Prop
  m : ∀ H0 G G' v x, Same G G' → R H0 G v x → R H0 G' v x
  k : ∀ H0 H1 G v x, Same H0 H1 → R H1 G v x → R H0 G v x
  d : α → PyData
  rp : ∀ H0 G v x, R H0 G v x → Rp G v (d x)
/-- a new list of data -/
def Rel.nl {α : Type} (f : α → PyData) : Rel (List α) where
  R := fun H0 G v xs => ∃ b us, v = .ref b ∧ G b = some (.lst us) ∧ RpA G us (xs.map f) ∧ H0 b = none
  m := fun _ _ _ _ _ e ⟨b, us, h1, h2, h3, h4⟩ => ⟨b, us, h1, e _ _ h2, RpA.mono e h3, h4⟩
  k := fun _ _ _ _ _ e ⟨b, us, h1, h2, h3, h4⟩ => ⟨b, us, h1, h2, h3, e.free h4⟩
  d := fun xs => .list (xs.map f)
  rp := fun _ _ _ _ ⟨b, us, h1, h2, h3, _⟩ => by
    subst h1
    exact Rp.lst h2 h3
/-- items of such, as data -/
theorem Rel.rpA {α : Type} (r : Rel α) {H0 G : Hp} : ∀ {vs : List V} {xs : List α}, Paired (r.R H0 G) vs xs → RpA G vs (xs.map r.d)
  | _, _, .nil => .nil
  | _, _, .cons h t => .cons (r.rp _ _ _ _ h) (Rel.rpA r t)
/-- a new list of such things -/
def Rel.list {α : Type} (r : Rel α) : Rel (List α) where
  R := fun H0 G v xs => ∃ b vs, v = .ref b ∧ G b = some (.lst vs) ∧ Paired (r.R H0 G) vs xs ∧ H0 b = none
  m := fun _ _ _ _ _ e ⟨b, vs, h1, h2, h3, h4⟩ => ⟨b, vs, h1, e _ _ h2, paired_imp (fun _ _ q => r.m _ _ _ _ _ e q) h3, h4⟩
  k := fun _ _ _ _ _ e ⟨b, vs, h1, h2, h3, h4⟩ => ⟨b, vs, h1, h2, paired_imp (fun _ _ q => r.k _ _ _ _ _ e q) h3, e.free h4⟩
  d := fun xs => .list (xs.map r.d)
  rp := fun _ _ _ _ ⟨b, vs, h1, h2, h3, _⟩ => by
    subst h1
    exact Rp.lst h2 (r.rpA h3)
def sR {α : Type} (r : Rel α) (x : α) : Sl := .nw (fun H0 G v => r.R H0 G v x) (fun _ _ _ _ e h => r.m _ _ _ _ _ e h) (fun _ _ _ _ e h => r.k _ _ _ _ _ e h)
def oR {α : Type} (r : Rel α) (xs : List α) : Own := .any (fun H0 G _ o => ∃ vs, o = .lst vs ∧ Paired (r.R H0 G) vs xs) (fun _ _ _ _ _ e ⟨vs, h1, h2⟩ => ⟨vs, h1, paired_imp (fun _ _ q => r.m _ _ _ _ _ e q) h2⟩) (fun _ _ _ _ _ e ⟨vs, h1, h2⟩ => ⟨vs, h1, paired_imp (fun _ _ q => r.k _ _ _ _ _ e q) h2⟩)
theorem paired_app {α β : Type} {R : α → β → Prop} : ∀ {xs xs' : List α} {ys ys' : List β}, Paired R xs ys → Paired R xs' ys' → Paired R (xs ++ xs') (ys ++ ys')
  | _, _, _, _, .nil, q => q
  | _, _, _, _, .cons r t, q => .cons r (paired_app t q)
section
variable {C : Addr} {γ : Env} {K : PySem.W.Frag} {ta tb te : TE} {α β : Type} {r : Rel α} {x : α} {xs ys : List α} {f : α → PyData} {G0 H0 : Hp} {Po : Post} {ts : TS}
theorem e_sR (i : Nat) (h : γ[i]? = some (sR r x)) : EvS C γ (tVar i) (.py (r.d x)) := fun G0 H0 σ G H Q z q => by
  obtain ⟨v, h1, h2⟩ := z.get h (by unfold sR; simp)
  exact ⟨v, h1, q v G H (Grow.refl z.same) (r.rp _ _ _ _ h2)⟩
theorem e_dR {γ : Env} (h : EvS C γ te (sR r x)) : EvS C γ te (.py (r.d x)) := fun G0 H0 σ G H Q z q => h G0 H0 σ G H _ z fun v G' H' g h2 => q v G' H' g (r.rp _ _ _ _ h2)
theorem e_frzN (h : EvS C γ te (.own (.lst (xs.map f)))) : EvS C γ te (sR (Rel.nl f) xs) := fun G0 H0 σ G H Q z q =>
  h G0 H0 σ G H _ z fun v G' H' g hr => by
    obtain ⟨a, o, rfl, h3, h4, h5, vs, rfl, h6⟩ := hr
    exact q (.ref a) _ H' (g.frz h5 h4 h3) ⟨a, vs, rfl, upd_same, RpA.mono (same_new h4) h6, h5⟩
theorem e_frzR (h : EvS C γ te (.own (oR r xs))) : EvS C γ te (sR r.list xs) := fun G0 H0 σ G H Q z q =>
  h G0 H0 σ G H _ z fun v G' H' g hr => by
    obtain ⟨a, o, rfl, h3, h4, h5, vs, rfl, h6⟩ := hr
    exact q (.ref a) _ H' (g.frz h5 h4 h3) ⟨a, vs, rfl, upd_same, paired_imp (fun _ _ q => r.m _ _ _ _ _ (same_new h4) q) h6, h5⟩
theorem l_newR (h : EvS C γ te (.own (oR r xs))) : EvL C γ te (xs.map r.d) := fun G0 H0 σ G H Q z q =>
  h G0 H0 σ G H _ z fun v G' H' g hr => by
    obtain ⟨a, o, rfl, h3, _, _, vs, rfl, h6⟩ := hr
    exact q a vs G' H' g h3 (r.rpA h6)
theorem l_ownR (i : Nat) (h : γ[i]? = some (.own (oR r xs))) : EvL C γ (tVar i) (xs.map r.d) := fun G0 H0 σ G H Q z q => by
  obtain ⟨v, h1, a, o, rfl, h3, _, _, vs, rfl, h6⟩ := z.get h (by simp)
  exact ⟨_, h1, q a vs G H (Grow.refl z.same) h3 (r.rpA h6)⟩
/-- a slot's own list of such freezes -/
theorem Stt.frzR {σ : L2.St} {G H : Hp} (x : Stt C G0 H0 γ σ G H) (i : Nat) (hi : γ[i]? = some (.own (oR r xs))) : ∃ G', Same G G' ∧ Stt C G0 H0 (γ.set i (sR r.list xs)) σ G' H := by
  obtain ⟨v, h1, a, o, rfl, h3, h4, h5, vs, rfl, h6⟩ := x.get hi (by simp)
  have e : Same G (upd G a (.lst vs)) := same_new h4
  have hil : i < γ.length := (List.getElem?_eq_some_iff.mp hi).1
  have other : ∀ {m : Nat} {w : Own}, (γ.set i (sR r.list xs))[m]? = some (.own w) → m ≠ i ∧ γ[m]? = some (.own w) := fun {m w} h => by
    by_cases z : m = i
    · rw [z, List.getElem?_set_self hil] at h
      unfold sR at h
      cases h
    · rw [List.getElem?_set_ne (Ne.symm z)] at h
      exact ⟨z, h⟩
  refine ⟨_, e, x.gr.frz h5 h4 h3, by rw [List.length_set]; exact x.ln, fun j t h => ?_, fun j k u w b q1 q2 q3 q4 => x.ap j k u w b (other q1).2 (other q2).2 q3 q4⟩
  by_cases z : j = i
  · rw [z, List.getElem?_set_self hil] at h
    cases h
    rw [z]
    exact .inr ⟨_, h1, a, vs, rfl, upd_same, paired_imp (fun _ _ q => r.m _ _ _ _ _ e q) h6, h5⟩
  · rw [List.getElem?_set_ne (Ne.symm z)] at h
    rcases x.ok j t h with y | ⟨u, u1, u2⟩
    · exact .inl y
    · refine .inr ⟨u, u1, ?_⟩
      cases t with
      | no => trivial
      | py d => exact Rp.mono e u2
      | brd cs => exact Brd.mono e u2
      | pr p m => exact m _ _ _ e u2
      | nw p m k => exact m _ _ _ _ e u2
      | own w =>
        obtain ⟨b, o', rfl, b2, b3, b4, b5⟩ := u2
        have nb : b ≠ a := fun q => z (x.ap j i w _ a h hi (by rw [← q]; exact u1) h1)
        exact ⟨b, o', rfl, b2, by rw [upd_ne nb]; exact b3, b4, b5.mono e⟩
theorem r_frzR (i : Nat) (hi : γ[i]? = some (.own (oR r xs))) (h : Run C G0 H0 (γ.set i (sR r.list xs)) ts Po) : Run C G0 H0 γ ts Po := fun σ G H D z q => by
  obtain ⟨G', e, y⟩ := z.frzR i hi
  exact h σ G' H D y (q.up e)
/-- [e] -/
theorem e_lst1R (h : EvS C γ te (sR r x)) : EvS C γ (tLst (tCons te tNil)) (.own (oR r [x])) := fun G0 H0 σ G H Q z q =>
  h G0 H0 σ G H _ z fun v G' H' g hr => ⟨small (by decide : 1 ≤ 1000000), fun p hp => q (.ref p) _ _ (g.trans (Grow.own g.gh hp)) ⟨p, _, rfl, upd_same, g.gh.free hp, g.hh.free hp, [v], rfl, .cons hr .nil⟩⟩
theorem e_lst0R : EvS C γ (tLst tNil) (.own (oR r [])) := fun G0 H0 σ G H Q z q => ⟨small (by decide : 0 ≤ 1000000), fun p hp => q (.ref p) _ _ (Grow.own z.same hp) ⟨p, _, rfl, upd_same, z.same.free hp, hp, [], rfl, .nil⟩⟩
/-- xs.append(e) -/
theorem r_appR (i : Nat) (hi : γ[i]? = some (.own (oR r xs))) (he : EvS C γ te (sR r x)) (hz : xs.length < 1000000) (h : Po.nx (γ.set i (.own (oR r (xs ++ [x]))))) : Run C G0 H0 γ (tDrop (tBM K "list" rAppend (tVar i) (tCons te tNil))) Po := fun σ G H D z q => by
  obtain ⟨v, h1, a, o, rfl, h3, _, _, vs, rfl, h6⟩ := z.get hi (by simp)
  refine ⟨_, h1, .inl ⟨rfl, _, SqL.of h3⟩, he G0 H0 σ G H _ z fun v G' H' g hr => ?_⟩
  have y := z.grow g
  refine ⟨a, vs, v, rfl, rfl, g.hh _ _ h3, by rw [Paired.length h6]; exact small' hz, q.nx _ _ _ _ h g.gg (y.write hi h1 ⟨_, rfl, paired_app (paired_imp (fun _ _ q => r.m _ _ _ _ _ g.gg q) h6) (.cons (r.k _ _ _ _ _ z.gr.hh hr) .nil)⟩)⟩
/-- xs.append(y), y in a slot -/
theorem r_appRR (i j : Nat) (hi : γ[i]? = some (.own (oR r xs))) (hj : γ[j]? = some (sR r x)) (hz : xs.length < 1000000) (h : Po.nx (γ.set i (.own (oR r (xs ++ [x]))))) : Run C G0 H0 γ (tDrop (tBM K "list" rAppend (tVar i) (tCons (tVar j) tNil))) Po := fun σ G H D z q => by
  obtain ⟨v, h1, a, o, rfl, h3, _, _, vs, rfl, h6⟩ := z.get hi (by simp)
  obtain ⟨u, j1, j2⟩ := z.get hj (by unfold sR; simp)
  refine ⟨_, h1, .inl ⟨rfl, _, SqL.of h3⟩, _, j1, ?_⟩
  exact ⟨a, vs, u, rfl, rfl, h3, by rw [Paired.length h6]; exact small' hz, q.nx _ _ _ _ h (Same.refl _) (z.write hi h1 ⟨_, rfl, paired_app h6 (.cons j2 .nil)⟩)⟩
/-- xs = xs + ys: a slot's own one and a frozen one -/
theorem r_catRR (i j : Nat) (hi : γ[i]? = some (.own (oR r xs))) (hj : γ[j]? = some (sR r.list ys)) (hz : xs.length + ys.length ≤ 1000000) (h : Po.nx (γ.set i (.own (oR r (xs ++ ys))))) : Run C G0 H0 γ (tAsg (tOp rCat (tVar i) (tVar j)) (gName i)) Po := fun σ G H D z q => by
  obtain ⟨v, h1, a, o, rfl, h3, h4, h5, vs, rfl, h6⟩ := z.get hi (by simp)
  obtain ⟨u, j1, b, ws, rfl, j2, j3, _⟩ := z.get hj (by unfold sR; simp)
  refine ⟨_, h1, _, j1, a, b, vs, ws, rfl, rfl, h3, z.same _ _ j2, by rw [Paired.length h6, Paired.length j3]; exact small hz, fun p hp => ?_⟩
  have g : Grow G H G (upd H p (.lst (vs ++ ws))) := Grow.own z.same hp
  have y := z.grow g
  have hil : i < γ.length := (List.getElem?_eq_some_iff.mp hi).1
  have hpn : H0 p = none := z.gr.hh.free hp
  refine q.nx _ _ _ _ h (Same.refl _) ⟨y.gr, by rw [List.length_set, List.length_set]; exact y.ln, fun k t hk => ?_, fun k l w1 w2 c k1 k2 k3 k4 => ?_⟩
  · by_cases e : k = i
    · rw [e, List.getElem?_set_self hil] at hk
      cases hk
      rw [e]
      exact .inr ⟨.ref p, List.getElem?_set_self (by rw [y.ln]; exact hil), p, _, rfl, upd_same, z.same.free hp, hpn, _, rfl, paired_app h6 j3⟩
    · rw [List.getElem?_set_ne (Ne.symm e)] at hk
      rcases y.ok k t hk with w | ⟨w, w1, w2⟩
      · exact .inl w
      · exact .inr ⟨w, by rw [List.getElem?_set_ne (Ne.symm e)]; exact w1, w2⟩
  · have old : ∀ (m : Nat) (w : Own), m ≠ i → (γ.set i (.own (oR r (xs ++ ys))))[m]? = some (.own w) → (σ.set i (some (V.ref p)))[m]? = some (some (.ref c)) → γ[m]? = some (.own w) ∧ σ[m]? = some (some (.ref c)) ∧ c ≠ p := fun m w hm hg hs => by
      rw [List.getElem?_set_ne (Ne.symm hm)] at hg hs
      refine ⟨hg, hs, fun e => ?_⟩
      obtain ⟨v', s1, a', o', s2, s3, _⟩ := z.get hg (by simp)
      rw [hs] at s1
      cases s1
      cases s2
      rw [e, hp] at s3
      cases s3
    by_cases ek : k = i
    · by_cases el : l = i
      · rw [ek, el]
      · rw [ek, List.getElem?_set_self (by rw [z.ln]; exact hil)] at k3
        cases k3
        exact absurd rfl (old l w2 el k2 k4).2.2
    · by_cases el : l = i
      · rw [el, List.getElem?_set_self (by rw [z.ln]; exact hil)] at k4
        cases k4
        exact absurd rfl (old k w1 ek k1 k3).2.2
      · obtain ⟨p1, p2, _⟩ := old k w1 ek k1 k3
        obtain ⟨q1, q2, _⟩ := old l w2 el k2 k4
        exact z.ap k l w1 w2 c p1 q1 p2 q2
/-- [h(x) for x in xs], each a new thing -/
theorem e_lcN {g : TG} {tl : TE} {vs : List Nat} {zs : List β} {fz : β → PyData} {h : β → α} (hl : EvL C γ tl (zs.map fz)) (hz : zs.length < 1000000) (ht : ∀ z ∈ zs, ∃ γ2, TgC C g (fz z) vs (wipeE γ vs) γ2 ∧ EvS C γ2 te (sR r (h z))) :
    EvS C γ (tLc (iList K tl) g tYes te vs) (.own (oR r (zs.map h))) := fun G0 H0 σ G H Q x q =>
  hl G0 H0 σ G H _ x fun a us G1 H1 g1 ha hr => by
    refine ⟨a, rfl, ⟨us, SqL.of ha⟩, fun D hD => ?_⟩
    have hl0 : us.length = zs.length := by rw [hr.len, List.length_map]
    refine lc_list (K := K) (a := a) (xs := us) (fun i H' => ∃ G' ws, Grow G1 H1 G' H' ∧ H' D = some (.lst ws) ∧ G' D = none ∧ Paired (r.R H G') ws ((zs.take i).map h)) ⟨G1, [], Grow.own g1.gh hD, upd_same, g1.gh.free hD, .nil⟩
      (fun i H' _ ⟨G', _, gr, _⟩ => SqL.of (gr.hh _ _ ha)) ?_ ?_
    · rintro i y H' hi ⟨G', ws, gr, hd, hG, hw⟩
      obtain ⟨d, hd1, rd⟩ := hr.get hi
      rw [List.getElem?_map] at hd1
      cases ex : zs[i]? with
      | none =>
        rw [ex] at hd1
        cases hd1
      | some z =>
        rw [ex] at hd1
        cases hd1
        obtain ⟨γ2, tg, he⟩ := ht z (List.mem_of_getElem? ex)
        have x' := (x.grow (g1.trans gr)).wipes vs
        refine tg G0 H0 σ G' H' y _ x' (Rp.mono gr.gg rd) fun σ2 x2 hwp => ⟨hwp, ?_⟩
        have hil : i < zs.length := (List.getElem?_eq_some_iff.mp ex).1
        show te σ2 H' _
        refine he G0 H0 σ2 G' H' _ x2 fun v G2 H2 g2 r2 => ?_
        have kD : G2 D = none := g2.nw D hG (by rw [hd]; simp)
        have hlen : ws.length < sizeLine := by
          rw [Paired.length hw, List.length_map, List.length_take]
          exact small' (by omega)
        refine ⟨ws, g2.hh _ _ hd, hlen, G2, ws ++ [v], (gr.trans g2).put hD kD, upd_same, kD, ?_⟩
        rw [List.take_add_one, ex, Option.toList_some, List.map_append]
        exact paired_app (paired_imp (fun _ _ q => r.m _ _ _ _ _ g2.gg q) hw) (.cons (r.k _ _ _ _ _ (g1.trans gr).hh r2) .nil)
    · rintro H' ⟨G', ws, gr, hd, hG, hw⟩
      rw [hl0, List.take_length] at hw
      exact q (.ref D) G' H' (g1.trans gr) ⟨D, _, rfl, hd, hG, g1.hh.free hD, ws, rfl, hw⟩
/-- for x in a new list of such things, x in a slot -/
theorem r_forNw {i : Nat} {tl : TE} (hl : EvS C γ tl (sR r.list xs)) (I : Nat → Env → Prop) (h0 : I 0 γ)
    (hs : ∀ k x γ1, xs[k]? = some x → I k γ1 → Run C G0 H0 (γ1.set i (sR r x)) ts { Po with nx := I (k + 1), ct := I (k + 1), bk := Po.nx })
    (hd : ∀ γ1, I xs.length γ1 → Po.nx γ1) : Run C G0 H0 γ (tFor (iList K tl) (gName i) ts) Po := fun σ G H D z q =>
  hl G0 H0 σ G H _ z fun v G1 H1 g1 r1 => by
    obtain ⟨a, vs, rfl, ha, hr, _⟩ := r1
    have hr0 : Paired (r.R H0 G1) vs xs := paired_imp (fun _ _ q => r.k _ _ _ _ _ z.gr.hh q) hr
    refine ⟨a, rfl, ⟨vs, SqL.of (g1.gh _ _ ha)⟩, for_list (K := K) (a := a) (xs := vs) (fun k σ' H' => ∃ γ1 G', I k γ1 ∧ Stt C G0 H0 γ1 σ' G' H' ∧ Same G1 G') ⟨γ, G1, h0, z.grow g1, Same.refl _⟩ (fun k σ' H' _ ⟨_, G', _, x', e'⟩ => SqL.of (x'.same _ _ (e' _ _ ha))) ?_ ?_⟩
    · rintro k y σ' H' hi ⟨γ1, G', i1, x', e'⟩
      obtain ⟨x, hx, rx⟩ := paired_get2 hr0 hi
      have st : Stt C G0 H0 (γ1.set i (sR r x)) (σ'.set i (some y)) G' H' := by
        have hR : r.R H0 G' y x := r.m _ _ _ _ _ e' rx
        refine ⟨x'.gr, by rw [List.length_set, List.length_set]; exact x'.ln, fun j t hj => ?_, fun j l w1 w2 c k1 k2 k3 k4 => ?_⟩
        · by_cases e : j = i
          · have hil : i < γ1.length := by
              have := (List.getElem?_eq_some_iff.mp hj).1
              rw [List.length_set] at this
              omega
            rw [e, List.getElem?_set_self hil] at hj
            cases hj
            rw [e]
            exact .inr ⟨y, List.getElem?_set_self (by rw [x'.ln]; exact hil), hR⟩
          · rw [List.getElem?_set_ne (Ne.symm e)] at hj
            rcases x'.ok j t hj with w | ⟨w, w1, w2⟩
            · exact .inl w
            · exact .inr ⟨w, by rw [List.getElem?_set_ne (Ne.symm e)]; exact w1, w2⟩
        · have ne : ∀ (m : Nat) (w : Own), (γ1.set i (sR r x))[m]? = some (.own w) → m ≠ i := fun m w hm e => by
            have hil : i < γ1.length := by
              have := (List.getElem?_eq_some_iff.mp hm).1
              rw [List.length_set] at this
              omega
            rw [e, List.getElem?_set_self hil] at hm
            unfold sR at hm
            cases hm
          have n1 := ne j w1 k1
          have n2 := ne l w2 k2
          rw [List.getElem?_set_ne (Ne.symm n1)] at k1 k3
          rw [List.getElem?_set_ne (Ne.symm n2)] at k2 k4
          exact x'.ap j l w1 w2 c k1 k2 k3 k4
      exact hs k x γ1 hx i1 _ G' H' _ st ⟨fun γ3 σ3 G3 H3 p e3 x3 => ⟨γ3, G3, p, x3, e'.trans e3⟩, q.rt, fun γ3 σ3 G3 H3 p e3 x3 => q.nx γ3 σ3 G3 H3 p ((g1.gg.trans e').trans e3) x3, fun γ3 σ3 G3 H3 p e3 x3 => ⟨γ3, G3, p, x3, e'.trans e3⟩⟩
    · rintro σ' H' ⟨γ1, G', i1, x', e'⟩
      rw [Paired.length hr0] at i1
      exact q.nx γ1 σ' G' H' (hd γ1 i1) (g1.gg.trans e') x'
end
end Pg

namespace Pg
open PySem PySem.Spec PyProof.Rows L2

/-! ## a part run by itself: what was there ahead of it is told by the part that was frozen then -/
section
variable {C : Addr}
theorem ArgOk.sl {H0 G H : Hp} {v : V} : ∀ {s : Sl}, ArgOk C G v s → SlOk C H0 G H v s
  | .py _, h => h
  | .brd _, h => h
  | .pr _ _, h => h
def isArg : Sl → Bool
  | .py _ => true
  | .brd _ => true
  | .pr _ _ => true
  | _ => false
theorem SlOk.arg {H0 G H : Hp} {v : V} : ∀ {s : Sl}, isArg s = true → SlOk C H0 G H v s → ArgOk C G v s
  | .py _, _, h => h
  | .brd _, _, h => h
  | .pr _ _, _, h => h
  | .no, h, _ => by cases h
  | .own _, h, _ => by cases h
  | .nw _ _ _, h, _ => by cases h
def fx (C : Addr) (Gf : Hp) (s : Sl) : Sl := .pr (fun G v => ArgOk C Gf v s ∧ Same Gf G) (fun _ _ _ e h => ⟨h.1, h.2.trans e⟩)
theorem e_fx {γ : Env} {Gf : Hp} {s : Sl} (i : Nat) (h : γ[i]? = some (fx C Gf s)) : EvS C γ (tVar i) s := fun G0 H0 σ G H Q x q => by
  obtain ⟨v, h1, h2, h3⟩ := x.get h (by unfold fx; simp)
  exact ⟨v, h1, q v G H (Grow.refl x.same) (ArgOk.sl (ArgOk.mono (C := C) h3 h2))⟩
theorem l_fx {γ : Env} {Gf : Hp} {ds : List PyData} (i : Nat) (h : γ[i]? = some (fx C Gf (.py (.list ds)))) : EvL C γ (tVar i) ds := l_py (e_fx i h)
/-- entering -/
inductive Fxd (C : Addr) (Gf : Hp) : Sl → Sl → Prop
  | no (s : Sl) : Fxd C Gf s .no
  | fx {s : Sl} (h : isArg s = true) : Fxd C Gf s (fx C Gf s)
/-- leaving -/
inductive Wk (C : Addr) : Sl → Sl → Prop
  | same (s : Sl) : Wk C s s
  | no (s : Sl) : Wk C s .no
  | un (Gf : Hp) (s : Sl) : Wk C (fx C Gf s) s
variable {G0 H0 G H : Hp} {γ γ2 : Env} {σ : L2.St} {ts tu : TS} {P : Post}
theorem isArg_own {Gf : Hp} {s : Sl} (n : ∃ w, s = .own w) {t : Sl} (h : Fxd C Gf t s) : False := by
  obtain ⟨w, e⟩ := n
  cases h with
  | no => cases e
  | fx _ => unfold fx at e; cases e
theorem Stt.up {γ : Env} {σ : L2.St} {G' H' : Hp} (g : Grow G0 H0 G H) (x : Stt C G H γ σ G' H') : Stt C G0 H0 γ σ G' H' :=
  ⟨g.trans x.gr, x.ln, fun i s h => (x.ok i s h).imp id fun ⟨v, h1, h2⟩ => ⟨v, h1, h2.back g.hh⟩, x.ap⟩
theorem Stt.enter (x : Stt C G0 H0 γ σ G H) (h : Paired (Fxd C G) γ γ2) : Stt C G H γ2 σ G H := by
  refine ⟨Grow.refl x.same, by rw [x.ln, h.length], fun i s hs => ?_, fun i j u w a h1 h2 _ _ => ?_⟩
  · obtain ⟨t, ht, f⟩ := paired_get h hs
    cases f with
    | no => exact .inl rfl
    | fx ha =>
      rcases x.ok i t ht with z | ⟨v, h1, h2⟩
      · rw [z] at ha
        cases ha
      · exact .inr ⟨v, h1, h2.arg ha, Same.refl G⟩
  · obtain ⟨t, ht, f⟩ := paired_get h h1
    exact False.elim (isArg_own ⟨_, rfl⟩ f)
/-- what follows hangs on the part that was frozen at the entry alone -/
def RunZ (C : Addr) (G0 H0 : Hp) (γ : Env) (ts : TS) (P : Post) : Prop := ∀ (σ : L2.St) (G H : Hp) (D : Ends), Stt C G0 H0 γ σ G H → Sat C G0 H0 G0 D P → ts D σ H
theorem z_of (h : Run C G0 H0 γ ts P) : RunZ C G0 H0 γ ts P := fun σ G H D x q => h σ G H D x (q.up x.gr.gg)
theorem z_seq (h : RunZ C G0 H0 γ ts { P with nx := fun γ' => RunZ C G0 H0 γ' tu P }) : RunZ C G0 H0 γ (tSeq ts tu) P := fun σ G H D x q =>
  h σ G H _ x ⟨fun γ' σ' G' H' h' e' x' => h' σ' G' H' D x' q, q.rt, q.bk, q.ct⟩
theorem r_sub (γ' : Hp → Env) (hγ : ∀ Gf, Paired (Fxd C Gf) γ (γ' Gf)) (h : ∀ Gf Hf, Same Gf Hf → RunZ C Gf Hf (γ' Gf) ts P) : Run C G0 H0 γ ts P := fun σ G H D x q =>
  h G H x.same σ G H D (x.enter (hγ G)) ⟨fun γ σ G' H' p e x' => q.nx γ σ G' H' p e (x'.up x.gr), fun s v G' H' p g r => q.rt s v G' H' p (x.gr.trans g) (r.back x.gr.hh), fun γ σ G' H' p e x' => q.bk γ σ G' H' p e (x'.up x.gr), fun γ σ G' H' p e x' => q.ct γ σ G' H' p e (x'.up x.gr)⟩
theorem Stt.wk (x : Stt C G0 H0 γ σ G H) (h : Paired (Wk C) γ γ2) : Stt C G0 H0 γ2 σ G H := by
  refine ⟨x.gr, by rw [x.ln, h.length], fun i s hs => ?_, fun i j u w a h1 h2 h3 h4 => ?_⟩
  · obtain ⟨t, ht, f⟩ := paired_get h hs
    cases f with
    | same => exact x.ok i s ht
    | no => exact .inl rfl
    | un Gf =>
      rcases x.ok i _ ht with z | ⟨v, h1, h2, h3⟩
      · unfold fx at z
        cases z
      · exact .inr ⟨v, h1, ArgOk.sl (ArgOk.mono (C := C) h3 h2)⟩
  · have own : ∀ {m : Nat} {w : Own}, γ2[m]? = some (.own w) → σ[m]? = some (some (.ref a)) → γ[m]? = some (.own w) := fun {m w} hm hs => by
      obtain ⟨t, ht, f⟩ := paired_get h hm
      cases f with
      | same => exact ht
      | un Gf =>
        rcases x.ok m _ ht with z | ⟨v, z1, z2, z3⟩
        · unfold fx at z
          cases z
        · exact False.elim z2
    exact x.ap i j u w a (own h1 h3) (own h2 h4) h3 h4
theorem r_wk (h : Run C G0 H0 γ ts { nx := fun γ1 => ∃ γ2, Paired (Wk C) γ1 γ2 ∧ P.nx γ2, rt := P.rt, bk := P.bk, ct := P.ct }) : Run C G0 H0 γ ts P := fun σ G H D x q =>
  h σ G H D x ⟨fun γ1 σ' G' H' ⟨γ2, w, p⟩ e x' => q.nx γ2 σ' G' H' p e (x'.wk w), q.rt, q.bk, q.ct⟩
/-! ### what is one's own since the entry is written, what hangs on it forgotten -/
def del (G : Hp) (b : Addr) : Hp := fun c => if c = b then none else G c
theorem del_same {G G' : Hp} {b : Addr} (h : G b = none) (e : Same G G') : Same G (del G' b) := fun c o z => by
  have n : c ≠ b := fun q => by
    rw [q, h] at z
    cases z
  show (if c = b then none else G' c) = some o
  rw [if_neg n]
  exact e c o z
theorem del_ne {G : Hp} {b c : Addr} (n : c ≠ b) : del G b c = G c := if_neg n
theorem del_at {G : Hp} {b : Addr} : del G b b = none := if_pos rfl
theorem Stt.thaw (x : Stt C G0 H0 γ σ G H) {b : Addr} {o : HO} (hb : H0 b = none) (e0 : Same G0 H0) (ln : γ2.length = γ.length) (hf : ∀ (j : Nat) (s : Sl), γ2[j]? = some s → s = .no ∨ ∃ s' : Sl, s = fx C G0 s' ∧ γ[j]? = some s) : Stt C G0 H0 γ2 σ (del G b) (upd H b o) := by
  have g0 : G0 b = none := by
    cases z : G0 b with
    | none => rfl
    | some o =>
      rw [e0 b o z] at hb
      cases hb
  have sm : Same G0 (del G b) := del_same g0 x.gr.gg
  refine ⟨⟨sm, fun c p z => ?_, fun c p z => ?_, fun c z1 z2 => ?_⟩, by rw [x.ln, ln], fun j s hj => ?_, fun i j u w a h1 h2 _ _ => ?_⟩
  · by_cases n : c = b
    · rw [n, del_at] at z
      cases z
    · rw [del_ne n] at z
      rw [upd_ne n]
      exact x.gr.gh c p z
  · have n : c ≠ b := fun q => by
      rw [q, hb] at z
      cases z
    rw [upd_ne n]
    exact x.gr.hh c p z
  · by_cases n : c = b
    · rw [n]
      exact del_at
    · rw [del_ne n]
      exact x.gr.nw c z1 z2
  · rcases hf j s hj with z | ⟨s', rfl, hg⟩
    · exact .inl z
    · rcases x.ok j _ hg with z | ⟨v, h1, h2, _⟩
      · exact .inl z
      · exact .inr ⟨v, h1, h2, sm⟩
  · rcases hf i _ h1 with z | ⟨s', z, _⟩
    · cases z
    · unfold fx at z
      cases z
/-- an own thing is told of where no other one is -/
theorem Stt.own1 (x : Stt C G0 H0 γ σ G H) (i : Nat) {w : Own} {a : Addr} {o : HO} (hs : σ[i]? = some (some (.ref a))) (ha : H a = some o) (hg : G a = none) (h0 : H0 a = none) (r : OwnOk H0 G a o w) (no : ∀ (j : Nat) (u : Own), γ[j]? ≠ some (.own u)) : Stt C G0 H0 (γ.set i (.own w)) σ G H := by
  refine ⟨x.gr, by rw [List.length_set]; exact x.ln, fun j t h => ?_, fun j k u w' b h1 h2 _ _ => ?_⟩
  · by_cases e : j = i
    · subst e
      have hj : j < γ.length := by
        have := (List.getElem?_eq_some_iff.mp h).1
        rw [List.length_set] at this
        exact this
      rw [List.getElem?_set_self hj] at h
      cases h
      exact .inr ⟨_, hs, a, o, rfl, ha, hg, h0, r⟩
    · rw [List.getElem?_set_ne (Ne.symm e)] at h
      exact x.ok j t h
  · have one : ∀ (m : Nat) (u : Own), (γ.set i (.own w))[m]? = some (.own u) → m = i := fun m u hm => by
      by_cases e : m = i
      · exact e
      · rw [List.getElem?_set_ne (Ne.symm e)] at hm
        exact absurd hm (no m u)
    rw [one j u h1, one k w' h2]
/-! ### data is one -/
mutual
theorem Rp.det {G : Hp} : ∀ {v : V} {d e : PyData}, Rp G v d → Rp G v e → d = e
  | _, _, _, .non, .non => rfl
  | _, _, _, .bl _, .bl _ => rfl
  | _, _, _, .int _, .int _ => rfl
  | _, _, _, .str _, .str _ => rfl
  | _, _, _, .lst h r, .lst h' r' => by
    rw [h] at h'
    cases h'
    rw [RpA.det r r']
  | _, _, _, .tup h r, .tup h' r' => by
    rw [h] at h'
    cases h'
    rw [RpA.det r r']
  | _, _, _, .lst h _, .tup h' _ => by
    rw [h] at h'
    cases h'
  | _, _, _, .tup h _, .lst h' _ => by
    rw [h] at h'
    cases h'
theorem RpA.det {G : Hp} : ∀ {v : List V} {d e : List PyData}, RpA G v d → RpA G v e → d = e
  | _, _, _, .nil, .nil => rfl
  | _, _, _, .cons h r, .cons h' r' => by rw [Rp.det h h', RpA.det r r']
end
theorem map_inj {α β : Type} {f : α → β} (hf : ∀ a b, f a = f b → a = b) : ∀ {xs ys : List α}, xs.map f = ys.map f → xs = ys
  | [], [], _ => rfl
  | [], _ :: _, h => by cases h
  | _ :: _, [], h => by cases h
  | x :: xs, y :: ys, h => by
    rw [List.map_cons, List.map_cons] at h
    injection h with h1 h2
    rw [hf _ _ h1, map_inj hf h2]
theorem cD_inj {a b : Cell} (h : cD a = cD b) : a = b := by
  unfold cD at h
  injection h with h
  injection h with h1 h2
  injection h2 with h2 _
  injection h1 with h1
  injection h2 with h2
  exact Prod.ext h1 h2
theorem csD_inj {a b : List Cell} (h : csD a = csD b) : a = b := by
  unfold csD at h
  injection h with h
  exact map_inj (fun _ _ => cD_inj) h
/-- cells don't hang on a list -/
theorem cell_del {G : Hp} {b : Addr} {us : List V} (hb : G b = some (.lst us)) {v : V} {c : Cell} (r : Rp G v (cD c)) : Rp (del G b) v (cD c) := by
  have r' : Rp G v (.tuple [.int c.1, .int c.2]) := r
  cases r' with
  | @tup a xs _ h hr =>
    have n : a ≠ b := fun e => by
      rw [e, hb] at h
      cases h
    cases hr with
    | cons h1 hr =>
      cases hr with
      | cons h2 hr =>
        cases hr
        cases h1
        cases h2
        exact Rp.tup (by rw [del_ne n]; exact h) (.cons (.int _) (.cons (.int _) .nil))
theorem cells_del {G : Hp} {b : Addr} {us : List V} (hb : G b = some (.lst us)) : ∀ {vs : List V} {cs : List Cell}, RpA G vs (cs.map cD) → RpA (del G b) vs (cs.map cD)
  | [], [], _ => .nil
  | [], _ :: _, h => by cases h
  | _ :: _, [], h => by cases h
  | _ :: _, _ :: _, .cons h t => .cons (cell_del hb h) (cells_del hb t)
theorem stand_del {G : Hp} {b : Addr} {us : List V} {cs0 : List Cell} (hb : G b = some (.lst us)) (h0 : RpA G us (cs0.map cD)) {v : V} {cs : List Cell} (n : cs0 ≠ cs) (r : Rp G v (csD cs)) : Rp (del G b) v (csD cs) := by
  have r' : Rp G v (.list (cs.map cD)) := r
  cases r' with
  | @lst a xs _ h hr =>
    have ne : a ≠ b := fun e => by
      rw [e, hb] at h
      cases h
      refine n (csD_inj ?_)
      have := RpA.det h0 hr
      unfold csD
      rw [this]
    exact Rp.lst (by rw [del_ne ne]; exact h) (cells_del hb hr)
theorem stands_del {G : Hp} {b : Addr} {us : List V} {cs0 : List Cell} (hb : G b = some (.lst us)) (h0 : RpA G us (cs0.map cD)) : ∀ {vs : List V} {xs : List (List Cell)}, cs0 ∉ xs → RpA G vs (xs.map csD) → RpA (del G b) vs (xs.map csD)
  | [], [], _, _ => .nil
  | [], _ :: _, _, h => by cases h
  | _ :: _, [], _, h => by cases h
  | _ :: _, _ :: _, n, .cons h t => .cons (stand_del hb h0 (fun e => n (by rw [e]; exact List.mem_cons_self)) h) (stands_del hb h0 (fun e => n (List.mem_cons_of_mem _ e)) t)
/-! ### a list of standings, the first one changed -/
def tailO (xs : List (List Cell)) : Own := .any (fun _ G _ o => ∃ v vs, o = .lst (v :: vs) ∧ RpA G vs (xs.map csD)) (fun _ _ _ _ _ e ⟨v, vs, h1, h2⟩ => ⟨v, vs, h1, RpA.mono e h2⟩) (fun _ _ _ _ _ _ h => h)
variable {K : PySem.W.Frag} {te tb : TE} {d : PyData}
theorem r_thawHead (i : Nat) {x0 : List Cell} {xs : List (List Cell)} (e0 : Same G0 H0) (hi : γ[i]? = some (.own (oR (Rel.nl cD) (x0 :: xs)))) (hn : x0 ∉ xs) (hz : x0.length < 1000000) (hf : ∀ j s, j ≠ i → γ[j]? = some s → s = .no ∨ ∃ s', s = fx C G0 s') (he : EvS C γ te (.py d)) (h : P.nx (γ.set i (.own (tailO xs)))) :
    RunZ C G0 H0 γ (tDrop (tBM K "list" rAppend (tOp (rIxL K) (tVar i) (tC (.int 0))) (tCons te tNil))) P := fun σ G H D x q => by
  obtain ⟨v, h1, a, o, rfl, h3, h4, h5, vs, rfl, h6⟩ := x.get hi (by simp)
  cases h6 with
  | @cons v0 _ vs _ r0 rs =>
    obtain ⟨b, us, rfl, gb, hu, hb⟩ := r0
    refine ⟨_, h1, a, _, 0, .ref b, rfl, rfl, SqL.of h3, (atI_nat (j := 0) rfl : atI (V.ref b :: vs) ((0 : Nat) : Int) = some (V.ref b)), .inl ⟨rfl, us, SqL.of (x.same _ _ gb)⟩, he G0 H0 σ G H _ x fun w G' H' g r => ?_⟩
    have y := x.grow g
    have hl : us.length = x0.length := by rw [hu.len, List.length_map]
    refine ⟨b, us, w, rfl, rfl, g.hh _ _ (x.same _ _ gb), by rw [hl]; exact small' hz, ?_⟩
    have gb' : G' b = some (.lst us) := g.gg _ _ gb
    have hu' : RpA G' us (x0.map cD) := RpA.mono g.gg hu
    have nab : a ≠ b := fun e => by
      rw [e, gb] at h4
      cases h4
    have z : Stt C G0 H0 (γ.set i .no) σ (del G' b) (upd H' b (.lst (us ++ [w]))) := y.thaw hb e0 (by rw [List.length_set]) fun j s hj => by
      by_cases e : j = i
      · subst e
        have hjl : j < γ.length := (List.getElem?_eq_some_iff.mp hi).1
        rw [List.getElem?_set_self hjl] at hj
        exact .inl (Option.some.inj hj).symm
      · rw [List.getElem?_set_ne (Ne.symm e)] at hj
        rcases hf j s e hj with z | ⟨s', z⟩
        · exact .inl z
        · exact .inr ⟨s', z, hj⟩
    have z2 := z.own1 i (w := tailO xs) (a := a) (o := .lst (.ref b :: vs)) h1 (by rw [upd_ne nab]; exact g.hh _ _ h3) (by rw [del_ne nab]; exact g.nw a h4 (by rw [h3]; simp)) h5 ⟨_, vs, rfl, stands_del gb' hu' hn (RpA.mono g.gg ((Rel.nl cD).rpA rs))⟩ fun j u hj => by
      by_cases e : j = i
      · subst e
        have hjl : j < γ.length := (List.getElem?_eq_some_iff.mp hi).1
        rw [List.getElem?_set_self hjl] at hj
        cases hj
      · rw [List.getElem?_set_ne (Ne.symm e)] at hj
        rcases hf j _ e hj with z | ⟨s', z⟩
        · cases z
        · unfold fx at z
          cases z
    rw [List.set_set] at z2
    exact q.nx _ _ _ _ h z2.gr.gg z2
/-- found[1:] -/
theorem e_tailO (i : Nat) {xs : List (List Cell)} (hi : γ[i]? = some (.own (tailO xs))) : EvS C γ (tSl (rSlL K) (tVar i) (tPart (tC (.int 1))) tNoPart) (.own (.lst (xs.map csD))) := fun G0 H0 σ G H Q x q => by
  obtain ⟨v, h1, a, o, rfl, h3, h4, h5, v0, vs, rfl, h6⟩ := x.get hi (by simp)
  refine ⟨_, h1, 1, rfl, a, v0 :: vs, rfl, SqL.of h3, fun p hp => q (.ref p) _ _ (Grow.own x.same hp) ⟨p, _, rfl, upd_same, x.same.free hp, hp, vs, ?_, h6⟩⟩
  have e : cutV (v0 :: vs) (some 1) none = vs := by
    unfold cutV
    rw [HT.sIx_none, show (1 : Int) = ((1 : Nat) : Int) from rfl, HT.sIx_nat]
    have : min 1 (v0 :: vs).length = 1 := by
      rw [List.length_cons]
      omega
    rw [this, List.drop_one, List.tail_cons]
    exact List.take_of_length_le (by rw [List.length_cons]; omega)
  rw [e]
/-- found.pop() -/
theorem r_popT (i : Nat) {xs : List (List Cell)} (hi : γ[i]? = some (.own (tailO xs))) (h : P.nx (γ.set i .no)) : Run C G0 H0 γ (tDrop (tBM0 K "list" rPop (tVar i))) P := fun σ G H D x q => by
  obtain ⟨v, h1, a, o, rfl, h3, h4, h5, v0, vs, rfl, h6⟩ := x.get hi (by simp)
  have hv : (v0 :: vs)[(v0 :: vs).length - 1]? = some ((v0 :: vs)[(v0 :: vs).length - 1]'(by simp)) := List.getElem?_eq_getElem _
  refine ⟨_, h1, .inl ⟨rfl, _, SqL.of h3⟩, a, v0 :: vs, _, rfl, rfl, h3, hv, ?_⟩
  have w := (x.write hi h1 (o := .lst (v0 :: vs).dropLast) (w := .any (fun _ _ _ _ => True) (fun _ _ _ _ _ _ _ => trivial) (fun _ _ _ _ _ _ _ => trivial)) trivial).drop i
  rw [List.set_set] at w
  exact q.nx _ _ _ _ h (Same.refl _) w
end
end Pg

namespace Pg
open PySem PySem.Spec PyProof.Rows L2

/-! ## layer by layer, in plain lists -/
def subs : List Cell → List (List Cell)
  | [] => [[]]
  | a :: l => subs l ++ (subs l).map (a :: ·)
theorem subs_len : ∀ l : List Cell, (subs l).length = 2 ^ l.length
  | [] => rfl
  | a :: l => by
    show (subs l ++ (subs l).map (a :: ·)).length = 2 ^ (l.length + 1)
    rw [List.length_append, List.length_map, subs_len l, Nat.pow_succ]
    omega
theorem mem_subs {m l : List Cell} (h : m.Sublist l) : m ∈ subs l := by
  induction h with
  | slnil => exact List.mem_cons_self
  | cons a _ ih => exact List.mem_append_left _ ih
  | cons_cons a _ ih => exact List.mem_append_right _ (List.mem_map_of_mem ih)
theorem stand_sub {cs pegs : List Cell} (hr : risingF cs = true) (h : standF cs pegs = true) : pegs.Sublist cs := by
  have hs := standF_iff.mp h
  have e : pegs = cs.filter fun c => memB c pegs := sto_c.ext hs.1 ((rising_pw.mp hr).filter _) fun x => by
    rw [List.mem_filter, memB_iff]
    exact ⟨fun hx => ⟨hs.2 x hx, hx⟩, fun hx => hx.2⟩
  rw [e]
  exact List.filter_sublist
theorem stand_count {cs : List Cell} (hr : risingF cs = true) {ks : List (List Cell)} (n : ks.Nodup) (h : ∀ k, k ∈ ks → standF cs k = true) : ks.length ≤ 2 ^ cs.length := by
  rw [← subs_len]
  exact n.length_le_of_subset fun k hk => mem_subs (stand_sub hr (h k hk))
theorem pow_12 {n : Nat} (h : n ≤ 12) : 2 ^ n ≤ 4096 := Nat.le_trans (Nat.pow_le_pow_right (by decide) h) (by decide)
/-- a key is put in -/
def addK (xs : List (List Cell)) (x : List Cell) : List (List Cell) := if x ∈ xs then xs else xs ++ [x]
theorem addK_mem {xs : List (List Cell)} {x y : List Cell} : y ∈ addK xs x ↔ y ∈ xs ∨ y = x := by
  unfold addK
  split
  · next h => exact ⟨.inl, fun z => z.elim id fun e => by rw [e]; exact h⟩
  · rw [List.mem_append, List.mem_singleton]
theorem addK_nodup {xs : List (List Cell)} {x : List Cell} (h : xs.Nodup) : (addK xs x).Nodup := by
  unfold addK
  split
  · exact h
  · next n =>
    refine List.nodup_append.mpr ⟨h, by simp, fun a ha b hb e => ?_⟩
    have : b = x := by simpa using hb
    rw [← this, ← e] at n
    exact n ha
theorem foldK_mem : ∀ (xs acc : List (List Cell)) {y : List Cell}, y ∈ xs.foldl addK acc ↔ y ∈ acc ∨ y ∈ xs
  | [], acc, y => by simp
  | x :: xs, acc, y => by
    rw [List.foldl_cons, foldK_mem xs, addK_mem, List.mem_cons, or_assoc]
theorem foldK_nodup : ∀ (xs : List (List Cell)) {acc : List (List Cell)}, acc.Nodup → (xs.foldl addK acc).Nodup
  | [], _, h => h
  | x :: xs, _, h => foldK_nodup xs (addK_nodup h)
def behindL (cs s : List Cell) : List (List Cell) := (openF cs s).map (doneF s)
def stepsF (cs : List Cell) (here : List (List Cell)) : List (List Cell) := here.flatMap (behindL cs)
def nextF (cs : List Cell) (here : List (List Cell)) : List (List Cell) := srt (ltR ltC) ((stepsF cs here).foldl addK [])
theorem stepsF_mem {cs : List Cell} {here : List (List Cell)} {t : List Cell} : t ∈ stepsF cs here ↔ ∃ s, s ∈ here ∧ ∃ l, canF cs s l = true ∧ doneF s l = t := by
  unfold stepsF behindL
  rw [List.mem_flatMap]
  constructor
  · rintro ⟨s, hs, ht⟩
    obtain ⟨l, hl, e⟩ := List.mem_map.mp ht
    exact ⟨s, hs, l, openF_mem.mp hl, e⟩
  · rintro ⟨s, hs, l, hl, e⟩
    exact ⟨s, hs, List.mem_map.mpr ⟨l, openF_mem.mpr hl, e⟩⟩
theorem nextF_mem {cs : List Cell} {here : List (List Cell)} {t : List Cell} : t ∈ nextF cs here ↔ ∃ s, s ∈ here ∧ ∃ l, canF cs s l = true ∧ doneF s l = t := by
  unfold nextF
  rw [srt_mem, foldK_mem, ← stepsF_mem]
  simp
theorem nextF_pw (cs : List Cell) (here : List (List Cell)) : (nextF cs here).Pairwise fun a b => ltR ltC a b = true := (sto_r sto_c).srt_strict (foldK_nodup _ List.nodup_nil)
theorem nextF_nodup (cs : List Cell) (here : List (List Cell)) : (nextF cs here).Nodup := (sto_r sto_c).nodup (nextF_pw cs here)
/-- standings of n pegs, each once -/
structure HereOk (cs : List Cell) (n : Nat) (here : List (List Cell)) : Prop where
  st : ∀ s, s ∈ here → standF cs s = true
  ln : ∀ s, s ∈ here → s.length = n
  nd : here.Nodup
theorem HereOk.next {cs : List Cell} {n : Nat} {here : List (List Cell)} (h : HereOk cs (n + 1) here) : HereOk cs n (nextF cs here) where
  st := fun t ht => by
    obtain ⟨s, hs, l, hl, rfl⟩ := nextF_mem.mp ht
    exact doneF_stand (h.st s hs) hl
  ln := fun t ht => by
    obtain ⟨s, hs, l, hl, rfl⟩ := nextF_mem.mp ht
    have h1 := doneF_len (standF_nodup (h.st s hs)) hl
    have h2 := h.ln s hs
    omega
  nd := nextF_nodup cs here
theorem HereOk.last {cs : List Cell} {here : List (List Cell)} (h : HereOk cs 0 here) : nextF cs here = [] := by
  refine List.eq_nil_iff_forall_not_mem.mpr fun t ht => ?_
  obtain ⟨s, hs, l, hl, _⟩ := nextF_mem.mp ht
  have h1 := h.ln s hs
  have h2 := (canF_iff.mp hl).2.1
  rw [List.eq_nil_of_length_eq_zero h1] at h2
  cases h2
def layersF (cs : List Cell) : Nat → List (List Cell) → List (List (List Cell))
  | 0, _ => []
  | n + 1, here => if here = [] then [] else here :: layersF cs n (nextF cs here)
theorem layersF_nil (cs : List Cell) (n : Nat) : layersF cs n [] = [] := by
  cases n with
  | zero => rfl
  | succ n => exact if_pos rfl
theorem layersF_len (cs : List Cell) : ∀ (n : Nat) (here : List (List Cell)), (layersF cs n here).length ≤ n
  | 0, _ => Nat.le_refl _
  | n + 1, here => by
    unfold layersF
    split
    · exact Nat.zero_le _
    · exact Nat.succ_le_succ (layersF_len cs n _)
def reachF (cs pegs : List Cell) : List (List Cell) := (layersF cs (pegs.length + 1) [pegs]).flatten
theorem hereOk_one {cs pegs : List Cell} (h : standF cs pegs = true) : HereOk cs pegs.length [pegs] := ⟨fun s hs => by
  have : s = pegs := by simpa using hs
  rw [this]
  exact h, fun s hs => by
  have : s = pegs := by simpa using hs
  rw [this], by simp⟩
/-- what stands in the layers is come to by a row, and the other way about -/
theorem layers_mem {cs : List Cell} : ∀ (n : Nat) {here : List (List Cell)}, HereOk cs n here → ∀ t, t ∈ (layersF cs (n + 1) here).flatten ↔ ∃ s, s ∈ here ∧ ∃ row, goes cs s row = true ∧ after s row = t
  | n, here, h, t => by
    unfold layersF
    by_cases e : here = []
    · rw [if_pos e, e]
      simp
    · rw [if_neg e, List.flatten_cons, List.mem_append]
      have rest : t ∈ (layersF cs n (nextF cs here)).flatten ↔ ∃ s, s ∈ nextF cs here ∧ ∃ row, goes cs s row = true ∧ after s row = t := by
        cases n with
        | zero =>
          rw [h.last]
          simp [layersF]
        | succ n => exact layers_mem n h.next t
      rw [rest]
      constructor
      · rintro (ht | ⟨u, hu, row, g, ea⟩)
        · exact ⟨t, ht, [], rfl, rfl⟩
        · obtain ⟨s, hs, l, hl, rfl⟩ := nextF_mem.mp hu
          exact ⟨s, hs, l :: row, by show (canF cs s l && goes cs (doneF s l) row) = true; rw [hl, g]; rfl, ea⟩
      · rintro ⟨s, hs, row, g, ea⟩
        cases row with
        | nil =>
          left
          rw [← show s = t from ea]
          exact hs
        | cons l row =>
          obtain ⟨g1, g2⟩ := (Bool.and_eq_true _ _).mp g
          exact .inr ⟨doneF s l, nextF_mem.mpr ⟨s, hs, l, g1, rfl⟩, row, g2, ea⟩
theorem reachF_mem {cs pegs : List Cell} (h : standF cs pegs = true) {t : List Cell} : t ∈ reachF cs pegs ↔ ∃ row, goes cs pegs row = true ∧ after pegs row = t := by
  unfold reachF
  rw [layers_mem _ (hereOk_one h)]
  simp
theorem layers_ok {cs : List Cell} : ∀ (n : Nat) {here : List (List Cell)}, HereOk cs n here → ∀ h, h ∈ layersF cs (n + 1) here → ∃ k, HereOk cs k h
  | n, here, ho, h, hm => by
    unfold layersF at hm
    split at hm
    · cases hm
    · rcases List.mem_cons.mp hm with e | e
      · rw [e]
        exact ⟨n, ho⟩
      · cases n with
        | zero => cases e
        | succ n => exact layers_ok n ho.next h e
theorem flat_len {cs : List Cell} {k : Nat} : ∀ {L : List (List (List Cell))}, (∀ h, h ∈ L → h.length ≤ k) → L.flatten.length ≤ k * L.length
  | [], _ => Nat.zero_le _
  | h :: L, f => by
    have h1 := f h List.mem_cons_self
    have h2 := flat_len (cs := cs) (L := L) fun x hx => f x (List.mem_cons_of_mem _ hx)
    rw [List.flatten_cons, List.length_append, List.length_cons, Nat.mul_succ]
    omega
theorem HereOk.count {cs : List Cell} {n : Nat} {here : List (List Cell)} (hr : risingF cs = true) (h12 : cs.length ≤ 12) (h : HereOk cs n here) : here.length ≤ 4096 := Nat.le_trans (stand_count hr h.nd h.st) (pow_12 h12)
/-! ### found one behind the other -/
def bfsS (cs : List Cell) (found : List (List Cell)) (i : Nat) : List (List Cell) := (behindL cs (found.getD i [])).foldl addK found
def bfs (cs : List Cell) : Nat → List (List Cell) → Nat → List (List Cell)
  | 0, found, _ => found
  | n + 1, found, i => if i < found.length then bfs cs n (bfsS cs found i) (i + 1) else found
def reachL (cs pegs : List Cell) : List (List Cell) := bfs cs (2 ^ cs.length + 1) [pegs] 0
/-- what is known of the list as it grows: each is come to, each once, what is behind the first i is there -/
structure BfsOk (cs pegs : List Cell) (found : List (List Cell)) (i : Nat) : Prop where
  nd : found.Nodup
  come : ∀ s, s ∈ found → ∃ row, goes cs pegs row = true ∧ after pegs row = s
  start : pegs ∈ found
  done : ∀ j s, j < i → found[j]? = some s → ∀ t, t ∈ behindL cs s → t ∈ found
  le : i ≤ found.length
theorem addK_get {xs : List (List Cell)} {x : List Cell} {j : Nat} (h : j < xs.length) : (addK xs x)[j]? = xs[j]? := by
  unfold addK
  split
  · rfl
  · exact List.getElem?_append_left h
theorem foldK_get : ∀ (ys : List (List Cell)) {xs : List (List Cell)} {j : Nat}, j < xs.length → (ys.foldl addK xs)[j]? = xs[j]?
  | [], _, _, _ => rfl
  | y :: ys, xs, j, h => by
    have h2 : j < (addK xs y).length := by
      unfold addK
      split
      · exact h
      · rw [List.length_append]
        omega
    rw [List.foldl_cons, foldK_get ys h2, addK_get h]
theorem foldK_len : ∀ (ys : List (List Cell)) {xs : List (List Cell)}, xs.length ≤ (ys.foldl addK xs).length
  | [], _ => Nat.le_refl _
  | y :: ys, xs => by
    have h2 : xs.length ≤ (addK xs y).length := by
      unfold addK
      split
      · exact Nat.le_refl _
      · rw [List.length_append]
        omega
    exact Nat.le_trans h2 (foldK_len ys)
theorem BfsOk.step {cs pegs : List Cell} {found : List (List Cell)} {i : Nat} (h : BfsOk cs pegs found i) (hi : i < found.length) : BfsOk cs pegs (bfsS cs found i) (i + 1) := by
  obtain ⟨s, hs⟩ : ∃ s, found[i]? = some s := ⟨_, List.getElem?_eq_getElem hi⟩
  have hg : found.getD i [] = s := by rw [List.getD_eq_getElem?_getD, hs]; rfl
  unfold bfsS
  rw [hg]
  refine ⟨foldK_nodup _ h.nd, fun t ht => ?_, (foldK_mem _ _).mpr (.inl h.start), fun j u hj hu t ht => ?_, Nat.le_trans (by omega) (foldK_len _)⟩
  · rcases (foldK_mem _ _).mp ht with e | e
    · exact h.come t e
    · obtain ⟨l, hl, rfl⟩ := List.mem_map.mp e
      obtain ⟨row, g, ea⟩ := h.come s (List.mem_of_getElem? hs)
      refine ⟨row ++ [l], ?_, by rw [after_app, ea]⟩
      rw [goes_app, g, ea, openF_mem.mp hl]
      rfl
  · rw [foldK_get _ (by omega)] at hu
    by_cases e : j = i
    · rw [e, hs] at hu
      cases hu
      exact (foldK_mem _ _).mpr (.inr ht)
    · exact (foldK_mem _ _).mpr (.inl (h.done j u (by omega) hu t ht))
theorem BfsOk.all {cs pegs : List Cell} {found : List (List Cell)} (h : BfsOk cs pegs found found.length) : ∀ (row : List Leap) {s : List Cell}, s ∈ found → goes cs s row = true → after s row ∈ found
  | [], _, hs, _ => hs
  | l :: row, s, hs, g => by
    obtain ⟨g1, g2⟩ := (Bool.and_eq_true _ _).mp g
    obtain ⟨j, hj⟩ := List.mem_iff_getElem?.mp hs
    refine BfsOk.all h row (h.done j s (List.getElem?_eq_some_iff.mp hj).1 hj (doneF s l) (List.mem_map.mpr ⟨l, openF_mem.mpr g1, rfl⟩)) g2
theorem BfsOk.stand {cs pegs : List Cell} {found : List (List Cell)} {i : Nat} (h : BfsOk cs pegs found i) (hst : standF cs pegs = true) : ∀ s, s ∈ found → standF cs s = true := fun s hs => by
  obtain ⟨row, g, rfl⟩ := h.come s hs
  exact goes_stand row hst g
theorem BfsOk.count {cs pegs : List Cell} {found : List (List Cell)} {i : Nat} (h : BfsOk cs pegs found i) (hr : risingF cs = true) (hst : standF cs pegs = true) : found.length ≤ 2 ^ cs.length := stand_count hr h.nd (h.stand hst)
theorem bfsOk_one (cs pegs : List Cell) : BfsOk cs pegs [pegs] 0 := ⟨by simp, fun s hs => by
  have : s = pegs := by simpa using hs
  exact ⟨[], rfl, this.symm⟩, List.mem_cons_self, fun j _ hj => absurd hj (Nat.not_lt_zero j), Nat.zero_le _⟩
theorem bfs_ok {cs pegs : List Cell} (hr : risingF cs = true) (hst : standF cs pegs = true) : ∀ (n : Nat) {found : List (List Cell)} {i : Nat}, BfsOk cs pegs found i → 2 ^ cs.length + 1 ≤ n + i → BfsOk cs pegs (bfs cs n found i) (bfs cs n found i).length
  | 0, found, i, h, hn => by
    have := h.count hr hst
    have := h.le
    omega
  | n + 1, found, i, h, hn => by
    unfold bfs
    split
    · next hi => exact bfs_ok hr hst n (h.step hi) (by omega)
    · next hi =>
      have e : i = found.length := by
        have := h.le
        omega
      rw [e] at h
      exact h
theorem reachL_ok {cs pegs : List Cell} (hr : risingF cs = true) (hst : standF cs pegs = true) : BfsOk cs pegs (reachL cs pegs) (reachL cs pegs).length := bfs_ok hr hst _ (bfsOk_one cs pegs) (by omega)
theorem reachL_mem {cs pegs : List Cell} (hr : risingF cs = true) (hst : standF cs pegs = true) {t : List Cell} : t ∈ reachL cs pegs ↔ ∃ row, goes cs pegs row = true ∧ after pegs row = t := by
  have h := reachL_ok hr hst
  refine ⟨h.come t, ?_⟩
  rintro ⟨row, g, rfl⟩
  exact BfsOk.all h row h.start g
end Pg

namespace Pg
open PySem PySem.Spec PyProof.Rows L2

/-! ## how many rows of leaps lead from the one to the other, in plain lists -/
def endsF (cs : List Cell) : Nat → List Cell → List (List Cell)
  | 0, s => [s]
  | k + 1, s => (endsF cs k s).flatMap (behindL cs)
theorem endsF_head (cs : List Cell) : ∀ (k : Nat) (s : List Cell), endsF cs (k + 1) s = (behindL cs s).flatMap (endsF cs k)
  | 0, s => by
    show [s].flatMap (behindL cs) = (behindL cs s).flatMap fun u => [u]
    rw [List.flatMap_singleton']
    simp
  | k + 1, s => by
    show (endsF cs (k + 1) s).flatMap (behindL cs) = _
    rw [endsF_head cs k s, List.flatMap_assoc]
    rfl
def cntF (cs : List Cell) (k : Nat) (s t : List Cell) : Int := (((endsF cs k s).count t : Nat) : Int)
def sumN (f : Nat → Int) : Nat → Int
  | 0 => 0
  | n + 1 => sumN f n + f n
theorem sumN_head (f : Nat → Int) : ∀ n, sumN f (n + 1) = f 0 + sumN (fun k => f (k + 1)) n
  | 0 => by
    show (0 : Int) + f 0 = f 0 + 0
    omega
  | n + 1 => by
    have ih := sumN_head f n
    show sumN f (n + 1) + f (n + 1) = f 0 + (sumN (fun k => f (k + 1)) n + f (n + 1))
    omega
/-- all rows from s to t -/
def countF (cs s t : List Cell) : Int := sumN (fun k => cntF cs k s t) (s.length + 1)
theorem count_flat (f : List Cell → List (List Cell)) (t : List Cell) : ∀ xs : List (List Cell), (((xs.flatMap f).count t : Nat) : Int) = (xs.map fun u => (((f u).count t : Nat) : Int)).sum
  | [] => rfl
  | x :: xs => by
    rw [List.flatMap_cons, List.count_append, List.map_cons, List.sum_cons, ← count_flat f t xs]
    omega
theorem sum_swap (g : Nat → List Cell → Int) (xs : List (List Cell)) : ∀ n, sumN (fun k => (xs.map (g k)).sum) n = (xs.map fun u => sumN (fun k => g k u) n).sum
  | 0 => by
    induction xs with
    | nil => rfl
    | cons x xs ih =>
      rw [List.map_cons, List.sum_cons, ← ih]
      rfl
  | n + 1 => by
    show sumN (fun k => (xs.map (g k)).sum) n + (xs.map (g n)).sum = _
    rw [sum_swap g xs n]
    induction xs with
    | nil => rfl
    | cons x xs ih =>
      rw [List.map_cons, List.sum_cons, List.map_cons, List.sum_cons, List.map_cons, List.sum_cons, ← ih]
      show _ = sumN (fun k => g k x) n + g n x + _
      omega
theorem sum_congr {f g : List Cell → Int} : ∀ {xs : List (List Cell)}, (∀ x, x ∈ xs → f x = g x) → (xs.map f).sum = (xs.map g).sum
  | [], _ => rfl
  | x :: xs, h => by
    rw [List.map_cons, List.map_cons, List.sum_cons, List.sum_cons, h x List.mem_cons_self, sum_congr fun y hy => h y (List.mem_cons_of_mem _ hy)]
theorem countF_step {cs s t : List Cell} (hs : standF cs s = true) : countF cs s t = (if s = t then 1 else 0) + ((behindL cs s).map fun u => countF cs u t).sum := by
  unfold countF
  rw [sumN_head]
  congr 1
  · show (((([s] : List (List Cell)).count t : Nat)) : Int) = _
    by_cases e : s = t
    · rw [if_pos e, e, List.count_cons_self]
      rfl
    · rw [if_neg e, List.count_cons_of_ne (fun z => e z)]
      rfl
  · have e1 : (fun k => cntF cs (k + 1) s t) = fun k => ((behindL cs s).map fun u => cntF cs k u t).sum := by
      funext k
      unfold cntF
      rw [endsF_head, count_flat]
    rw [e1, sum_swap (fun k u => cntF cs k u t)]
    refine sum_congr fun u hu => ?_
    obtain ⟨l, hl, rfl⟩ := List.mem_map.mp hu
    have := doneF_len (standF_nodup hs) (openF_mem.mp hl)
    rw [this]
theorem zeros_sum : ∀ xs : List (List Cell), (xs.map fun _ => (0 : Int)).sum = 0
  | [] => rfl
  | x :: xs => by
    rw [List.map_cons, List.sum_cons, zeros_sum xs]
    rfl
/-- over a list that holds each of E once -/
theorem sum_count (g : List Cell → Int) {here : List (List Cell)} (nd : here.Nodup) : ∀ {E : List (List Cell)}, (∀ e, e ∈ E → e ∈ here) → (here.map fun s => (((E.count s : Nat) : Int)) * g s).sum = (E.map g).sum
  | [], _ => by
    have : (here.map fun s => ((((([] : List (List Cell)).count s : Nat)) : Int)) * g s) = here.map fun _ => (0 : Int) := List.map_congr_left fun s _ => by simp
    rw [this]
    exact zeros_sum here
  | e :: E, h => by
    have ih := sum_count g nd (E := E) fun x hx => h x (List.mem_cons_of_mem _ hx)
    rw [List.map_cons, List.sum_cons, ← ih]
    have he := h e List.mem_cons_self
    clear ih h
    induction here with
    | nil => cases he
    | cons x xs ih2 =>
      obtain ⟨n1, n2⟩ := List.nodup_cons.mp nd
      rw [List.map_cons, List.sum_cons, List.map_cons, List.sum_cons]
      by_cases q : x = e
      · subst q
        have rest : (xs.map fun s => ((((x :: E).count s : Nat) : Int)) * g s) = xs.map fun s => (((E.count s : Nat) : Int)) * g s := List.map_congr_left fun s hs => by
          rw [List.count_cons_of_ne (fun z => n1 (by rw [z]; exact hs))]
        rw [rest, List.count_cons_self]
        have : (((E.count x + 1 : Nat) : Int)) * g x = ((E.count x : Nat) : Int) * g x + g x := by
          rw [Int.natCast_add, Int.add_mul]
          simp
        omega
      · rw [ih2 n2 (by
          rcases List.mem_cons.mp he with z | z
          · exact absurd z.symm q
          · exact z), List.count_cons_of_ne (fun z => q z.symm)]
        omega
/-! ### counted from the first one on -/
def procT (s : List Cell) (M : List (List Cell)) (t : List Cell) : List (List Cell) := M ++ List.replicate (M.count s) t
def procS (cs : List Cell) (M : List (List Cell)) (s : List Cell) : List (List Cell) := (behindL cs s).foldl (procT s) M
theorem procT_count {s : List Cell} : ∀ (ys : List (List Cell)) {M : List (List Cell)}, s ∉ ys → ∀ t, (ys.foldl (procT s) M).count t = M.count t + M.count s * ys.count t
  | [], _, _, t => by simp
  | y :: ys, M, h, t => by
    have hy : y ≠ s := fun z => h (by rw [z]; exact List.mem_cons_self)
    have hys : s ∉ ys := fun z => h (List.mem_cons_of_mem _ z)
    have e : (procT s M y).count s = M.count s := by
      unfold procT
      rw [List.count_append, List.count_replicate]
      simp [hy]
    rw [List.foldl_cons, procT_count ys hys t, e]
    unfold procT
    rw [List.count_append, List.count_replicate, List.count_cons]
    by_cases q : y = t
    · simp [q, Nat.mul_add]
      omega
    · simp [q]
theorem procS_count {cs : List Cell} {n : Nat} {s : List Cell} {M : List (List Cell)} (hs : standF cs s = true) (t : List Cell) : (procS cs M s).count t = M.count t + M.count s * (behindL cs s).count t := by
  refine procT_count _ (fun z => ?_) t
  obtain ⟨l, hl, e⟩ := List.mem_map.mp z
  have := doneF_len (standF_nodup hs) (openF_mem.mp hl)
  rw [e] at this
  omega
theorem behindL_len {cs s t : List Cell} (hs : standF cs s = true) (h : t ∈ behindL cs s) : t.length + 1 = s.length := by
  obtain ⟨l, hl, e⟩ := List.mem_map.mp h
  rw [← e]
  exact doneF_len (standF_nodup hs) (openF_mem.mp hl)
theorem procL_count {cs : List Cell} {n : Nat} : ∀ (here : List (List Cell)) {M : List (List Cell)}, (∀ s, s ∈ here → standF cs s = true ∧ s.length = n) → ∀ t, (((here.foldl (procS cs) M).count t : Nat) : Int) = ((M.count t : Nat) : Int) + (here.map fun s => ((M.count s : Nat) : Int) * (((behindL cs s).count t : Nat) : Int)).sum
  | [], M, _, t => by simp
  | s :: here, M, h, t => by
    obtain ⟨h1, h2⟩ := h s List.mem_cons_self
    have rest : ∀ u, u ∈ here → standF cs u = true ∧ u.length = n := fun u hu => h u (List.mem_cons_of_mem _ hu)
    have keep : ∀ u, u.length = n → (procS cs M s).count u = M.count u := fun u hu => by
      have z0 : (behindL cs s).count u = 0 := List.count_eq_zero_of_not_mem fun z => by
        have := behindL_len h1 z
        omega
      rw [procS_count (n := 0) h1 u, z0, Nat.mul_zero, Nat.add_zero]
    rw [List.foldl_cons, procL_count here rest t, procS_count (n := 0) h1 t, List.map_cons, List.sum_cons]
    have e : (here.map fun u => (((procS cs M s).count u : Nat) : Int) * (((behindL cs u).count t : Nat) : Int)) = here.map fun u => ((M.count u : Nat) : Int) * (((behindL cs u).count t : Nat) : Int) := List.map_congr_left fun u hu => by rw [keep u (rest u hu).2]
    rw [e, Int.natCast_add, Int.natCast_mul]
    omega
def itF (cs : List Cell) : Nat → List (List Cell) → List (List Cell)
  | 0, E => E
  | k + 1, E => (itF cs k E).flatMap (behindL cs)
theorem itF_head (cs : List Cell) : ∀ (k : Nat) (E : List (List Cell)), itF cs (k + 1) E = itF cs k (E.flatMap (behindL cs))
  | 0, _ => rfl
  | k + 1, E => by
    show (itF cs (k + 1) E).flatMap (behindL cs) = (itF cs k (E.flatMap (behindL cs))).flatMap (behindL cs)
    rw [itF_head cs k E]
theorem endsF_it (cs : List Cell) (s : List Cell) : ∀ k, endsF cs k s = itF cs k [s]
  | 0 => rfl
  | k + 1 => by
    show (endsF cs k s).flatMap (behindL cs) = (itF cs k [s]).flatMap (behindL cs)
    rw [endsF_it cs s k]
theorem itF_nil (cs : List Cell) : ∀ k, itF cs k [] = []
  | 0 => rfl
  | k + 1 => by
    show (itF cs k []).flatMap (behindL cs) = []
    rw [itF_nil cs k]
    rfl
def procA (cs : List Cell) (M : List (List Cell)) (L : List (List (List Cell))) : List (List Cell) := L.foldl (fun M here => here.foldl (procS cs) M) M
theorem layers_count {cs : List Cell} : ∀ (n : Nat) {here M E : List (List Cell)}, HereOk cs n here → (∀ e, e ∈ E → e ∈ here) → (∀ s, s ∈ here → M.count s = E.count s) → (∀ t, t.length < n → M.count t = 0) →
    ∀ t, (((procA cs M (layersF cs (n + 1) here)).count t : Nat) : Int) = ((M.count t : Nat) : Int) + sumN (fun k => (((itF cs (k + 1) E).count t : Nat) : Int)) n
  | n, here, M, E, ho, hE, hM, hlow, t => by
    unfold layersF
    by_cases e : here = []
    · have eE : E = [] := List.eq_nil_iff_forall_not_mem.mpr fun x hx => by
        have := hE x hx
        rw [e] at this
        cases this
      rw [if_pos e, eE]
      show ((M.count t : Nat) : Int) = _
      have : ∀ n, sumN (fun k => (((itF cs (k + 1) []).count t : Nat) : Int)) n = 0 := fun n => by
        induction n with
        | zero => rfl
        | succ n ih =>
          show sumN _ n + (((itF cs (n + 1) []).count t : Nat) : Int) = 0
          rw [ih, itF_nil]
          rfl
      rw [this]
      omega
    · rw [if_neg e]
      show (((procA cs (here.foldl (procS cs) M) (layersF cs n (nextF cs here))).count t : Nat) : Int) = _
      have hc : ∀ u, (((here.foldl (procS cs) M).count u : Nat) : Int) = ((M.count u : Nat) : Int) + (((E.flatMap (behindL cs)).count u : Nat) : Int) := fun u => by
        rw [procL_count here (fun s hs => ⟨ho.st s hs, ho.ln s hs⟩) u, count_flat, ← sum_count (fun s => (((behindL cs s).count u : Nat) : Int)) ho.nd hE]
        congr 1
        exact sum_congr fun s hs => by rw [hM s hs]
      cases n with
      | zero =>
        have z : E.flatMap (behindL cs) = [] := List.eq_nil_iff_forall_not_mem.mpr fun x hx => by
          obtain ⟨s, hs, hx⟩ := List.mem_flatMap.mp hx
          have h1 := behindL_len (ho.st s (hE s hs)) hx
          have h2 := ho.ln s (hE s hs)
          omega
        show (((here.foldl (procS cs) M).count t : Nat) : Int) = ((M.count t : Nat) : Int) + 0
        rw [hc t, z]
        simp
      | succ n =>
        have hE2 : ∀ x, x ∈ E.flatMap (behindL cs) → x ∈ nextF cs here := fun x hx => by
          obtain ⟨s, hs, hx⟩ := List.mem_flatMap.mp hx
          obtain ⟨l, hl, rfl⟩ := List.mem_map.mp hx
          exact nextF_mem.mpr ⟨s, hE s hs, l, openF_mem.mp hl, rfl⟩
        have hlenE : ∀ x, x ∈ E.flatMap (behindL cs) → x.length = n := fun x hx => ho.next.ln x (hE2 x hx)
        rw [layers_count n ho.next hE2 (fun s hs => ?_) (fun u hu => ?_) t, hc t, sumN_head (fun k => (((itF cs (k + 1) E).count t : Nat) : Int)) n]
        · have e2 : (fun k => (((itF cs (k + 1 + 1) E).count t : Nat) : Int)) = fun k => (((itF cs (k + 1) (E.flatMap (behindL cs))).count t : Nat) : Int) := by
            funext k
            rw [itF_head cs (k + 1) E]
          rw [e2]
          show _ = _ + ((((E.flatMap (behindL cs)).count t : Nat) : Int) + _)
          omega
        · have h1 := hc s
          have h2 := hlow s (by have := ho.next.ln s hs; omega)
          omega
        · have h1 := hc u
          have h2 := hlow u (by omega)
          have h3 : (E.flatMap (behindL cs)).count u = 0 := List.count_eq_zero_of_not_mem fun z => by
            have := hlenE u z
            omega
          omega
theorem rows_count {cs pegs : List Cell} (hst : standF cs pegs = true) (t : List Cell) : (((procA cs [pegs] (layersF cs (pegs.length + 1) [pegs])).count t : Nat) : Int) = countF cs pegs t := by
  rw [layers_count pegs.length (hereOk_one hst) (E := [pegs]) (fun _ h => h) (fun _ _ => rfl) (fun u hu => ?_) t]
  · unfold countF
    rw [sumN_head]
    congr 1
    have : (fun k => (((itF cs (k + 1) [pegs]).count t : Nat) : Int)) = fun k => cntF cs (k + 1) pegs t := by
      funext k
      unfold cntF
      rw [endsF_it]
    rw [this]
  · refine List.count_eq_zero_of_not_mem fun z => ?_
    have : u = pegs := by simpa using z
    rw [this] at hu
    omega
/-! ### a dict of counts -/
theorem look_put (d : PyData) (t u : List Cell) : ∀ kvs : Kv, lookD (putD kvs t d) u = if t = u then some d else lookD kvs u := fun kvs => by
  have new : ∀ m : Kv, lookD m t = none → lookD (m ++ [(t, d)]) u = if t = u then some d else lookD m u := fun m => by
    induction m with
    | nil =>
      intro _
      show lookD [(t, d)] u = _
      unfold lookD
      rfl
    | cons e r ih =>
      intro h
      unfold lookD at h
      split at h
      · cases h
      · next n =>
        show (if e.1 = u then some e.2 else lookD (r ++ [(t, d)]) u) = if t = u then some d else (if e.1 = u then some e.2 else lookD r u)
        rw [ih h]
        by_cases q : e.1 = u
        · rw [if_pos q, if_neg (fun z => n (q.trans z.symm)), if_pos q]
        · rw [if_neg q, if_neg q]
  have old : ∀ m : Kv, (lookD m t).isSome = true → lookD (m.map fun e => if e.1 = t then (e.1, d) else e) u = if t = u then some d else lookD m u := fun m => by
    induction m with
    | nil =>
      intro h
      cases h
    | cons e r ih =>
      intro h
      rw [List.map_cons]
      by_cases q : e.1 = t
      · rw [if_pos q]
        show (if e.1 = u then some d else lookD (r.map _) u) = if t = u then some d else (if e.1 = u then some e.2 else lookD r u)
        by_cases q2 : t = u
        · rw [if_pos (q.trans q2), if_pos q2]
        · have q3 : ¬ e.1 = u := fun z => q2 (q.symm.trans z)
          rw [if_neg q3, if_neg q2, if_neg q3]
          clear ih h
          induction r with
          | nil => rfl
          | cons e2 r ih2 =>
            rw [List.map_cons]
            by_cases q4 : e2.1 = t
            · rw [if_pos q4]
              have q5 : ¬ e2.1 = u := fun z => q2 (q4.symm.trans z)
              show (if e2.1 = u then some d else lookD (r.map _) u) = (if e2.1 = u then some e2.2 else lookD r u)
              rw [if_neg q5, if_neg q5, ih2]
            · rw [if_neg q4]
              show (if e2.1 = u then some e2.2 else lookD (r.map _) u) = (if e2.1 = u then some e2.2 else lookD r u)
              rw [ih2]
      · rw [if_neg q]
        unfold lookD at h
        rw [if_neg q] at h
        show (if e.1 = u then some e.2 else lookD (r.map _) u) = if t = u then some d else (if e.1 = u then some e.2 else lookD r u)
        rw [ih h]
        by_cases q2 : e.1 = u
        · rw [if_pos q2, if_neg (fun z => q (q2.trans z.symm)), if_pos q2]
        · rw [if_neg q2, if_neg q2]
  unfold putD
  by_cases h : (lookD kvs t).isSome = true
  · rw [if_pos h]
    exact old kvs h
  · rw [if_neg h]
    exact new kvs (by simpa using h)
theorem keys_put (d : PyData) (t : List Cell) (kvs : Kv) : (putD kvs t d).map (fun e => e.1) = if (lookD kvs t).isSome = true then kvs.map (fun e => e.1) else kvs.map (fun e => e.1) ++ [t] := by
  unfold putD
  split
  · rw [List.map_map]
    refine List.map_congr_left fun e _ => ?_
    show (if e.1 = t then (e.1, d) else e).1 = e.1
    split <;> rfl
  · rw [List.map_append]
    rfl
/-- the dict tells how often each stands in M -/
structure EncW (kvs : Kv) (M : List (List Cell)) : Prop where
  look : ∀ t, lookD kvs t = if t ∈ M then some (.int ((M.count t : Nat) : Int)) else none
  nd : (kvs.map fun e => e.1).Nodup
  key : ∀ k, k ∈ kvs.map (fun e => e.1) → k ∈ M
theorem EncW.none {kvs : Kv} {M : List (List Cell)} (h : EncW kvs M) {t : List Cell} (n : (lookD kvs t).isSome = false) : t ∉ M := fun z => by
  rw [h.look, if_pos z] at n
  cases n
theorem EncW.get {kvs : Kv} {M : List (List Cell)} (h : EncW kvs M) (t : List Cell) : (lookD kvs t).getD (.int 0) = .int ((M.count t : Nat) : Int) := by
  rw [h.look]
  by_cases q : t ∈ M
  · rw [if_pos q]
    rfl
  · rw [if_neg q, List.count_eq_zero_of_not_mem q]
    rfl
theorem EncW.put {kvs : Kv} {M : List (List Cell)} (h : EncW kvs M) {s : List Cell} (hs : s ∈ M) (t : List Cell) : EncW (putD kvs t (.int (((M.count t : Nat) : Int) + ((M.count s : Nat) : Int)))) (procT s M t) := by
  have hp : 0 < M.count s := List.count_pos_iff.mpr hs
  have mem : ∀ u, u ∈ procT s M t ↔ u ∈ M ∨ u = t := fun u => by
    unfold procT
    rw [List.mem_append, List.mem_replicate]
    exact ⟨fun z => z.imp id fun y => y.2, fun z => z.imp id fun y => ⟨by omega, y⟩⟩
  refine ⟨fun u => ?_, ?_, fun k hk => ?_⟩
  · rw [look_put, h.look]
    by_cases q : t = u
    · subst q
      rw [if_pos rfl, if_pos ((mem t).mpr (.inr rfl))]
      unfold procT
      rw [List.count_append, List.count_replicate_self]
      rfl
    · rw [if_neg q]
      have e : (u ∈ procT s M t) = (u ∈ M) := propext ((mem u).trans ⟨fun z => z.elim id fun y => absurd y.symm q, .inl⟩)
      have e2 : (procT s M t).count u = M.count u := by
        unfold procT
        rw [List.count_append, List.count_replicate]
        simp [q]
      by_cases z : u ∈ M
      · rw [if_pos z, if_pos (by rw [e]; exact z), e2]
      · rw [if_neg z, if_neg (by rw [e]; exact z)]
  · rw [keys_put]
    split
    · exact h.nd
    · next n =>
      refine List.nodup_append.mpr ⟨h.nd, by simp, fun a ha b hb e => ?_⟩
      have hb' : b = t := by simpa using hb
      have := h.none (t := t) (by simpa using n)
      rw [← hb', ← e] at this
      exact this (h.key a ha)
  · rw [keys_put] at hk
    split at hk
    · exact (mem k).mpr (.inl (h.key k hk))
    · rcases List.mem_append.mp hk with z | z
      · exact (mem k).mpr (.inl (h.key k z))
      · exact (mem k).mpr (.inr (by simpa using z))
/-! ### each of a layer stands in what was counted -/
theorem procT_mem {s : List Cell} : ∀ (ys : List (List Cell)) {M : List (List Cell)} {u : List Cell}, (u ∈ M → u ∈ ys.foldl (procT s) M) ∧ (s ∈ M → u ∈ ys → u ∈ ys.foldl (procT s) M) ∧ (u ∈ ys.foldl (procT s) M → u ∈ M ∨ u ∈ ys)
  | [], _, _ => ⟨id, ⟨fun _ h => absurd h (by simp), fun h => Or.inl h⟩⟩
  | y :: ys, M, u => by
    obtain ⟨h1, h2, h3⟩ := procT_mem (s := s) ys (M := procT s M y) (u := u)
    have up : ∀ {v : List Cell}, v ∈ M → v ∈ procT s M y := fun h => List.mem_append_left _ h
    refine ⟨fun h => h1 (up h), fun hs h => ?_, fun h => ?_⟩
    · rcases List.mem_cons.mp h with e | e
      · refine h1 ?_
        rw [e]
        unfold procT
        exact List.mem_append_right _ (List.mem_replicate.mpr ⟨Nat.ne_of_gt (List.count_pos_iff.mpr hs), rfl⟩)
      · exact h2 (up hs) e
    · rcases h3 h with e | e
      · unfold procT at e
        rcases List.mem_append.mp e with z | z
        · exact .inl z
        · rw [(List.mem_replicate.mp z).2]
          exact .inr List.mem_cons_self
      · exact .inr (List.mem_cons_of_mem _ e)
theorem procL_mem {cs : List Cell} : ∀ (here : List (List Cell)) {M : List (List Cell)} {u : List Cell}, (u ∈ M → u ∈ here.foldl (procS cs) M) ∧ ((∀ s, s ∈ here → s ∈ M) → ∀ s, s ∈ here → u ∈ behindL cs s → u ∈ here.foldl (procS cs) M) ∧ (u ∈ here.foldl (procS cs) M → u ∈ M ∨ ∃ s, s ∈ here ∧ u ∈ behindL cs s)
  | [], _, _ => ⟨id, ⟨fun _ _ h => absurd h (by simp), fun h => Or.inl h⟩⟩
  | s :: here, M, u => by
    obtain ⟨h1, h2, h3⟩ := procL_mem (cs := cs) here (M := procS cs M s) (u := u)
    have up : ∀ {v : List Cell}, v ∈ M → v ∈ procS cs M s := fun {v} h => (procT_mem (s := s) (behindL cs s) (M := M) (u := v)).1 h
    refine ⟨fun h => h1 (up h), fun ha x hx hu => ?_, fun h => ?_⟩
    · rcases List.mem_cons.mp hx with e | e
      · subst e
        exact h1 ((procT_mem (s := x) (behindL cs x) (M := M) (u := u)).2.1 (ha x List.mem_cons_self) hu)
      · exact h2 (fun y hy => up (ha y (List.mem_cons_of_mem _ hy))) x e hu
    · rcases h3 h with e | ⟨x, hx, hu⟩
      · rcases (procT_mem (s := s) (behindL cs s) (M := M) (u := u)).2.2 e with z | z
        · exact .inl z
        · exact .inr ⟨s, List.mem_cons_self, z⟩
      · exact .inr ⟨x, List.mem_cons_of_mem _ hx, hu⟩
theorem layersF_next {cs : List Cell} : ∀ (n : Nat) {here : List (List Cell)} {k : Nat} {x y : List (List Cell)}, (layersF cs n here)[k]? = some x → (layersF cs n here)[k + 1]? = some y → y = nextF cs x
  | 0, _, _, _, _, h, _ => by simp [layersF] at h
  | n + 1, here, k, x, y, hx, hy => by
    unfold layersF at hx hy
    split at hx
    · simp at hx
    · next e =>
      rw [if_neg e] at hy
      cases k with
      | zero =>
        have e1 : here = x := by simpa using hx
        have e2 : (layersF cs n (nextF cs here))[0]? = some y := by simpa using hy
        subst e1
        cases n with
        | zero => simp [layersF] at e2
        | succ n =>
          unfold layersF at e2
          split at e2
          · simp at e2
          · exact (by simpa using e2 : nextF cs here = y).symm
      | succ k => exact layersF_next n (by simpa using hx) (by simpa using hy)
theorem layersF_head {cs : List Cell} {n : Nat} {here x : List (List Cell)} (h : (layersF cs n here)[0]? = some x) : x = here := by
  cases n with
  | zero => simp [layersF] at h
  | succ n =>
    unfold layersF at h
    split at h
    · simp at h
    · exact (by simpa using h : here = x).symm
end Pg

namespace Pg
open PySem PySem.Spec PyProof.Rows L2

/-! ## the first row that leads to a standing, in plain lists -/
theorem findS_congr {α β : Type} {f g : α → Option β} : ∀ {xs : List α}, (∀ x, x ∈ xs → f x = g x) → xs.findSome? f = xs.findSome? g
  | [], _ => rfl
  | x :: xs, h => by
    rw [List.findSome?_cons, List.findSome?_cons, h x List.mem_cons_self, findS_congr fun y hy => h y (List.mem_cons_of_mem _ hy)]
theorem findS_none {α β : Type} {f : α → Option β} : ∀ {xs : List α}, xs.findSome? f = none → ∀ x, x ∈ xs → f x = none
  | [], _, x, hx => by cases hx
  | y :: xs, h, x, hx => by
    rw [List.findSome?_cons] at h
    cases e : f y with
    | some b =>
      rw [e] at h
      cases h
    | none =>
      rw [e] at h
      rcases List.mem_cons.mp hx with q | q
      · rw [q]
        exact e
      · exact findS_none h x q
theorem findS_some {α β : Type} {f : α → Option β} {b : β} : ∀ {xs : List α}, xs.findSome? f = some b → ∃ x, x ∈ xs ∧ f x = some b
  | [], h => by cases h
  | y :: xs, h => by
    rw [List.findSome?_cons] at h
    cases e : f y with
    | some c =>
      rw [e] at h
      exact ⟨y, List.mem_cons_self, by rw [e]; exact h⟩
    | none =>
      rw [e] at h
      obtain ⟨x, hx, hf⟩ := findS_some h
      exact ⟨x, List.mem_cons_of_mem _ hx, hf⟩
theorem findS_app {α β : Type} {f : α → Option β} : ∀ {xs ys : List α}, xs.findSome? f = none → (xs ++ ys).findSome? f = ys.findSome? f
  | [], _, _ => rfl
  | x :: xs, ys, h => by
    rw [List.findSome?_cons] at h
    rw [List.cons_append, List.findSome?_cons]
    cases e : f x with
    | some c =>
      rw [e] at h
      cases h
    | none =>
      rw [e] at h
      exact findS_app h
def rowN (cs others : List Cell) : Nat → List Cell → Option (List Leap)
  | 0, _ => none
  | n + 1, pegs => if pegs = others then some [] else if pegs.length ≤ others.length then none else (openF cs pegs).findSome? fun l => (rowN cs others n (doneF pegs l)).map (l :: ·)
def rowF (cs others pegs : List Cell) : Option (List Leap) := rowN cs others (pegs.length + 1) pegs
theorem rowF_step {cs others pegs : List Cell} (h : standF cs pegs = true) : rowF cs others pegs = if pegs = others then some [] else if pegs.length ≤ others.length then none else (openF cs pegs).findSome? fun l => (rowF cs others (doneF pegs l)).map (l :: ·) := by
  have e : ((openF cs pegs).findSome? fun l => (rowN cs others pegs.length (doneF pegs l)).map (l :: ·)) = (openF cs pegs).findSome? fun l => (rowF cs others (doneF pegs l)).map (l :: ·) := findS_congr fun l hl => by
    unfold rowF
    rw [doneF_len (standF_nodup h) (openF_mem.mp hl)]
  rw [← e]
  rfl
theorem rowN_some {cs others : List Cell} : ∀ (n : Nat) {pegs : List Cell} {row : List Leap}, rowN cs others n pegs = some row → goes cs pegs row = true ∧ after pegs row = others
  | 0, _, _, h => by cases h
  | n + 1, pegs, row, h => by
    unfold rowN at h
    split at h
    · next e =>
      cases h
      exact ⟨rfl, e⟩
    · split at h
      · cases h
      · obtain ⟨l, hl, hf⟩ := findS_some h
        cases er : rowN cs others n (doneF pegs l) with
        | none =>
          rw [er] at hf
          cases hf
        | some r =>
          rw [er] at hf
          cases hf
          obtain ⟨h1, h2⟩ := rowN_some n er
          exact ⟨by show (canF cs pegs l && goes cs (doneF pegs l) r) = true; rw [openF_mem.mp hl, h1]; rfl, h2⟩
theorem rowF_some {cs others pegs : List Cell} {row : List Leap} (h : rowF cs others pegs = some row) : goes cs pegs row = true ∧ after pegs row = others := rowN_some _ h
theorem rowF_none {cs others : List Cell} : ∀ (row : List Leap) {pegs : List Cell}, standF cs pegs = true → rowF cs others pegs = none → goes cs pegs row = true → after pegs row ≠ others
  | [], pegs, hs, h, _, e => by
    rw [rowF_step hs, if_pos (show pegs = others from e)] at h
    cases h
  | l :: row, pegs, hs, h, g, e => by
    obtain ⟨g1, g2⟩ := (Bool.and_eq_true _ _).mp g
    have hl := goes_len (l :: row) hs g
    rw [e, List.length_cons] at hl
    have hst := rowF_step (others := others) hs
    rw [h, if_neg (fun z => by rw [z] at hl; omega), if_neg (by omega)] at hst
    have hn := findS_none hst.symm l (openF_mem.mpr g1)
    refine rowF_none row (doneF_stand hs g1) ?_ g2 e
    cases er : rowF cs others (doneF pegs l) with
    | none => rfl
    | some r =>
      rw [er] at hn
      cases hn
theorem rowF_reach {cs others pegs : List Cell} (hs : standF cs pegs = true) : (rowF cs others pegs).isSome = true ↔ others ∈ reachF cs pegs := by
  rw [reachF_mem hs]
  cases e : rowF cs others pegs with
  | none => exact ⟨fun z => (by cases z), fun ⟨row, g, ea⟩ => absurd ea (rowF_none row hs e g)⟩
  | some r => exact ⟨fun _ => ⟨r, rowF_some e⟩, fun _ => rfl⟩
/-! ### those from which no row leads there -/
theorem lookD_key {kvs : Kv} {t : List Cell} (h : (lookD kvs t).isSome = true) : t ∈ kvs.map fun e => e.1 := by
  induction kvs with
  | nil => cases h
  | cons e r ih =>
    unfold lookD at h
    rw [List.map_cons]
    split at h
    · next q =>
      rw [q]
      exact List.mem_cons_self
    · exact List.mem_cons_of_mem _ (ih h)
theorem lookD_of {kvs : Kv} {t : List Cell} (h : t ∈ kvs.map fun e => e.1) : (lookD kvs t).isSome = true := by
  induction kvs with
  | nil => cases h
  | cons e r ih =>
    unfold lookD
    split
    · rfl
    · next q =>
      rw [List.map_cons] at h
      exact ih ((List.mem_cons.mp h).resolve_left fun z => q z.symm)
structure DeadW (cs others : List Cell) (kvs : Kv) : Prop where
  key : ∀ k, k ∈ kvs.map (fun e => e.1) → standF cs k = true ∧ rowF cs others k = none
  nd : (kvs.map fun e => e.1).Nodup
theorem DeadW.nil (cs others : List Cell) : DeadW cs others [] := ⟨fun _ h => (nomatch h), List.nodup_nil⟩
theorem DeadW.put {cs others : List Cell} {kvs : Kv} (h : DeadW cs others kvs) {t : List Cell} (d : PyData) (hs : standF cs t = true) (hr : rowF cs others t = none) : DeadW cs others (putD kvs t d) := by
  refine ⟨fun k hk => ?_, ?_⟩
  · rw [keys_put] at hk
    split at hk
    · exact h.key k hk
    · rcases List.mem_append.mp hk with z | z
      · exact h.key k z
      · have e : k = t := by simpa using z
        rw [e]
        exact ⟨hs, hr⟩
  · rw [keys_put]
    split
    · exact h.nd
    · next n =>
      refine List.nodup_append.mpr ⟨h.nd, by simp, fun a ha b hb e => ?_⟩
      have hb' : b = t := by simpa using hb
      rw [← hb', ← e] at n
      exact n (lookD_of ha)
theorem DeadW.len {cs others : List Cell} {kvs : Kv} (h : DeadW cs others kvs) (hr : risingF cs = true) (h12 : cs.length ≤ 12) : kvs.length < 1000000 := by
  have h1 := stand_count hr h.nd fun k hk => (h.key k hk).1
  rw [List.length_map] at h1
  have := pow_12 h12
  omega

/-! ## the promise of the def that calls itself -/
/-- as Grow, but what stands at a is written -/
structure GrowB (a : Addr) (G H G' H' : Hp) : Prop where
  gg : Same G G'
  gh : Same G' H'
  hh : ∀ b o, b ≠ a → H b = some o → H' b = some o
  nw : ∀ b, G b = none → H b ≠ none → G' b = none
def rowSl : Option (List Leap) → Sl
  | none => .py .none
  | some r => .own (.lst (r.map lD))
def sp_first (P : Program) (w : World) (C : Addr) (n : Nat) : Sp := fun vs H Q _ => ∃ (cs pegs others : List Cell) (kvs : Kv) (G : Hp) (a : Addr) (o : HO) (v0 v1 v2 : V),
  vs = [v0, v1, v2, .ref a] ∧ cs.length ≤ 12 ∧ risingF cs = true ∧ standF cs pegs = true ∧ others.length ≤ 1000 ∧ pegs.length < n ∧ Same G H ∧ ArgsOk C G [v0, v1, v2] [.brd cs, .py (csD pegs), .py (csD others)] ∧
  G a = none ∧ H a = some o ∧ OwnOk H G a o (dctO P w kvs) ∧ DeadW cs others kvs ∧
  ∀ v G' H' o' kvs', GrowB a G H G' H' → H' a = some o' → OwnOk H G' a o' (dctO P w kvs') → DeadW cs others kvs' → SlOk C H G' H' v (rowSl (rowF cs others pegs)) → Q v H'

/-! ### statements whose return keeps the state in sight -/
structure PostS where
  nx : Env → Prop
  rt : Env → Sl → Prop
structure SatS (C : Addr) (G0 H0 B : Hp) (D : Ends) (P : PostS) : Prop where
  nx : ∀ γ σ G H, P.nx γ → Same B G → Stt C G0 H0 γ σ G H → D.nx σ H
  rt : ∀ γ σ s v G H, P.rt γ s → Stt C G0 H0 γ σ G H → SlOk C H0 G H v s → D.rt v H
theorem SatS.up {C : Addr} {G0 H0 B B' : Hp} {D : Ends} {P : PostS} (q : SatS C G0 H0 B D P) (e : Same B B') : SatS C G0 H0 B' D P :=
  ⟨fun γ σ G H p z => q.nx γ σ G H p (e.trans z), q.rt⟩
def RunS (C : Addr) (G0 H0 : Hp) (γ : Env) (ts : TS) (P : PostS) : Prop := ∀ (σ : L2.St) (G H : Hp) (D : Ends), Stt C G0 H0 γ σ G H → SatS C G0 H0 G D P → ts D σ H
section
variable {C : Addr} {G0 H0 : Hp} {γ : Env} {ts tu tw : TS} {P : PostS} {te : TE} {K : PySem.W.Frag} {s : Sl} {tt : TT} {b : Bool} {ds : List PyData}
theorem rS_next (h : P.nx γ) : RunS C G0 H0 γ tNext P := fun σ G H D x q => q.nx γ σ G H h (Same.refl G) x
theorem rS_seq (h : RunS C G0 H0 γ ts { P with nx := fun γ' => RunS C G0 H0 γ' tu P }) : RunS C G0 H0 γ (tSeq ts tu) P := fun σ G H D x q =>
  h σ G H _ x ⟨fun γ' σ' G' H' h' e' x' => h' σ' G' H' D x' (q.up e'), q.rt⟩
theorem rS_if (hc : EvB C γ tt b) (h1 : b = true → RunS C G0 H0 γ ts P) (h2 : b = false → RunS C G0 H0 γ tu P) : RunS C G0 H0 γ (tIfS tt ts tu) P := fun σ G H D x q =>
  hc G0 H0 σ G H _ x fun G' H' g => by
    cases b with
    | true => exact h1 rfl σ G' H' D (x.grow g) (q.up g.gg)
    | false => exact h2 rfl σ G' H' D (x.grow g) (q.up g.gg)
theorem rS_ret (he : EvS C γ te s) (h : P.rt γ s) : RunS C G0 H0 γ (tRet te) P := fun σ G H D x q =>
  he G0 H0 σ G H _ x fun v G' H' g r => q.rt γ σ s v G' H' h (x.grow g) (r.back x.gr.hh)
theorem rS_lift {I : Env → Prop} (h : Run C G0 H0 γ ts { nx := I, rt := fun _ => False }) (k : ∀ γ1, I γ1 → RunS C G0 H0 γ1 tu P) : RunS C G0 H0 γ (tSeq ts tu) P := fun σ G H D x q =>
  h σ G H _ x ⟨fun γ' σ' G' H' p e x' => k γ' p σ' G' H' D x' (q.up e), fun _ _ _ _ p => False.elim p, fun _ _ _ _ p => False.elim p, fun _ _ _ _ p => False.elim p⟩
theorem rS_for {g : TG} {tl : TE} (hl : EvS C γ tl (.py (.list ds))) (I : Nat → Env → Prop) (h0 : I 0 γ)
    (hs : ∀ i d γ1, ds[i]? = some d → I i γ1 → ∃ γ2, Tgt C g d γ1 γ2 ∧ RunS C G0 H0 γ2 ts { P with nx := I (i + 1) })
    (hd : ∀ γ1, I ds.length γ1 → P.nx γ1) : RunS C G0 H0 γ (tFor (iList K tl) g ts) P := fun σ G H D x q =>
  hl G0 H0 σ G H _ x fun v G1 H1 g1 r1 => by
    have r1' : Rp G1 v (.list ds) := r1
    cases r1' with
    | @lst a vs _ ha hr =>
      refine ⟨a, rfl, ⟨vs, SqL.of (g1.gh _ _ ha)⟩, for_list (K := K) (a := a) (xs := vs) (fun i σ' H' => ∃ γ1 G', I i γ1 ∧ Stt C G0 H0 γ1 σ' G' H' ∧ Same G1 G') ⟨γ, G1, h0, x.grow g1, Same.refl _⟩ (fun i σ' H' _ ⟨_, G', _, x', e'⟩ => SqL.of (x'.same _ _ (e' _ _ ha))) ?_ ?_⟩
      · rintro i y σ' H' hi ⟨γ1, G', i1, x', e'⟩
        obtain ⟨d, hd1, rd⟩ := hr.get hi
        obtain ⟨γ2, tg, rn⟩ := hs i d γ1 hd1 i1
        refine tg G0 H0 σ' G' H' y _ x' (Rp.mono e' rd) fun σ2 x2 => ?_
        exact rn σ2 G' H' _ x2 ⟨fun γ3 σ3 G3 H3 p e3 x3 => ⟨γ3, G3, p, x3, e'.trans e3⟩, q.rt⟩
      · rintro σ' H' ⟨γ1, G', i1, x', e'⟩
        rw [hr.len] at i1
        exact q.nx γ1 σ' G' H' (hd γ1 i1) (g1.gg.trans e') x'
/-- an own list is not None -/
theorem e_notNO {ta tb : TE} (ha : EvL C γ ta ds) (hb : EvS C γ tb (.py .none)) : EvS C γ (tOp rNotN ta tb) (.py (.bool true)) := fun G0 H0 σ G H Q x q =>
  ha G0 H0 σ G H _ x fun a vs G1 H1 g1 h1 r1 => hb G0 H0 σ G1 H1 _ (x.grow g1) fun u G2 H2 g2 r2 => by
    cases r2
    exact ⟨rfl, q _ G2 H2 (g1.trans g2) (Rp.bl true)⟩
end
/-- a dict at a, told with where it stands -/
def dctA (P : Program) (w : World) (a : Addr) (kvs : Kv) : Own := .any (fun _ G b o => b = a ∧ ∃ ents, o = NDo P w b ents ∧ Paired (EntOk G) ents kvs) (fun _ _ _ _ _ e ⟨h0, ents, h1, h2⟩ => ⟨h0, ents, h1, paired_imp (fun _ _ q => q.mono e) h2⟩) (fun _ _ _ _ _ _ h => h)
section
variable {Pr : Program} {w : World} {C a : Addr} {G0 H0 G H : Hp} {γ : Env} {σ : L2.St} {kvs : Kv} {te tb tv : TE} {s : Sl} {d : PyData} {cs : List Cell} {Po : Post}
theorem Stt.offA (x : Stt C G0 H0 γ σ G H) (i : Nat) (hi : γ[i]? = some (.own (dctA Pr w a kvs))) : Stt C G0 H0 (γ.set i (.own (dctO Pr w kvs))) σ G H := by
  have hil : i < γ.length := (List.getElem?_eq_some_iff.mp hi).1
  refine ⟨x.gr, by rw [List.length_set]; exact x.ln, fun j t h => ?_, fun j k u u' b h1 h2 h3 h4 => ?_⟩
  · by_cases e : j = i
    · subst e
      rw [List.getElem?_set_self hil] at h
      cases h
      obtain ⟨v, h1, a', o, rfl, h3, h4, h5, h6⟩ := x.get hi (by simp)
      exact .inr ⟨_, h1, a', o, rfl, h3, h4, h5, h6.2⟩
    · rw [List.getElem?_set_ne (Ne.symm e)] at h
      exact x.ok j t h
  · have own : ∀ {m : Nat} {u : Own}, (γ.set i (.own (dctO Pr w kvs)))[m]? = some (.own u) → ∃ u', γ[m]? = some (.own u') := fun {m u} h => by
      by_cases e : m = i
      · subst e
        exact ⟨_, hi⟩
      · rw [List.getElem?_set_ne (Ne.symm e)] at h
        exact ⟨u, h⟩
    obtain ⟨u1, q1⟩ := own h1
    obtain ⟨u2, q2⟩ := own h2
    exact x.ap j k u1 u2 b q1 q2 h3 h4
theorem e_offA (i : Nat) (hi : γ[i]? = some (.own (dctA Pr w a kvs))) (h : EvS C (γ.set i (.own (dctO Pr w kvs))) te s) : EvS C γ te s := fun G0 H0 σ G H Q x q => h G0 H0 σ G H Q (x.offA i hi) q
theorem r_nputA (i : Nat) (hi : γ[i]? = some (.own (dctA Pr w a kvs))) (hv : EvS C γ tv (.py d)) (hb : EvS C γ tb (.py (tsD cs))) (hz : kvs.length < 1000000) (h : Po.nx (γ.set i (.own (dctA Pr w a (putD kvs cs d))))) : Run C G0 H0 γ (sNPut Pr w (tVar i) tb tv) Po := fun σ G H D x q =>
  hv G0 H0 σ G H _ x fun v G1 H1 g1 r1 => by
    obtain ⟨v0, h0, a', o, rfl, _, _, _, ea, _⟩ := (x.grow g1).get hi (by simp)
    subst ea
    refine ⟨_, h0, hb G0 H0 σ G1 H1 _ (x.grow g1) fun u G2 H2 g2 r2 => ?_⟩
    obtain ⟨b, rfl⟩ := rp_tsD r2
    have y := x.grow (g1.trans g2)
    obtain ⟨v1, h1, a2, o2, rfl, h2, _, _, _, ents, rfl, h3⟩ := y.get hi (by simp)
    rw [h0] at h1
    cases h1
    refine ⟨_, b, cs, ents, rfl, rfl, (keyH_of r2).mono g2.gh, h2, ents_keys g2.gh h3, by rw [Paired.length h3]; exact hz, q.nx _ _ _ _ h (g1.trans g2).gg (y.write hi h0 ?_)⟩
    exact ⟨rfl, _, rfl, ents_put r2 (Rp.mono g2.gg r1) h3⟩
end
section
variable {Pr : Program} {w : World} {C : Addr} {G0 H0 : Hp} {td t0 t1 t2 : TE} {cs pegs others behind : List Cell} {kvs : Kv} {d4 : PyData} {s5 : Sl}
theorem rowSl_own {x : Option (List Leap)} {u : Own} (h : rowSl x = .own u) : ∃ ds, u = .lst ds := by
  cases x with
  | none => cases h
  | some r =>
    cases h
    exact ⟨_, rfl⟩
/-- rest = first_row(board, .., others, dead) -/
theorem rS_first {P : PostS} {n : Nat} {a : Addr} {E : L2.St → XK} (h12 : cs.length ≤ 12) (hr : risingF cs = true) (hst : standF cs behind = true) (ho : others.length ≤ 1000) (hn : behind.length < n) (dw : DeadW cs others kvs) (hd : EvS C [.brd cs, .py (csD pegs), .py (csD others), .own (dctA Pr w a kvs), .py d4, s5] td (.py (csD behind)))
    (h : ∀ kvs', DeadW cs others kvs' → P.nx [.brd cs, .py (csD pegs), .py (csD others), .own (dctA Pr w a kvs'), .py d4, rowSl (rowF cs others behind)]) :
    RunS C G0 H0 [.brd cs, .py (csD pegs), .py (csD others), .own (dctA Pr w a kvs), .py d4, s5] (tAsg (tCallS (sp_first Pr w C n) E (tCons (tVar 0) (tCons td (tCons (tVar 2) (tCons (tVar 3) tNil))))) (gName 5)) P := fun σ G H D x q => by
  obtain ⟨v0, a0, b0⟩ := x.get (i := 0) rfl (by simp)
  obtain ⟨v2, a2, b2⟩ := x.get (i := 2) rfl (by simp)
  obtain ⟨v3, a3, a', o, rfl, c1, c2, c3, ea, c4⟩ := x.get (i := 3) rfl (by simp)
  subst ea
  refine ⟨v0, a0, hd G0 H0 σ G H _ x fun v1 G1 H1 g1 r1 => ⟨v2, a2, _, a3, ?_⟩⟩
  have y := x.grow g1
  have ha1 : H1 a' = some o := g1.hh _ _ c1
  have hg1 : G1 a' = none := g1.nw a' c2 (by rw [c1]; simp)
  refine ⟨cs, behind, others, kvs, G1, a', o, v0, v1, v2, rfl, h12, hr, hst, ho, hn, g1.gh, .cons (Brd.mono g1.gg b0) (.cons r1 (.cons (Rp.mono g1.gg b2) .nil)), hg1, ha1, (OwnOk.mono g1.gg (show OwnOk H0 G a' o (dctO Pr w kvs) from c4) : OwnOk H0 G1 a' o (dctO Pr w kvs)), dw, ?_⟩
  intro v G' H' o' kvs' gb ho' ok' dw' rs
  have eG : Same G G' := g1.gg.trans gb.gg
  refine q.nx _ _ G' H' (h kvs' dw') eG ⟨⟨y.gr.gg.trans gb.gg, gb.gh, fun b p e => gb.hh b p (fun z => by rw [z, c3] at e; cases e) (y.gr.hh b p e), fun b e1 e2 => gb.nw b (y.gr.nw b e1 e2) (by
    cases e : H0 b with
    | none => exact absurd e e2
    | some p => rw [y.gr.hh b p e]; simp)⟩, by rw [List.length_set]; exact x.ln, fun j t hj => ?_, fun j k u w' c hj hk h3 h4 => ?_⟩
  · have hl : σ.length = 6 := x.ln
    match j, hj with
    | 0, hj =>
      cases hj
      exact .inr ⟨v0, by rw [List.getElem?_set_ne (by decide)]; exact a0, Brd.mono eG b0⟩
    | 1, hj =>
      cases hj
      obtain ⟨v, z1, z2⟩ := x.get (i := 1) rfl (by simp)
      exact .inr ⟨v, by rw [List.getElem?_set_ne (by decide)]; exact z1, Rp.mono eG z2⟩
    | 2, hj =>
      cases hj
      exact .inr ⟨v2, by rw [List.getElem?_set_ne (by decide)]; exact a2, Rp.mono eG b2⟩
    | 3, hj =>
      cases hj
      exact .inr ⟨.ref a', by rw [List.getElem?_set_ne (by decide)]; exact a3, a', o', rfl, ho', gb.nw a' hg1 (by rw [ha1]; simp), c3, rfl, ok'⟩
    | 4, hj =>
      cases hj
      obtain ⟨v, z1, z2⟩ := x.get (i := 4) rfl (by simp)
      exact .inr ⟨v, by rw [List.getElem?_set_ne (by decide)]; exact z1, Rp.mono eG z2⟩
    | 5, hj =>
      cases hj
      exact .inr ⟨v, List.getElem?_set_self (by rw [hl]; decide), rs.back y.gr.hh⟩
    | n + 6, hj => cases hj
  · have hl : σ.length = 6 := x.ln
    -- the answer is new: no dict of the caller's
    have apart : ∀ (u : Own), rowSl (rowF cs others behind) = .own u → (σ.set 5 (some v))[5]? = some (some (.ref c)) → (σ.set 5 (some v))[3]? = some (some (.ref c)) → False := fun u e z1 z2 => by
      rw [List.getElem?_set_self (by rw [hl]; decide)] at z1
      rw [List.getElem?_set_ne (by decide), a3] at z2
      cases z1
      cases z2
      rw [e] at rs
      obtain ⟨a2, _, e1, _, _, e2, _⟩ := rs
      cases e1
      rw [ha1] at e2
      cases e2
    match j, k, hj, hk, h3, h4 with
    | 3, 3, _, _, _, _ => rfl
    | 5, 5, _, _, _, _ => rfl
    | 3, 5, _, hk, h3, h4 => exact False.elim (apart w' (Option.some.inj hk) h4 h3)
    | 5, 3, hj, _, h3, h4 => exact False.elim (apart u (Option.some.inj hj) h3 h4)
    | 0, _, hj, _, _, _ => cases hj
    | 1, _, hj, _, _, _ => cases hj
    | 2, _, hj, _, _, _ => cases hj
    | 4, _, hj, _, _, _ => cases hj
    | n + 6, _, hj, _, _, _ => cases hj
    | 3, 0, _, hk, _, _ => cases hk
    | 3, 1, _, hk, _, _ => cases hk
    | 3, 2, _, hk, _, _ => cases hk
    | 3, 4, _, hk, _, _ => cases hk
    | 3, n + 6, _, hk, _, _ => cases hk
    | 5, 0, _, hk, _, _ => cases hk
    | 5, 1, _, hk, _, _ => cases hk
    | 5, 2, _, hk, _, _ => cases hk
    | 5, 4, _, hk, _, _ => cases hk
    | 5, n + 6, _, hk, _, _ => cases hk
/-- first_row(board, .., .., {}) -/
theorem e_first {γ : Env} {n : Nat} {E : L2.St → XK} (h12 : cs.length ≤ 12) (hr : risingF cs = true) (hst : standF cs pegs = true) (ho : others.length ≤ 1000) (hn : pegs.length < n) (h0 : EvS C γ t0 (.brd cs)) (h1 : EvS C γ t1 (.py (csD pegs))) (h2 : EvS C γ t2 (.py (csD others))) :
    EvS C γ (tCallS (sp_first Pr w C n) E (tCons t0 (tCons t1 (tCons t2 (tCons (tNNew Pr w) tNil))))) (rowSl (rowF cs others pegs)) := fun G0 H0 σ G H Q x q =>
  h0 G0 H0 σ G H _ x fun v0 G1 H1 g1 r0 => h1 G0 H0 σ G1 H1 _ (x.grow g1) fun v1 G2 H2 g2 r1 => h2 G0 H0 σ G2 H2 _ (x.grow (g1.trans g2)) fun v2 G3 H3 g3 r2 p hp => by
    have g := (g1.trans g2).trans g3
    refine ⟨cs, pegs, others, [], G3, p, _, v0, v1, v2, rfl, h12, hr, hst, ho, hn, g3.gh.trans (same_new hp), .cons (Brd.mono (g2.trans g3).gg r0) (.cons (Rp.mono g3.gg r1) (.cons r2 .nil)), g3.gh.free hp, upd_same, ⟨[], rfl, .nil⟩, DeadW.nil _ _, ?_⟩
    intro v G' H' o' kvs' gb _ _ _ rs
    have hh : Same H H' := fun b o e => by
      have e3 := g.hh b o e
      have n : b ≠ p := ne_of_none e3 hp
      exact gb.hh b o n (by rw [upd_ne n]; exact e3)
    refine q v G' H' ⟨g.gg.trans gb.gg, gb.gh, hh, fun b e1 e2 => gb.nw b (g.nw b e1 e2) ?_⟩ (rs.back fun b o e => ?_)
    · cases e : H b with
      | none => exact absurd e e2
      | some o =>
        have e3 := g.hh b o e
        rw [upd_ne (ne_of_none e3 hp), e3]
        simp
    · have e3 := g.hh b o e
      rw [upd_ne (ne_of_none e3 hp)]
      exact e3
end
end Pg

namespace Pg
open PySem PySem.Spec PyProof.Rows L2

/-! ## min of two -/
def rMin2 : List V → Hp → VK → Prop := fun xs H Q => ∃ i j, xs = [.int i, .int j] ∧ Q (.int (if j < i then j else i)) H
theorem c_min2 {X : Cx} (hc : X.calm = true) : CallR X (.builtin "min") rMin2 := call_min2 hc
section
variable {C : Addr} {γ : Env} {K : PySem.W.Frag} {ta tb te : TE} {i j : Int} {α : Type} {r : Rel α} {x : α} {xs : List α} {f : α → PyData} {G0 H0 : Hp} {Po : Post} {ts : TS}
theorem e_min2 (ha : EvS C γ ta (.py (.int i))) (hb : EvS C γ tb (.py (.int j))) : EvS C γ (tCB rMin2 (tCons ta (tCons tb tNil))) (.py (.int (if j < i then j else i))) := fun G0 H0 σ G H Q x q =>
  ha G0 H0 σ G H _ x fun v G1 H1 g1 r1 => hb G0 H0 σ G1 H1 _ (x.grow g1) fun u G2 H2 g2 r2 => by
    cases rp_int r1
    cases rp_int r2
    exact ⟨i, j, rfl, q _ G2 H2 (g1.trans g2) (Rp.int _)⟩
/-! ## a tuple of a text and a new thing -/
def Rel.pairS {α : Type} (t : Str) (r : Rel α) : Rel α where
  R := fun H0 G v x => ∃ a u, v = .ref a ∧ G a = some (.tup [.str t, u]) ∧ r.R H0 G u x
  m := fun _ _ _ _ _ e ⟨a, u, h1, h2, h3⟩ => ⟨a, u, h1, e _ _ h2, r.m _ _ _ _ _ e h3⟩
  k := fun _ _ _ _ _ e ⟨a, u, h1, h2, h3⟩ => ⟨a, u, h1, h2, r.k _ _ _ _ _ e h3⟩
  d := fun x => .tuple [.str t, r.d x]
  rp := fun _ _ _ _ ⟨a, u, h1, h2, h3⟩ => by
    subst h1
    exact Rp.tup h2 (.cons (.str _) (.cons (r.rp _ _ _ _ h3) .nil))
theorem e_tupS {t : Str} (h : EvS C γ te (sR r x)) : EvS C γ (tTup (tCons (tC (.str t)) (tCons te tNil))) (sR (Rel.pairS t r) x) := fun G0 H0 σ G H Q z q =>
  h G0 H0 σ G H _ z fun v G1 H1 g1 r1 => ⟨small (by decide : 2 ≤ 1000000), fun p hp => q (.ref p) _ _ (g1.trans (Grow.lay g1.gh hp)) ⟨p, v, rfl, upd_same, r.m _ _ _ _ _ (same_new (g1.gh.free hp)) r1⟩⟩
/-- a slot's own list freezes, new as it is -/
theorem Stt.frzN {σ : L2.St} {G H : Hp} (x : Stt C G0 H0 γ σ G H) (i : Nat) (hi : γ[i]? = some (.own (.lst (xs.map f)))) : ∃ G', Same G G' ∧ Stt C G0 H0 (γ.set i (sR (Rel.nl f) xs)) σ G' H := by
  obtain ⟨v, h1, a, o, rfl, h3, h4, h5, vs, rfl, h6⟩ := x.get hi (by simp)
  have e : Same G (upd G a (.lst vs)) := same_new h4
  have hil : i < γ.length := (List.getElem?_eq_some_iff.mp hi).1
  have other : ∀ {m : Nat} {w : Own}, (γ.set i (sR (Rel.nl f) xs))[m]? = some (.own w) → m ≠ i ∧ γ[m]? = some (.own w) := fun {m w} h => by
    by_cases z : m = i
    · rw [z, List.getElem?_set_self hil] at h
      unfold sR at h
      cases h
    · rw [List.getElem?_set_ne (Ne.symm z)] at h
      exact ⟨z, h⟩
  refine ⟨_, e, x.gr.frz h5 h4 h3, by rw [List.length_set]; exact x.ln, fun j t h => ?_, fun j k u w b q1 q2 q3 q4 => x.ap j k u w b (other q1).2 (other q2).2 q3 q4⟩
  by_cases z : j = i
  · rw [z, List.getElem?_set_self hil] at h
    cases h
    rw [z]
    exact .inr ⟨_, h1, a, vs, rfl, upd_same, RpA.mono e h6, h5⟩
  · rw [List.getElem?_set_ne (Ne.symm z)] at h
    rcases x.ok j t h with y | ⟨u, u1, u2⟩
    · exact .inl y
    · refine .inr ⟨u, u1, ?_⟩
      cases t with
      | no => trivial
      | py d => exact Rp.mono e u2
      | brd cs => exact Brd.mono e u2
      | pr p m => exact m _ _ _ e u2
      | nw p m k => exact m _ _ _ _ e u2
      | own w =>
        obtain ⟨b, o', rfl, b2, b3, b4, b5⟩ := u2
        have nb : b ≠ a := fun q => z (x.ap j i w _ a h hi (by rw [← q]; exact u1) h1)
        exact ⟨b, o', rfl, b2, by rw [upd_ne nb]; exact b3, b4, b5.mono e⟩
theorem r_frzN (i : Nat) (hi : γ[i]? = some (.own (.lst (xs.map f)))) (h : Run C G0 H0 (γ.set i (sR (Rel.nl f) xs)) ts Po) : Run C G0 H0 γ ts Po := fun σ G H D z q => by
  obtain ⟨G', e, y⟩ := z.frzN i hi
  exact h σ G' H D y (q.up e)
/-- return (t, x), x new in a slot -/
theorem r_retTS {t : Str} (i : Nat) (hi : γ[i]? = some (sR r x)) (h : Po.rt (sR (Rel.pairS t r) x)) : Run C G0 H0 γ (tRet (tTup (tCons (tC (.str t)) (tCons (tVar i) tNil)))) Po := fun σ G H D z q => by
  obtain ⟨v, h1, h2⟩ := z.get hi (by unfold sR; simp)
  refine ⟨v, h1, small (by decide : 2 ≤ 1000000), fun p hp => ?_⟩
  have g : Grow G H (upd G p (.tup [.str t, v])) (upd H p (.tup [.str t, v])) := Grow.lay z.same hp
  exact q.rt _ _ _ _ h (z.gr.trans g) ⟨p, v, rfl, upd_same, r.m _ _ _ _ _ g.gg h2⟩
end
section
variable {C : Addr} {γ : Env} {ta tb : TE} {x y : Str}
theorem rp_str {G : Hp} {v : V} {x : Str} (h : Rp G v (.str x)) : v = .str x := by cases h; rfl
theorem e_eqS (ha : EvS C γ ta (.py (.str x))) (hb : EvS C γ tb (.py (.str y))) : EvS C γ (tOp rEq ta tb) (.py (.bool (decide (x = y)))) :=
  e_op ha hb fun u v G H Q e r1 r2 q => by
    cases rp_str r1
    cases rp_str r2
    refine ⟨rfl, q _ G H (Grow.refl e) ?_⟩
    have z : decide (V.str x = V.str y) = decide (x = y) := decide_eq_decide.mpr ⟨fun h => V.str.inj h, fun h => by rw [h]⟩
    rw [z]
    exact Rp.bl _
theorem e_neS (ha : EvS C γ ta (.py (.str x))) (hb : EvS C γ tb (.py (.str y))) : EvS C γ (tOp rNe ta tb) (.py (.bool (!decide (x = y)))) :=
  e_op ha hb fun u v G H Q e r1 r2 q => by
    cases rp_str r1
    cases rp_str r2
    refine ⟨rfl, q _ G H (Grow.refl e) ?_⟩
    have z : decide (V.str x = V.str y) = decide (x = y) := decide_eq_decide.mpr ⟨fun h => V.str.inj h, fun h => by rw [h]⟩
    rw [z]
    exact Rp.bl _
end
/-! ## papers in plain lists -/
def bitsF (n many : Nat) : List Int := (List.range many).map fun k => ((n / 2 ^ k % 2 : Nat) : Int)
theorem bitsF_len (n many : Nat) : (bitsF n many).length = many := by
  unfold bitsF
  rw [List.length_map, List.length_range]
theorem bitsF_bd {n many : Nat} {x : Int} (h : x ∈ bitsF n many) : 0 ≤ x ∧ x ≤ 1 := by
  obtain ⟨k, _, rfl⟩ := List.mem_map.mp h
  omega
theorem bitsF_areW (cs : List Cell) (n : Nat) : areW cs (bitsF n cs.length) = true := by
  unfold areW
  rw [bitsF_len, decide_eq_true rfl, Bool.true_and, List.all_eq_true]
  intro x hx
  have := bitsF_bd hx
  refine decide_eq_true ?_
  unfold absI
  split <;> omega
def waysF (cs : List Cell) : Nat := 2 ^ (min cs.length 8)
theorem waysF_le (cs : List Cell) : waysF cs ≤ 256 := Nat.le_trans (Nat.pow_le_pow_right (by decide) (Nat.min_le_right _ _)) (by decide)
def forbids (cs pegs others : List Cell) (ws : List Int) : Bool := decide (weightF cs ws pegs < weightF cs ws others) && fairF cs ws
def tryW (cs pegs others : List Cell) (n : Nat) : Option (List Int) := if forbids cs pegs others (bitsF n cs.length) = true then some (bitsF n cs.length) else none
def paperW (cs pegs others : List Cell) : Option (List Int) := (List.range (waysF cs)).findSome? (tryW cs pegs others)
theorem paperW_some {cs pegs others : List Cell} {ws : List Int} (h : paperW cs pegs others = some ws) : areW cs ws = true ∧ forbids cs pegs others ws = true := by
  obtain ⟨n, _, hn⟩ := findS_some h
  unfold tryW at hn
  split at hn
  · next q =>
    cases hn
    exact ⟨bitsF_areW cs n, q⟩
  · cases hn
def optW : Option (List Int) → PyData
  | some ws => isD ws
  | none => .none
def sClosed : Rel (List (List Cell)) := Rel.pairS "closed" (Rel.nl cD).list
def paperSl (cs pegs others : List Cell) : Sl :=
  if classF pegs = classF others then
    match paperW cs pegs others with
    | some ws => .py (.tuple [.str "weights", isD ws])
    | none => sR sClosed (reachF cs pegs)
  else .py (.tuple [.str "class"])
def ansSl (cs pegs others : List Cell) : Sl :=
  match rowF cs others pegs with
  | some row => sR (Rel.pairS "leaps" (Rel.nl lD)) row
  | none =>
    if classF pegs = classF others then
      match paperW cs pegs others with
      | some ws => .py (.tuple [.str "never", .tuple [.str "weights", isD ws]])
      | none => sR (Rel.pairS "never" sClosed) (reachF cs pegs)
    else .py (.tuple [.str "never", .tuple [.str "class"]])
/-! ### an answer as data -/
def paperD (cs pegs others : List Cell) : PyData :=
  if classF pegs = classF others then
    match paperW cs pegs others with
    | some ws => .tuple [.str "weights", isD ws]
    | none => .tuple [.str "closed", ssD (reachF cs pegs)]
  else .tuple [.str "class"]
def ansD (cs pegs others : List Cell) : PyData :=
  match rowF cs others pegs with
  | some row => .tuple [.str "leaps", lsD row]
  | none => .tuple [.str "never", paperD cs pegs others]
theorem e_ans {C : Addr} {γ : Env} {te : TE} {cs pegs others : List Cell} (h : EvS C γ te (ansSl cs pegs others)) : EvS C γ te (.py (ansD cs pegs others)) := by
  unfold ansSl at h
  unfold ansD paperD
  cases er : rowF cs others pegs with
  | some row =>
    rw [er] at h
    exact e_dR h
  | none =>
    rw [er] at h
    dsimp only at h ⊢
    by_cases hc : classF pegs = classF others
    · rw [if_pos hc] at h ⊢
      cases hw : paperW cs pegs others with
      | some ws =>
        rw [hw] at h
        exact h
      | none =>
        rw [hw] at h
        exact e_dR h
    · rw [if_neg hc] at h ⊢
      exact h
def headS (b : Bool) : Str := if b = true then "leaps" else "never"
theorem ansD_at (cs pegs others : List Cell) : ∃ d, ansD cs pegs others = .tuple [.str (headS (rowF cs others pegs).isSome), d] := by
  unfold ansD
  cases rowF cs others pegs with
  | some row => exact ⟨_, rfl⟩
  | none => exact ⟨_, rfl⟩
theorem headS_leaps (b : Bool) : decide (headS b = "leaps") = b := by
  cases b
  · exact decide_eq_false (by decide)
  · exact decide_eq_true rfl
theorem e_neB {C : Addr} {γ : Env} {ta tb : TE} {a b : Bool} (ha : EvS C γ ta (.py (.bool a))) (hb : EvS C γ tb (.py (.bool b))) : EvS C γ (tOp rNe ta tb) (.py (.bool (!decide (a = b)))) :=
  e_op ha hb fun x y G H Q e r1 r2 q => by
    cases rp_bl r1
    cases rp_bl r2
    refine ⟨rfl, q _ G H (Grow.refl e) ?_⟩
    have z : decide (V.bl a = V.bl b) = decide (a = b) := by
      cases a <;> cases b <;> rfl
    rw [z]
    exact Rp.bl _
/-! ### come to -/
theorem goes_cat {cs : List Cell} : ∀ (r r' : List Leap) {pegs : List Cell}, goes cs pegs (r ++ r') = (goes cs pegs r && goes cs (after pegs r) r')
  | [], r', pegs => by
    show goes cs pegs r' = (true && goes cs pegs r')
    rw [Bool.true_and]
  | x :: r, r', pegs => by
    show (canF cs pegs x && goes cs (doneF pegs x) (r ++ r')) = (canF cs pegs x && goes cs (doneF pegs x) r && goes cs (after (doneF pegs x) r) r')
    rw [goes_cat r r', Bool.and_assoc]
theorem after_cat (pegs : List Cell) (r r' : List Leap) : after pegs (r ++ r') = after (after pegs r) r' := by
  unfold after
  rw [List.foldl_append]
theorem reach_stand {cs s t : List Cell} (hs : standF cs s = true) (h : t ∈ reachF cs s) : standF cs t = true := by
  obtain ⟨row, g, rfl⟩ := (reachF_mem hs).mp h
  exact goes_stand row hs g
theorem reach_trans {cs s t u : List Cell} (hs : standF cs s = true) (h : t ∈ reachF cs s) (h' : u ∈ reachF cs t) : u ∈ reachF cs s := by
  have ht := reach_stand hs h
  obtain ⟨row, g, rfl⟩ := (reachF_mem hs).mp h
  obtain ⟨row', g', rfl⟩ := (reachF_mem ht).mp h'
  exact (reachF_mem hs).mpr ⟨row ++ row', by rw [goes_cat, g, g']; rfl, after_cat _ _ _⟩
theorem reach_class {cs s t : List Cell} (hs : standF cs s = true) (h : t ∈ reachF cs s) : classF t = classF s := by
  obtain ⟨row, g, rfl⟩ := (reachF_mem hs).mp h
  exact goes_class row hs g
theorem reach_self {cs s : List Cell} (hs : standF cs s = true) : s ∈ reachF cs s := (reachF_mem hs).mpr ⟨[], rfl, rfl⟩
theorem reach_step {cs s t : List Cell} {l : Leap} (hs : standF cs s = true) (h : t ∈ reachF cs s) (hl : canF cs t l = true) : doneF t l ∈ reachF cs s :=
  reach_trans hs h ((reachF_mem (reach_stand hs h)).mpr ⟨[l], by show (canF cs t l && true) = true; rw [hl]; rfl, rfl⟩)
theorem reach_len {cs s : List Cell} (hr : risingF cs = true) (h12 : cs.length ≤ 12) (hs : standF cs s = true) : (reachF cs s).length ≤ 53248 := by
  unfold reachF
  have hlk := layersF_len cs (s.length + 1) [s]
  have hpl := stand_len hs
  refine Nat.le_trans (flat_len (cs := cs) (k := 4096) fun h hh => ?_) (Nat.le_trans (Nat.mul_le_mul_left 4096 (show _ ≤ 13 by omega)) (by decide))
  obtain ⟨k, ho⟩ := layers_ok _ (hereOk_one hs) h hh
  exact ho.count hr h12
theorem ends_mem {cs : List Cell} : ∀ (k : Nat) {s t : List Cell}, t ∈ endsF cs k s ↔ ∃ row : List Leap, row.length = k ∧ goes cs s row = true ∧ after s row = t
  | 0, s, t => by
    show t ∈ [s] ↔ _
    rw [List.mem_singleton]
    constructor
    · intro e
      exact ⟨[], rfl, rfl, e.symm⟩
    · rintro ⟨row, h1, _, h3⟩
      rw [List.eq_nil_of_length_eq_zero h1] at h3
      exact h3.symm
  | k + 1, s, t => by
    rw [endsF_head, List.mem_flatMap]
    constructor
    · rintro ⟨u, hu, ht⟩
      obtain ⟨l, hl, rfl⟩ := List.mem_map.mp hu
      obtain ⟨row, h1, h2, h3⟩ := (ends_mem k).mp ht
      exact ⟨l :: row, by rw [List.length_cons, h1], by show (canF cs s l && goes cs (doneF s l) row) = true; rw [openF_mem.mp hl, h2]; rfl, h3⟩
    · rintro ⟨row, h1, h2, h3⟩
      cases row with
      | nil => cases h1
      | cons l row =>
        obtain ⟨g1, g2⟩ := (Bool.and_eq_true _ _).mp h2
        exact ⟨doneF s l, List.mem_map.mpr ⟨l, openF_mem.mpr g1, rfl⟩, (ends_mem k).mpr ⟨row, by simpa using h1, g2, h3⟩⟩
theorem sumN_nn {f : Nat → Int} (h : ∀ k, 0 ≤ f k) : ∀ n, 0 ≤ sumN f n
  | 0 => Int.le_refl _
  | n + 1 => by
    have h1 := sumN_nn h n
    have h2 := h n
    show 0 ≤ sumN f n + f n
    omega
theorem sumN_pos {f : Nat → Int} (h : ∀ k, 0 ≤ f k) : ∀ n, 0 < sumN f n ↔ ∃ k, k < n ∧ 0 < f k
  | 0 => ⟨fun z => absurd z (by show ¬ (0 : Int) < 0; omega), fun ⟨k, z, _⟩ => absurd z (Nat.not_lt_zero k)⟩
  | n + 1 => by
    have ih := sumN_pos h n
    have h1 := sumN_nn h n
    have h2 := h n
    show 0 < sumN f n + f n ↔ _
    constructor
    · intro z
      by_cases q : 0 < f n
      · exact ⟨n, Nat.lt_succ_self n, q⟩
      · obtain ⟨k, k1, k2⟩ := ih.mp (by omega)
        exact ⟨k, by omega, k2⟩
    · rintro ⟨k, k1, k2⟩
      by_cases q : k = n
      · rw [q] at k2
        omega
      · have := ih.mpr ⟨k, by omega, k2⟩
        omega
theorem count_reach {cs s t : List Cell} (hs : standF cs s = true) : 0 < countF cs s t ↔ t ∈ reachF cs s := by
  unfold countF
  rw [sumN_pos (f := fun k => cntF cs k s t) (fun k => Int.natCast_nonneg _), reachF_mem hs]
  constructor
  · rintro ⟨k, _, hk⟩
    have hm : t ∈ endsF cs k s := List.count_pos_iff.mp (by unfold cntF at hk; omega)
    obtain ⟨row, _, h2, h3⟩ := (ends_mem k).mp hm
    exact ⟨row, h2, h3⟩
  · rintro ⟨row, g, e⟩
    have hl := goes_len row hs g
    refine ⟨row.length, by omega, ?_⟩
    have : 0 < (endsF cs row.length s).count t := List.count_pos_iff.mpr ((ends_mem _).mpr ⟨row, rfl, g, e⟩)
    unfold cntF
    omega
/-! ### what was told is changed -/
section
variable {C : Addr} {G0 H0 : Hp} {γ : Env} {ts : TS} {P : Post} {K : PySem.W.Frag} {te : TE} {d : PyData}
theorem z_wk (h : RunZ C G0 H0 γ ts { nx := fun γ1 => ∃ γ2, Paired (Wk C) γ1 γ2 ∧ P.nx γ2, rt := P.rt, bk := P.bk, ct := P.ct }) : RunZ C G0 H0 γ ts P := fun σ G H D x q =>
  h σ G H D x ⟨fun γ1 σ' G' H' ⟨γ2, w, p⟩ e x' => q.nx γ2 σ' G' H' p e (x'.wk w), q.rt, q.bk, q.ct⟩
/-- found[1].append(e), found told by this part's own call -/
theorem r_thawPair (i : Nat) {t : Str} {α : Type} {f : α → PyData} {xs : List α} (e0 : Same G0 H0) (hi : γ[i]? = some (sR (Rel.pairS t (Rel.nl f)) xs)) (hz : xs.length < 1000000) (hf : ∀ (j : Nat) (s : Sl), j ≠ i → γ[j]? = some s → s = .no ∨ ∃ s', s = fx C G0 s') (he : EvS C γ te (.py d)) (h : P.nx (γ.set i .no)) :
    RunZ C G0 H0 γ (tDrop (tBM K "list" rAppend (tOp (rIxT K) (tVar i) (tC (.int 1))) (tCons te tNil))) P := fun σ G H D x q => by
  obtain ⟨v, h1, a, u, rfl, ga, b, us, rfl, gb, hu, hb⟩ := x.get hi (by unfold sR; simp)
  refine ⟨_, h1, a, _, 1, .ref b, rfl, rfl, SqT.of (x.same _ _ ga), (atI_nat (j := 1) rfl : atI [V.str t, V.ref b] ((1 : Nat) : Int) = some (V.ref b)), .inl ⟨rfl, us, SqL.of (x.same _ _ gb)⟩, he G0 H0 σ G H _ x fun w G' H' g r => ?_⟩
  have y := x.grow g
  have hl : us.length = xs.length := by rw [hu.len, List.length_map]
  refine ⟨b, us, w, rfl, rfl, g.hh _ _ (x.same _ _ gb), by rw [hl]; exact small' hz, ?_⟩
  have z : Stt C G0 H0 (γ.set i .no) σ (del G' b) (upd H' b (.lst (us ++ [w]))) := y.thaw hb e0 (by rw [List.length_set]) fun j s hj => by
    by_cases e : j = i
    · subst e
      have hjl : j < γ.length := (List.getElem?_eq_some_iff.mp hi).1
      rw [List.getElem?_set_self hjl] at hj
      exact .inl (Option.some.inj hj).symm
    · rw [List.getElem?_set_ne (Ne.symm e)] at hj
      rcases hf j s e hj with z | ⟨s', z⟩
      · exact .inl z
      · exact .inr ⟨s', z, hj⟩
  exact q.nx _ _ _ _ h z.gr.gg z
end
theorem reachL_row {cs others s : List Cell} (hr : risingF cs = true) (hs : standF cs s = true) : memB others (reachL cs s) = (rowF cs others s).isSome := by
  refine Bool.eq_iff_iff.mpr ?_
  rw [memB_iff, reachL_mem hr hs, rowF_reach hs, reachF_mem hs]
section
variable {C : Addr} {γ : Env} {K : PySem.W.Frag} {ta tb te : TE} {ds : List PyData} {x : Str} {ys : List Str}
theorem RpA.rev {G : Hp} : ∀ {vs : List V} {ds : List PyData}, RpA G vs ds → RpA G vs.reverse ds.reverse
  | _, _, .nil => .nil
  | _, _, .cons h t => by
    rw [List.reverse_cons, List.reverse_cons]
    exact (RpA.rev t).app (.cons h .nil)
/-- xs[::-1] -/
theorem e_rev (h : EvL C γ te ds) : EvS C γ (tRevL K te) (.own (.lst ds.reverse)) := fun G0 H0 σ G H Q z q =>
  h G0 H0 σ G H _ z fun a vs G1 H1 g1 h1 r1 => ⟨a, vs, rfl, SqL.of h1, fun p hp => q (.ref p) _ _ (g1.trans (Grow.own g1.gh hp)) ⟨p, _, rfl, upd_same, g1.gh.free hp, g1.hh.free hp, _, rfl, r1.rev⟩⟩
theorem RpA.strs {G : Hp} : ∀ {vs : List V} {ys : List Str}, RpA G vs (ys.map PyData.str) → vs = ys.map V.str
  | _, [], h => by cases h; rfl
  | _, y :: ys, h => by
    rw [List.map_cons] at h
    cases h with
    | cons a b =>
      cases a
      rw [RpA.strs b]
      rfl
/-- a text not in a tuple of texts -/
theorem e_ninS (ha : EvS C γ ta (.py (.str x))) (hb : EvS C γ tb (.py (.tuple (ys.map .str)))) : EvS C γ (tOp (rIn K true) ta tb) (.py (.bool (!ys.any fun y => y == x))) :=
  e_op ha hb fun u v G H Q e r1 r2 q => by
    cases rp_str r1
    have r2' : Rp G v (.tuple (ys.map .str)) := r2
    cases r2' with
    | @tup a vs _ h hr =>
      have ev := hr.strs
      subst ev
      refine ⟨a, _, rfl, .inr (SqT.of (e _ _ h)), rfl, by rw [List.all_map]; exact List.all_eq_true.mpr fun _ _ => rfl, q _ G H (Grow.refl e) ?_⟩
      have z : inV (.str x) (ys.map V.str) = ys.any fun y => y == x := by
        unfold inV
        rw [List.any_map]
        rfl
      rw [if_pos rfl, z]
      exact Rp.bl _
end
end Pg

namespace Pg
open PySem PySem.Spec PyProof.Rows L2

/-! ## papers -/
inductive Ppr where
  | cls
  | wts (ws : List Int)
  | clo (ss : List (List Cell))
def pprD : Ppr → PyData
  | .cls => .tuple [.str "class"]
  | .wts ws => .tuple [.str "weights", isD ws]
  | .clo ss => .tuple [.str "closed", ssD ss]
def pprOk : Ppr → Prop
  | .cls => True
  | .wts ws => ws.length ≤ 1000
  | .clo ss => ss.length ≤ 100000 ∧ ∀ s, s ∈ ss → s.length ≤ 500
def closeS (cs : List Cell) (ss : List (List Cell)) (s : List Cell) : Bool := (openF cs s).all fun l => memB (doneF s l) ss
def closedF (cs pegs others : List Cell) (ss : List (List Cell)) : Bool := (memB pegs ss && !memB others ss) && ss.all fun s => standF cs s && closeS cs ss s
def holdsF (cs pegs others : List Cell) : Ppr → Bool
  | .cls => !decide (classF pegs = classF others)
  | .wts ws => (areW cs ws && fairF cs ws) && decide (weightF cs ws pegs < weightF cs ws others)
  | .clo ss => closedF cs pegs others ss
theorem stand_filter {cs : List Cell} (hr : risingF cs = true) (s : List Cell) : decide (s = cs.filter fun c => memB c s) = standF cs s := by
  cases h : standF cs s with
  | true =>
    refine decide_eq_true (sto_c.ext (standF_iff.mp h).1 ((rising_pw.mp hr).filter _) fun c => ?_)
    rw [List.mem_filter, memB_iff]
    exact ⟨fun hx => ⟨(standF_iff.mp h).2 c hx, hx⟩, fun hx => hx.2⟩
  | false =>
    refine decide_eq_false fun e => ?_
    have : standF cs s = true := by
      rw [e]
      exact standF_sub List.filter_sublist hr
    rw [h] at this
    cases this
theorem areW_minmax {cs : List Cell} {ws : List Int} (hl : ws.length = cs.length) (hn : ws ≠ []) : areW cs ws = !(decide (minF ws < -1000) || decide (1000 < maxF ws)) := by
  have h1 := minF_spec hn
  have h2 := maxF_spec hn
  unfold areW
  rw [decide_eq_true hl, Bool.true_and]
  refine Bool.eq_iff_iff.mpr ?_
  rw [List.all_eq_true, Bool.not_eq_true', Bool.or_eq_false_iff]
  constructor
  · intro h
    have a1 := of_decide_eq_true (h _ h1.1)
    have a2 := of_decide_eq_true (h _ h2.1)
    unfold absI at a1 a2
    refine ⟨decide_eq_false ?_, decide_eq_false ?_⟩
    · split at a1 <;> omega
    · split at a2 <;> omega
  · rintro ⟨b1, b2⟩ x hx
    have b1 := of_decide_eq_false b1
    have b2 := of_decide_eq_false b2
    have c1 := h1.2 x hx
    have c2 := h2.2 x hx
    refine decide_eq_true ?_
    unfold absI
    split <;> omega
/-- what the program's own papers are -/
def pprF (cs pegs others : List Cell) : Ppr :=
  if classF pegs = classF others then
    match paperW cs pegs others with
    | some ws => .wts ws
    | none => .clo (reachF cs pegs)
  else .cls
theorem pprF_holds {cs pegs others : List Cell} (hs : standF cs pegs = true) (hn : rowF cs others pegs = none) : holdsF cs pegs others (pprF cs pegs others) = true := by
  unfold pprF
  by_cases hc : classF pegs = classF others
  · rw [if_pos hc]
    cases hw : paperW cs pegs others with
    | some ws =>
      obtain ⟨h1, h2⟩ := paperW_some hw
      unfold forbids at h2
      obtain ⟨h3, h4⟩ := (Bool.and_eq_true _ _).mp h2
      show ((areW cs ws && fairF cs ws) && decide (weightF cs ws pegs < weightF cs ws others)) = true
      rw [h1, h4, h3]
      rfl
    | none =>
      show closedF cs pegs others (reachF cs pegs) = true
      unfold closedF
      rw [memB_iff.mpr (reach_self hs), memB_no.mpr (fun z => by
        have := (rowF_reach hs).mpr z
        rw [hn] at this
        cases this), List.all_eq_true.mpr fun s hm => ?_]
      · rfl
      · rw [reach_stand hs hm, Bool.true_and]
        exact List.all_eq_true.mpr fun l hl => memB_iff.mpr (reach_step hs hm (openF_mem.mp hl))
  · rw [if_neg hc]
    show (!decide (classF pegs = classF others)) = true
    rw [decide_eq_false hc]
    rfl
theorem pprF_ok {cs pegs others : List Cell} (hr : risingF cs = true) (h12 : cs.length ≤ 12) (hs : standF cs pegs = true) : pprOk (pprF cs pegs others) := by
  unfold pprF
  by_cases hc : classF pegs = classF others
  · rw [if_pos hc]
    cases hw : paperW cs pegs others with
    | some ws =>
      have := areW_len (paperW_some hw).1
      show ws.length ≤ 1000
      omega
    | none =>
      refine ⟨Nat.le_trans (reach_len hr h12 hs) (by decide), fun s hm => ?_⟩
      have := stand_len (reach_stand hs hm)
      omega
  · rw [if_neg hc]
    trivial
section
variable {C : Addr} {γ : Env} {K : PySem.W.Frag} {ta tb te : TE} {d : PyData} {ds : List PyData}
/-- t[n:] of a tuple, not the whole -/
theorem e_cutFromT {n : Nat} {i : Int} (h : EvS C γ te (.py (.tuple (d :: ds)))) (hb : EvS C γ tb (.py (.int i))) (hi : i = ((n + 1 : Nat) : Int)) : EvS C γ (tSl (rSlT K) te (tPart tb) tNoPart) (.py (.tuple ((d :: ds).drop (n + 1)))) := fun G0 H0 σ G H Q x q =>
  h G0 H0 σ G H _ x fun v G1 H1 g1 r1 => by
    have r1' : Rp G1 v (.tuple (d :: ds)) := r1
    cases r1' with
    | @tup a vs _ hq hr =>
      refine hb G0 H0 σ G1 H1 _ (x.grow g1) fun u G2 H2 g2 r2 => ?_
      cases rp_int r2
      have hl : vs.length = ds.length + 1 := hr.len
      refine ⟨i, rfl, a, vs, rfl, SqT.of (g2.hh _ _ (g1.gh _ _ hq)), fun z => ?_, fun p hp => q (.ref p) _ _ ((g1.trans g2).trans (Grow.lay g2.gh hp)) (Rp.tup upd_same ?_)⟩
      · have z1 := z.1
        rw [hi, HT.sIx_nat, hl] at z1
        omega
      · have e : cutV vs (some i) none = vs.drop (n + 1) := by
          unfold cutV
          rw [HT.sIx_none, hi, HT.sIx_nat]
          by_cases hn : n + 1 ≤ vs.length
          · rw [Nat.min_eq_left hn]
            exact List.take_of_length_le (by rw [List.length_drop]; omega)
          · rw [Nat.min_eq_right (by omega), List.drop_of_length_le (by omega : vs.length ≤ n + 1), List.drop_of_length_le (Nat.le_refl _)]
            exact List.take_nil
        rw [e]
        exact RpA.mono (g2.gg.trans (same_new (g2.gh.free hp))) (hr.dr (n + 1))
end
end Pg

namespace Pg
open PySem PySem.Spec PyProof.Rows L2

/-! ## some data of a kind -/
section
variable {C : Addr} {G0 H0 G H : Hp} {γ : Env} {σ : L2.St} {ts tu : TS} {P : Post} {te : TE} {tt : TT} {b : Bool} {α : Type} {Φ : α → Prop} {f : α → PyData}
def exA {α : Type} (Φ : α → Prop) (f : α → PyData) : Sl := .pr (fun G v => ∃ t, Φ t ∧ Rp G v (f t)) (fun _ _ _ e ⟨t, h1, h2⟩ => ⟨t, h1, Rp.mono e h2⟩)
theorem e_exA {t : α} (h : EvS C γ te (.py (f t))) (ht : Φ t) : EvS C γ te (exA Φ f) := fun G0 H0 σ G H Q x q =>
  h G0 H0 σ G H _ x fun v G' H' g r => q v G' H' g ⟨t, ht, r⟩
theorem Stt.exA (x : Stt C G0 H0 γ σ G H) (i : Nat) (hi : γ[i]? = some (exA Φ f)) : ∃ t, Φ t ∧ Stt C G0 H0 (γ.set i (.py (f t))) σ G H := by
  obtain ⟨v, h1, t, ht, r⟩ := x.get hi (by unfold Pg.exA; simp)
  have hil : i < γ.length := (List.getElem?_eq_some_iff.mp hi).1
  refine ⟨t, ht, x.gr, by rw [List.length_set]; exact x.ln, fun j s h => ?_, fun j k u w a q1 q2 q3 q4 => ?_⟩
  · by_cases e : j = i
    · rw [e, List.getElem?_set_self hil] at h
      cases h
      rw [e]
      exact .inr ⟨v, h1, r⟩
    · rw [List.getElem?_set_ne (Ne.symm e)] at h
      exact x.ok j s h
  · have own : ∀ {m : Nat} {w : Own}, (γ.set i (.py (f t)))[m]? = some (.own w) → γ[m]? = some (.own w) := fun {m w} h => by
      by_cases e : m = i
      · rw [e, List.getElem?_set_self hil] at h
        cases h
      · rw [List.getElem?_set_ne (Ne.symm e)] at h
        exact h
    exact x.ap j k u w a (own q1) (own q2) q3 q4
theorem r_exA (i : Nat) (hi : γ[i]? = some (exA Φ f)) (h : ∀ t, Φ t → Run C G0 H0 (γ.set i (.py (f t))) ts P) : Run C G0 H0 γ ts P := fun σ G H D x q => by
  obtain ⟨t, ht, y⟩ := x.exA i hi
  exact h t ht σ G H D y q
/-! ## the standings of a paper are spoilt -/
theorem z_if (hc : EvB C γ tt b) (h1 : b = true → RunZ C G0 H0 γ ts P) (h2 : b = false → RunZ C G0 H0 γ tu P) : RunZ C G0 H0 γ (tIfS tt ts tu) P := fun σ G H D x q =>
  hc G0 H0 σ G H _ x fun G' H' g => by
    cases b with
    | true => exact h1 rfl σ G' H' D (x.grow g) q
    | false => exact h2 rfl σ G' H' D (x.grow g) q
theorem cs_ne_c {s : List Cell} {c : Cell} (h : csD s = cD c) : False := by
  unfold csD cD at h
  cases h
theorem paired_all {α β : Type} {R : α → β → Prop} : ∀ {xs : List α} {ys : List β}, Paired R xs ys → ∀ x, x ∈ xs → ∃ y, y ∈ ys ∧ R x y
  | _, _, .nil, _, h => by cases h
  | _, _, .cons r t, x, h => by
    rcases List.mem_cons.mp h with e | e
    · rw [e]
      exact ⟨_, List.mem_cons_self, r⟩
    · obtain ⟨y, hy, ry⟩ := paired_all t x e
      exact ⟨y, List.mem_cons_of_mem _ hy, ry⟩
variable {K : PySem.W.Frag}
theorem z_spoil {C : Addr} {G0 H0 : Hp} {γ : Env} {P : Post} (i j k : Nat) {ss : List (List Cell)} (γ2 : Env) (e0 : Same G0 H0) (hi : γ[i]? = some (sR (Rel.pairS "never" sClosed) ss)) (hl : ∀ s, s ∈ ss → s.length ≤ 500) (hz : ss.length ≤ 100000) (hij : j ≠ i) (hjl : j < γ.length) (hkl : k < γ.length)
    (ln : γ2.length = γ.length) (hf : ∀ (m : Nat) (s : Sl), γ2[m]? = some s → s = .no ∨ (m ≠ j ∧ m ≠ k ∧ ∃ s', s = fx C G0 s' ∧ γ[m]? = some s)) (h : P.nx γ2) :
    RunZ C G0 H0 γ (tFor (iList K (tLc (iTup K (tSl (rSlT K) (tOp (rIxT K) (tVar i) (tC (.int 1))) (tPart (tC (.int 1))) tNoPart)) (gName j) (tTest (tOp rEq (tOp (rIxT K) (tOp (rIxT K) (tVar i) (tC (.int 1))) (tC (.int 0))) (tC (.str "closed")))) (tVar j) [j])) (gName k)
      (tFor (iList K (tVar k)) (gName j) (tDrop (tBM K "list" rAppend (tVar j) (tCons (tTup (tCons (tC (.int 9)) (tCons (tC (.int 9)) tNil))) tNil))))) P := fun σ G H D x q => by
  obtain ⟨v, h1, a, u2, rfl, ga, a2, u3, rfl, ga2, A, vs, rfl, gA, hvs, hA⟩ := x.get hi (by unfold sR; simp)
  have hvl : vs.length ≤ 100000 := by rw [Paired.length hvs]; exact hz
  have fa := x.same _ _ ga
  have fa2 := x.same _ _ ga2
  have fA := x.same _ _ gA
  refine ⟨_, h1, a, _, 1, .ref a2, rfl, rfl, SqT.of fa, (atI_nat (j := 1) rfl : atI [V.str "never", V.ref a2] ((1 : Nat) : Int) = some (V.ref a2)), 1, rfl, a2, [V.str "closed", V.ref A], rfl, SqT.of fa2, ?_, fun p hp => ?_⟩
  · rintro ⟨z, _⟩
    rw [show (1 : Int) = ((1 : Nat) : Int) from rfl, HT.sIx_nat] at z
    have z' : min 1 2 = 0 := z
    omega
  have ecut : cutV [V.str "closed", V.ref A] (some 1) none = [V.ref A] := rfl
  rw [ecut]
  have s1 : Same H (upd H p (.tup [V.ref A])) := same_new hp
  refine ⟨p, rfl, ⟨_, SqT.of upd_same⟩, fun Dl hD => ?_⟩
  have hDH : H Dl = none := by
    cases z : H Dl with
    | none => rfl
    | some o =>
      have := s1 _ _ z
      rw [hD] at this
      cases this
  refine lc_tup (K := K) (a := p) (xs := [V.ref A]) (fun n H' => Same (upd H p (.tup [V.ref A])) H' ∧ H' Dl = some (.lst ([V.ref A].take n))) ⟨same_new hD, upd_same⟩ (fun n H' _ z => SqT.of (z.1 _ _ upd_same)) ?_ ?_
  · rintro n y H' hn ⟨z1, z2⟩
    have zH := s1.trans z1
    refine ⟨?_, ?_⟩
    · show ((σ.set j none).set j (some y)).set j none = σ.set j none
      rw [List.set_set, List.set_set]
    · refine ⟨_, ?_, a, _, 1, .ref a2, rfl, rfl, SqT.of (zH _ _ fa), (atI_nat (j := 1) rfl : atI [V.str "never", V.ref a2] ((1 : Nat) : Int) = some (V.ref a2)), a2, _, 0, .str "closed", rfl, rfl, SqT.of (zH _ _ fa2), (atI_nat (j := 0) rfl : atI [V.str "closed", V.ref A] ((0 : Nat) : Int) = some (V.str "closed")), rfl, true, ?_, ?_⟩
      · show ((σ.set j none).set j (some y))[i]? = _
        rw [List.set_set, List.getElem?_set_ne hij]
        exact h1
      · rw [decide_eq_true rfl]
      · dsimp only
        rw [if_pos rfl]
        refine ⟨y, ?_, _, z2, ?_, ?_, ?_⟩
        · show ((σ.set j none).set j (some y))[j]? = _
          rw [List.set_set, List.getElem?_set_self (by rw [x.ln]; exact hjl)]
        · refine Nat.lt_of_le_of_lt (List.length_take_le' _ _) (small' (by decide : 1 < 1000000))
        · exact fun c o e => by
            have nc : c ≠ Dl := fun w => by
              rw [w, hD] at e
              cases e
            rw [upd_ne nc]
            exact z1 c o e
        · rw [upd_same, List.take_add_one, hn]
          rfl
  · rintro H1 ⟨z1, z2⟩
    have zH : Same H H1 := s1.trans z1
    have z2' : H1 Dl = some (.lst [V.ref A]) := z2
    -- the inner lists, new since the entry
    have inner : ∀ u, u ∈ vs → ∃ b us, u = V.ref b ∧ H1 b = some (.lst us) ∧ us.length ≤ 500 ∧ H0 b = none ∧ b ≠ A ∧ b ≠ Dl := fun u hu => by
      obtain ⟨s, hs, b, us, rfl, gb, hus, hb⟩ := paired_all hvs u hu
      have fb := x.same _ _ gb
      refine ⟨b, us, rfl, zH _ _ fb, by rw [hus.len, List.length_map]; exact hl s hs, hb, fun e => ?_, fun e => ?_⟩
      · subst e
        rw [gA] at gb
        cases gb
        cases hvs with
        | nil => cases hu
        | cons r t =>
          cases s with
          | nil => cases hus
          | cons c s =>
            rw [List.map_cons] at hus
            cases hus with
            | cons r2 _ => exact cs_ne_c (Rp.det ((Rel.nl cD).rp _ _ _ _ r) r2)
      · subst e
        rw [hDH] at fb
        cases fb
    refine ⟨Dl, rfl, ⟨_, SqL.of z2'⟩, ?_⟩
    refine for_list (K := K) (a := Dl) (xs := [V.ref A]) (fun n σ' H' => (Same H0 H' ∧ H' A = some (.lst vs) ∧ H' Dl = some (.lst [V.ref A]) ∧ ∀ u, u ∈ vs → ∃ b us, u = V.ref b ∧ H' b = some (.lst us) ∧ us.length ≤ 500 + n * vs.length ∧ H0 b = none ∧ b ≠ A ∧ b ≠ Dl) ∧ σ'.length = σ.length ∧ ∀ m, m ≠ j → m ≠ k → σ'[m]? = σ[m]?)
      ⟨⟨x.gr.hh.trans zH, zH _ _ fA, z2', fun u hu => by rw [Nat.zero_mul]; exact inner u hu⟩, rfl, fun _ _ _ => rfl⟩ (fun n σ' H' _ z => SqL.of z.1.2.2.1) ?_ ?_
    · rintro n y σ' H' hn ⟨⟨w1, w2, w3, w4⟩, w5, w6⟩
      obtain ⟨rfl, rfl⟩ : n = 0 ∧ y = V.ref A := by
        cases n with
        | zero => exact ⟨rfl, (Option.some.inj hn).symm⟩
        | succ n => cases n <;> cases hn
      refine ⟨.ref A, ?_, A, rfl, ⟨vs, SqL.of w2⟩, ?_⟩
      · rw [List.getElem?_set_self (by rw [w5, x.ln]; exact hkl)]
      refine for_list (K := K) (a := A) (xs := vs) (fun m σ3 H3 => (Same H0 H3 ∧ H3 A = some (.lst vs) ∧ H3 Dl = some (.lst [V.ref A]) ∧ ∀ u, u ∈ vs → ∃ b us, u = V.ref b ∧ H3 b = some (.lst us) ∧ us.length ≤ 500 + m ∧ H0 b = none ∧ b ≠ A ∧ b ≠ Dl) ∧ σ3.length = σ.length ∧ ∀ m, m ≠ j → m ≠ k → σ3[m]? = σ[m]?)
        ⟨⟨w1, w2, w3, fun u hu => by
          have := w4 u hu
          rw [Nat.zero_mul] at this
          exact this⟩, by rw [List.length_set]; exact w5, fun m m1 m2 => by rw [List.getElem?_set_ne (Ne.symm m2)]; exact w6 m m1 m2⟩ (fun m σ3 H3 _ z => SqL.of z.1.2.1) ?_ ?_
      · rintro m y σ3 H3 hm ⟨⟨y1, y2, y3, y4⟩, y5, y6⟩
        obtain ⟨b, us, rfl, b1, b2, b3, b4, b5⟩ := y4 y (List.mem_of_getElem? hm)
        have hml : m < vs.length := (List.getElem?_eq_some_iff.mp hm).1
        refine ⟨.ref b, ?_, .inl ⟨rfl, us, SqL.of b1⟩, small (by decide : 2 ≤ 1000000), fun pn hpn => ⟨b, us, .ref pn, rfl, rfl, ?_, small' (by omega), ?_⟩⟩
        · rw [List.getElem?_set_self (by rw [y5, x.ln]; exact hjl)]
        · rw [upd_ne (ne_of_none b1 hpn)]
          exact b1
        · refine ⟨⟨fun c o e => ?_, ?_, ?_, fun u hu => ?_⟩, by rw [List.length_set]; exact y5, fun m' m1 m2 => by rw [List.getElem?_set_ne (Ne.symm m1)]; exact y6 m' m1 m2⟩
          · have n1 : c ≠ b := fun w => by
              rw [w, b3] at e
              cases e
            have e3 := y1 c o e
            rw [upd_ne n1, upd_ne (ne_of_none e3 hpn)]
            exact e3
          · rw [upd_ne (Ne.symm b4), upd_ne (ne_of_none y2 hpn)]
            exact y2
          · rw [upd_ne (Ne.symm b5), upd_ne (ne_of_none y3 hpn)]
            exact y3
          · obtain ⟨b', us', rfl, c1, c2, c3, c4, c5⟩ := y4 u hu
            by_cases e : b' = b
            · subst e
              refine ⟨b', _, rfl, upd_same, ?_, c3, c4, c5⟩
              rw [List.length_append, List.length_singleton]
              omega
            · refine ⟨b', us', rfl, ?_, by omega, c3, c4, c5⟩
              rw [upd_ne e, upd_ne (ne_of_none c1 hpn)]
              exact c1
      · rintro σ3 H3 ⟨⟨y1, y2, y3, y4⟩, y5, y6⟩
        refine ⟨⟨y1, y2, y3, fun u hu => ?_⟩, y5, y6⟩
        have := y4 u hu
        rw [Nat.zero_add, Nat.one_mul]
        exact this
    · rintro σ' H' ⟨⟨w1, _, _, _⟩, w5, w6⟩
      refine q.nx γ2 σ' G0 H' h (Same.refl G0) ⟨⟨Same.refl _, e0.trans w1, w1, fun _ e _ => e⟩, by rw [w5, x.ln, ln], fun m s hm => ?_, fun m m' u u' c hm _ _ _ => ?_⟩
      · rcases hf m s hm with z | ⟨n1, n2, s', rfl, hg⟩
        · exact .inl z
        · rcases x.ok m _ hg with z | ⟨v, v1, v2, _⟩
          · exact .inl z
          · exact .inr ⟨v, by rw [w6 m n1 n2]; exact v1, v2, Same.refl _⟩
      · rcases hf m _ hm with z | ⟨_, _, s', z, _⟩
        · cases z
        · unfold fx at z
          cases z
end
end Pg

namespace Pg
open PySem PySem.Spec PyProof.Rows L2

/-! ## data shown as a text: nothing is being shown yet -/
structure Shw (d : PyData) : Prop where
  dis : isDisplay d = true
  sh : d.showable = true
  nd : d.hasDict = false
  ln : d.shown.length ≤ sizeLine
  dp : d.depth ≤ 60
def rReprD (K : PySem.W.Frag) : List V → Hp → VK → Prop := fun xs H Q => ∃ v d, xs = [v] ∧ Dp K H v d ∧ Shw d ∧ Q (.str d.shown) H
theorem c_reprD {X : Cx} (hg : X.A.guards = some []) (hu : X.A.units + 65 < cLine) : CallR X (.builtin "repr") (rReprD X.K) := by
  intro pins s σ H xs us Q I hv h
  obtain ⟨v, d, rfl, dp, z, hq⟩ := h
  cases hv with
  | cons r t =>
    cases t
    obtain ⟨as, rd⟩ := Dp.reads I d v _ dp r
    obtain ⟨a, rfl⟩ := isRef_of_reads rd z.dis
    refine repr_of_reads' rd z.sh (PyData.noDict_hsm z.nd) hg ?_ (fun _ _ e => e) (fun h' u tk hk => ⟨.str d.shown, H, I.kept hk, ⟨u, rfl⟩, hq⟩) z.ln
    have := z.dp
    omega
section
variable {C : Addr} {γ : Env} {K : PySem.W.Frag} {te : TE} {d : PyData}
theorem e_reprD (h : EvS C γ te (.py d)) (z : Shw d) : EvS C γ (tCB (rReprD K) (tCons te tNil)) (.py (.str d.shown)) := fun G0 H0 σ G H Q x q =>
  h G0 H0 σ G H _ x fun v G1 H1 g1 r1 => ⟨v, d, rfl, Rp.dp g1.gh r1, z, q _ G1 H1 g1 (Rp.str _)⟩
end

/-! ## the same promise where nothing is being shown -/
/-- what a def keeps to when it is called while nothing is being shown -/
structure FnG (P : Program) (w : World) (K : PySem.W.Frag) (mg : Str → Option Value) (base : Heap) (k : Nat) (f : Addr) (fd : FuncData) (ps : List Str) (sp : Sp) : Prop where
  len : ∀ vs H Q E, sp vs H Q E → vs.length = ps.length
  run : ∀ (A : Around) (o : List PySem.Env) (s : Shared) (H : Hp) (ar : Args) (us : List Value) (vs : List V) (Q : VK) (E : XK),
    A.guards = some [] → Room k A → Env0 P w K mg base A o s H → BindsTo s fd ar (ps.zip us) → Vals vs us → sp vs H Q E → codeAny (model P w) A (.call (.ref f) ar) (CR (L2.CX P w) o P w H s Q E) s
section
variable {P : Program} {w : World} {K : PySem.W.Frag} {mg : Str → Option Value} {base : Heap}
theorem law_okG {k : Nat} {f : Addr} {fd : FuncData} {ps : List Str} {sp sp' : Sp} (F : FnG P w K mg base k f fd ps sp) (h : ∀ vs H Q E, sp' vs H Q E → sp vs H Q E) : FnG P w K mg base k f fd ps sp' :=
  ⟨fun vs H Q E z => F.len vs H Q E (h vs H Q E z), fun A o s H ar us vs Q E h1 h2 h3 h4 h5 h6 => F.run A o s H ar us vs Q E h1 h2 h3 h4 h5 (h vs H Q E h6)⟩
theorem body_okG {x qual : Str} {st : Stmt} {f : Addr} {fd : FuncData} {N ps : List Str} {k : Nat} {sp : Sp} (F : L2.Fun K x qual st f fd) (S : FnScope N ps (defScope st)) (len : ∀ vs H Q E, sp vs H Q E → vs.length = ps.length)
    (hb : ∀ (cdv : Value) (A : Around) (o : List PySem.Env) (s : Shared) (H : Hp) (vs : List V) (Q : VK) (E : XK), (A.deeper (envOfC qual (defScope st) s.heap.objs.size f cdv)).guards = some [] → Room k (A.deeper (envOfC qual (defScope st) s.heap.objs.size f cdv)) → sp vs H Q E →
      ∃ t, PSs (cxOf (L2.CX P w) P w K mg base N qual (defScope st) f cdv A o s H E) (defBody st) t ∧ t { nx := fun _ H' => Q .non H', rt := Q } (start N vs) H) : FnG P w K mg base (k + 1) f fd ps sp := by
  obtain ⟨oc, od, kV, doc, pm, an, cdv, ct, osl, efd, lk, hcd⟩ := F.ex
  subst efd
  refine ⟨len, ?_⟩
  intro A o s H ar us vs Q E hg hr en bd rv hsp
  have kin : K.In s.heap := en.mod.kin.keeps (fun b u e => (en.bs b u e).left)
  have nol : s.heap.NoLimit := en.mod.nolimit.keeps (fun b u e => (en.bs b u e).left)
  have kinds : ∀ z ∈ ps.zip us, (defScope st).names.lookup z.1 = some .local ∨ ((defScope st).names.lookup z.1 = some .cell ∧ ((cellsFrom (s.heap.objs.size + 1) (defScope st).names []).lookup z.1).isSome = true) := by
    rintro ⟨n, v⟩ hm
    cases S.par n (List.of_mem_zip hm).left with
    | inl a => exact .inl a
    | inr b => exact .inr ⟨b, PySem.W.cellsFrom_some _ _ _ (Or.inl b)⟩
  refine codeAny_call_function hr.depth (kin _ _ lk) rfl S.co S.gen rfl (PySem.W.codeRec_of kin hcd) (bd _ _ _ _ (wpAny_newFunctionEnv_cells S.kind kinds ?_))
  intro env he s1 x
  cases he
  refine ⟨nol.keeps x.toInCall.keep, codeAny_func ?_⟩
  obtain ⟨t, pt, pq⟩ := hb cdv A o s H vs Q E hg (hr.deeper _) hsp
  have J0 : Inv (cxOf (L2.CX P w) P w K mg base N qual (defScope st) f cdv A o s H E) [] (start N vs) H s1 := inv_start S hr.hd en (len _ _ _ _ hsp) rv x
  refine wpAny_mono (pt.run [] s1 (start N vs) H _ J0 pq) ?_ (fun e s' z => z)
  intro fl s' hs
  cases fl with
  | ret u =>
    obtain ⟨v, σ', H', J, r', q'⟩ := hs
    exact ⟨v, H', J.os, J.bare, J.base, J.hok, r', q'⟩
  | next =>
    obtain ⟨σ', H', J, q'⟩ := hs
    exact ⟨V.non, H', J.os, J.bare, J.base, J.hok, rfl, q'⟩
  | brk => exact (hs.choose_spec.choose_spec.2 : False).elim
  | cont => exact (hs.choose_spec.choose_spec.2 : False).elim
theorem fn_okG {C : Addr} {x qual : Str} {st : Stmt} {f : Addr} {fd : FuncData} {N ps : List Str} {k : Nat} {α : Type} {args : α → List Sl} {out : α → Out} (F : L2.Fun K x qual st f fd) (S : FnScope N ps (defScope st)) (hl : ∀ a, (args a).length = ps.length)
    (hbody : ∀ (cdv : Value) (A : Around) (outer : List PySem.Env) (s : Shared) (H : Hp) (E : XK), (A.deeper (envOfC qual (defScope st) s.heap.objs.size f cdv)).guards = some [] → Room k (A.deeper (envOfC qual (defScope st) s.heap.objs.size f cdv)) →
      ∃ t, PSs (cxOf (L2.CX P w) P w K mg base N qual (defScope st) f cdv A outer s H E) (defBody st) t ∧
        ∀ (a : α) (G : Hp), OutE C G H E (out a) → Run C G H (args a ++ List.replicate (N.length - ps.length) .no) t { nx := fun _ => out a = .ret (.py .none), rt := fun s => out a = .ret s }) : FnG P w K mg base (k + 1) f fd ps (spO C args out) := by
  refine body_okG F S (fun vs H Q E h => ?_) (fun cdv A outer s H vs Q E hg hr h => ?_)
  · obtain ⟨a, G, e, r, _⟩ := h
    rw [r.len, hl]
  · obtain ⟨a, G, e, r, q⟩ := h
    obtain ⟨t, ht, hrun⟩ := hbody cdv A outer s H E hg hr
    refine ⟨t, ht, ?_⟩
    have hn : (args a).length ≤ N.length := by
      rw [hl, ← S.pre, List.length_take]
      exact Nat.min_le_right _ _
    have x := stt_start e r hn
    rw [hl] at x
    refine hrun a G q.e (L2.start N vs) G H _ x ⟨fun γ σ G' H' p _ x' => ?_, fun s v G' H' p g r => ?_, fun _ _ _ _ p => False.elim p, fun _ _ _ _ p => False.elim p⟩
    · have p' : out a = .ret (.py .none) := p
      rw [p'] at q
      exact q .non G' H' x'.gr Rp.non
    · have p' : out a = .ret s := p
      rw [p'] at q
      exact q v G' H' g r
/-- the law's def called by the claim's caller: nothing is tracked but the script -/
theorem call_lawG {mb : Str → Option Value} {k : Nat} {fa a : Addr} {fd : FuncData} {x : Str} {sp : Sp} {s₁ : Shared} {vs : List Value} {ns : List Int}
    (kin : K.In s₁.heap) (nsM : s₁.heap.Ns mainGlobals mg) (nsB : s₁.heap.Ns builtinsNs mb) (boot : ∀ y : Str, y ≠ "__name__" → mb y = bootBuiltins y) (nol : s₁.heap.NoLimit) (gens : s₁.gens = #[])
    (sc : s₁.heap.get? a = some { cls := .type "list", data := .seq vs.toArray }) (hin : IntsAre vs ns) (few : ns.length ≤ sizeLine) (hr : Room k callerA)
    (F : ∀ b : Heap, K.In b → b.Ns mainGlobals mg → FnG P w K mg b k fa fd [x] sp) (bd : ∀ (s : Shared) (u : Value), BindsTo s fd ⟨[u], []⟩ [(x, u)])
    (hsp : ∀ H : Hp, Only H → SqL K H a (ns.map V.int) → sp [.ref a] H (fun v _ => v = .bl true) fun _ _ _ => False) :
    codeAny (model P w) callerA (.call (.ref fa) ⟨[.ref a], []⟩) (fun r s' => r = .ok (.ret (.bool true)) ∧ OldK s₁.heap s'.heap ∧ s'.os = s₁.os ∧ AllBare s'.gens) s₁ := by
  have rv := vals_ints hin
  have lenV := hin.length
  have step : ∀ H : Hp, Only H → SqL K H a (ns.map V.int) → HOk P w H s₁.heap → (∀ b, H b ≠ none → b = a) → (H a ≠ none → K.lookup a = none) →
      codeAny (model P w) callerA (.call (.ref fa) ⟨[.ref a], []⟩) (fun r s' => r = .ok (.ret (.bool true)) ∧ OldK s₁.heap s'.heap ∧ s'.os = s₁.os ∧ AllBare s'.gens) s₁ := by
    intro H only sq hok one free
    have hid : ∀ {b : Addr} {o : Obj}, s₁.heap.get? b = some o → H b = none → (hidT s₁.heap H).get? b = some o := fun p q => hidT_get p q
    have none_of : ∀ {b : Addr}, b ≠ a → H b = none := fun {b} nb => by
      cases q : H b with
      | none => rfl
      | some u => exact absurd (one b (by rw [q]; simp)) nb
    have ns_of : ∀ {b : Addr} {m : Str → Option Value}, s₁.heap.Ns b m → (hidT s₁.heap H).Ns b m := fun {b m} z => by
      obtain ⟨o, es, ep, p, d, r⟩ := z
      refine ⟨o, es, ep, hid p (none_of fun e => ?_), d, r⟩
      rw [e, sc] at p
      cases p
      exact nomatch d
    have kin' : K.In (hidT s₁.heap H) := fun b o p => by
      refine hid (kin b o p) ?_
      by_cases e : b = a
      · cases q : H b with
        | none => rfl
        | some u =>
          have f := free (by rw [← e, q]; simp)
          rw [← e, p] at f
          cases f
      · exact none_of e
    have md : Mod K mg (hidT s₁.heap H) := ⟨kin', ns_of nsM, ⟨mb, ns_of nsB, boot⟩, by
      obtain ⟨mc, p, q⟩ := nol
      exact ⟨mc, ns_of p, q⟩⟩
    have en : Env0 P w K mg (hidT s₁.heap H) callerA [] s₁ H := ⟨rfl, md, fun b o p => of_hidT p, Nat.le_of_eq (hidT_size _ _), trivial, fun b z => absurd (show b ∈ ([] : List Addr) from z) List.not_mem_nil, hok, .of_eq gens⟩
    have R := (F _ kin' (ns_of nsM)).run callerA [] s₁ H ⟨[.ref a], []⟩ [.ref a] [.ref a] _ _ rfl hr en (bd s₁ (.ref a)) (.cons rfl .nil) (hsp H only sq)
    refine codeAny_mono R fun r s' z => ?_
    cases r with
    | error e =>
      obtain ⟨_, _, _, _, _, _, _, _, _, _, _, _, z⟩ := z
      exact z.elim
    | ok fl =>
      cases fl with
      | next => exact z.elim
      | brk => exact z.elim
      | cont => exact z.elim
      | ret u =>
        obtain ⟨v, H', os, bare, un, hok', r', q⟩ := z
        cases (show v = .bl true from q)
        cases (show u = Value.bool true from r')
        refine ⟨rfl, OldK.of_keep fun b o p => ?_, os, bare⟩
        cases c : H b with
        | none => exact un.keep b o p c (fun m => absurd (show b ∈ ([] : List Addr) from m) List.not_mem_nil) (by simp)
        | some t =>
          rcases only b with n | ⟨ob, xs, n⟩
          · rw [c] at n
            cases n
          · have m := hok b _ n
            have m' := hok' b _ (un.frzs b ob _ n)
            obtain ⟨e1, _⟩ := m
            obtain ⟨e2, _⟩ := m'
            rw [p] at e1
            cases e1
            exact e2
  by_cases hk : K.lookup a = none
  · have up : (fun b => if b = a then some (HO.frz { cls := .type "list", data := .seq vs.toArray } (.lst (ns.map V.int))) else none : Hp) a = some (.frz { cls := .type "list", data := .seq vs.toArray } (.lst (ns.map V.int))) := if_pos rfl
    refine step (fun b => if b = a then some (.frz { cls := .type "list", data := .seq vs.toArray } (.lst (ns.map V.int))) else none) (fun b => ?_) (.inl (.inr ⟨_, up⟩)) (fun b u z => ?_) (fun b z => Classical.byContradiction fun nb => z (if_neg nb)) fun _ => hk
    · by_cases e : b = a
      · rw [e]
        exact .inr ⟨_, _, up⟩
      · exact .inl (if_neg e)
    · by_cases e : b = a
      · subst e
        have z' : some _ = some u := up.symm.trans z
        cases z'
        exact ⟨sc, by rw [List.length_map]; exact few, vs, _, rv, sc⟩
      · have z' : none = some u := (if_neg e).symm.trans z
        cases z'
  · obtain ⟨o, ho⟩ := Option.ne_none_iff_exists'.mp hk
    have p := kin a o ho
    rw [sc] at p
    cases p
    refine step (fun _ => none) (fun _ => .inl rfl) (.inr ⟨_, vs.toArray, _, ho, rfl, rfl, rfl, by rw [List.size_toArray, lenV]; exact few, by simpa using rv⟩) (fun b u z => nomatch z) (fun b z => absurd rfl z) fun z => absurd rfl z
end
theorem walk_lawG {l : PySem.W.OpenLaw} {n k : Nat} {q : Program} {loose : List Str} {XP : (Str → Option Value) → Heap → Prop} {YP : World → Heap → Prop} {d : DefRec} {K : Params → PySem.W.Frag} {sp : World → Sp} {x : Str}
    (hn : l.most = some n) (hs : n ≤ sizeLine) (hd : d.params.defaults = []) (hr : Room k callerA) (hY : ∀ (w : World) (h : Heap), YP w h → (K w.params).In h)
    (F : ∀ (w : World) (mg : Str → Option Value) (fa : Addr) (h : Heap), (K w.params).In h → h.Ns mainGlobals mg → mg d.name = some (.ref fa) →
      ∃ fd : FuncData, (∀ (s : Shared) (u : Value), BindsTo s fd ⟨[u], []⟩ [(x, u)]) ∧ ∀ b : Heap, (K w.params).In b → b.Ns mainGlobals mg → FnG l.prog w (K w.params) mg b k fa fd [x] (sp w))
    (hsp : ∀ (w : World) (H : Hp) (a : Addr) (ns : List Int), ns.length ≤ n → Only H → SqL (K w.params) H a (ns.map V.int) → sp w [.ref a] H (fun v _ => v = .bl true) fun _ _ _ => False) :
    PySem.W.WalkO q loose XP YP l.row.toRowW d [] (fun f vs => PySem.call f vs) :=
  Att.attach_call hn hd fun w s₀ s₁ mg mb fa o pm cd doc a vs ns G Y _ _ _ hmg sc hin few gens => by
    obtain ⟨fd, bd, hF⟩ := F w mg fa _ (hY w _ Y) G.T.g hmg
    exact call_lawG (hY w _ Y) G.T.g G.T.b G.T.builtins G.T.nolimit gens sc hin (Nat.le_trans few hs) hr hF bd fun H h1 h2 => hsp w H a ns few h1 h2
end Pg

namespace Pg
open PySem PySem.Spec PyProof.Rows L2

/-! ## what is shown is short -/
structure Lit (B n k : Nat) (d : PyData) : Prop where
  sh : d.showable = true
  nd : d.hasDict = false
  lv : d.leavesShort B = true
  wt : d.weight ≤ n
  dp : d.depth ≤ k
structure LitA (B n k : Nat) (ds : List PyData) : Prop where
  sh : PyData.showableAll ds = true
  nd : PyData.hasDictAll ds = false
  lv : PyData.leavesShortAll B ds = true
  wt : PyData.weightAll ds ≤ n
  dp : PyData.depthAll ds ≤ k
section
variable {B n m k : Nat} {d : PyData} {ds : List PyData}
theorem Lit.int {i : Int} (h : i.natAbs < 2 ^ m) (h0 : 0 < m) (hm : m ≤ 1919) (hB : m + 1 ≤ B) : Lit B m 0 (.int i) := by
  have hl : i.natAbs.log2 < m := by
    by_cases e : i.natAbs = 0
    · rw [e]
      exact h0
    · exact (Nat.log2_lt e).mpr h
  refine ⟨?_, ?_, ?_, ?_, ?_⟩
  · simp only [PyData.showable, decide_eq_true_eq]
    omega
  · simp only [PyData.hasDict]
  · simp only [PyData.leavesShort, decide_eq_true_eq]
    show (Str.ofString (toString i)).length ≤ B
    rw [PySem.ofString_length]
    have := int_text_length_le h0 hl
    omega
  · simp only [PyData.weight]
    split <;> omega
  · simp only [PyData.depth]
    exact Nat.le_refl 0
theorem Lit.str {x : Str} (h : (x.cps.toList.all fun c => decide (c < 16 ^ 8)) = true) : Lit B x.cps.size 0 (.str x) := by
  refine ⟨?_, ?_, ?_, ?_, ?_⟩
  · simp only [PyData.showable]
  · simp only [PyData.hasDict]
  · simp only [PyData.leavesShort]
    exact h
  · simp only [PyData.weight]
    exact Nat.le_refl _
  · simp only [PyData.depth]
    exact Nat.le_refl 0
theorem Lit.mono {n' k' : Nat} (h : Lit B n k d) (hn : n ≤ n') (hk : k ≤ k') : Lit B n' k' d := ⟨h.sh, h.nd, h.lv, Nat.le_trans h.wt hn, Nat.le_trans h.dp hk⟩
theorem LitA.nil : LitA B 0 k [] := by
  refine ⟨?_, ?_, ?_, ?_, ?_⟩
  · simp only [PyData.showableAll]
  · simp only [PyData.hasDictAll]
  · simp only [PyData.leavesShortAll]
  · simp only [PyData.weightAll]
    exact Nat.le_refl 0
  · simp only [PyData.depthAll]
    exact Nat.zero_le k
theorem LitA.cons (h : Lit B n k d) (t : LitA B m k ds) : LitA B (n + 1 + m) k (d :: ds) := by
  have h1 := h.wt
  have h2 := t.wt
  have h3 := h.dp
  have h4 := t.dp
  refine ⟨?_, ?_, ?_, ?_, ?_⟩
  · simp only [PyData.showableAll, h.sh, t.sh, Bool.and_self]
  · simp only [PyData.hasDictAll, h.nd, t.nd, Bool.or_self]
  · simp only [PyData.leavesShortAll, h.lv, t.lv, Bool.and_self]
  · simp only [PyData.weightAll]
    omega
  · simp only [PyData.depthAll]
    omega
theorem LitA.all : ∀ {ds : List PyData}, (∀ d, d ∈ ds → Lit B n k d) → LitA B (ds.length * (n + 1)) k ds
  | [], _ => by
    rw [List.length_nil, Nat.zero_mul]
    exact LitA.nil
  | d :: ds, h => by
    have e : (d :: ds).length * (n + 1) = n + 1 + ds.length * (n + 1) := by
      rw [List.length_cons, Nat.add_mul, Nat.one_mul, Nat.add_comm]
    rw [e]
    exact LitA.cons (h d List.mem_cons_self) (LitA.all fun x hx => h x (List.mem_cons_of_mem _ hx))
theorem Lit.lst (h : LitA B n k ds) : Lit B n (k + 1) (.list ds) := by
  refine ⟨?_, ?_, ?_, ?_, ?_⟩
  · simp only [PyData.showable, h.sh]
  · simp only [PyData.hasDict, h.nd]
  · simp only [PyData.leavesShort, h.lv]
  · simp only [PyData.weight]
    exact h.wt
  · simp only [PyData.depth]
    exact Nat.add_le_add_right h.dp 1
theorem Lit.tup (h : LitA B n k ds) : Lit B n (k + 1) (.tuple ds) := by
  refine ⟨?_, ?_, ?_, ?_, ?_⟩
  · simp only [PyData.showable, h.sh]
  · simp only [PyData.hasDict, h.nd]
  · simp only [PyData.leavesShort, h.lv]
  · simp only [PyData.weight]
    exact h.wt
  · simp only [PyData.depth]
    exact Nat.add_le_add_right h.dp 1
theorem Lit.shw (h : Lit B n k d) (hd : isDisplay d = true) (hB : 8 ≤ B) (hn : (B + 2) * n + B ≤ 16777216) (hk : k ≤ 60) : Shw d := by
  refine ⟨hd, h.sh, h.nd, ?_, Nat.le_trans h.dp hk⟩
  have h1 := PyData.shown_le B hB d h.lv
  have h2 : (B + 2) * d.weight ≤ (B + 2) * n := Nat.mul_le_mul_left _ h.wt
  rw [sizeLine_eq]
  omega
end
/-- small cells -/
def smC (c : Cell) : Prop := c.1.natAbs < 16 ∧ c.2.natAbs < 16
theorem smC_in {c : Cell} (h : inBoard c = true) : smC c := by
  unfold inBoard at h
  obtain ⟨h1, h2⟩ := (Bool.and_eq_true _ _).mp h
  have h1 := of_decide_eq_true h1
  have h2 := of_decide_eq_true h2
  exact ⟨by omega, by omega⟩
theorem Lit.cell {B : Nat} {c : Cell} (h : smC c) (hB : 5 ≤ B) : Lit B 10 1 (cD c) :=
  Lit.tup (LitA.cons (Lit.int (m := 4) h.1 (by decide) (by decide) hB) (LitA.cons (Lit.int (m := 4) h.2 (by decide) (by decide) hB) LitA.nil))
theorem Lit.cells {B : Nat} {s : List Cell} (h : ∀ c, c ∈ s → smC c) (hl : s.length ≤ 11) (hB : 5 ≤ B) : Lit B 121 2 (csD s) :=
  (Lit.lst (LitA.all (ds := s.map cD) (n := 10) (k := 1) fun d hd => by
    obtain ⟨c, hc, rfl⟩ := List.mem_map.mp hd
    exact Lit.cell (h c hc) hB)).mono (by rw [List.length_map]; omega) (Nat.le_refl _)
/-- papers that can be shown -/
def ppB (cs : List Cell) : Ppr → Prop
  | .cls => True
  | .wts ws => ws.length ≤ 11 ∧ ∀ x, x ∈ ws → x.natAbs < 2 ^ 420
  | .clo ss => ss.length ≤ 3000 ∧ ∀ s, s ∈ ss → s.length ≤ 11 ∧ ∀ c, c ∈ s → smC c
theorem ppB_ok {cs : List Cell} : ∀ {pp : Ppr}, ppB cs pp → pprOk pp
  | .cls, _ => trivial
  | .wts ws, h => Nat.le_trans h.1 (by decide)
  | .clo ss, h => ⟨Nat.le_trans h.1 (by decide), fun s hs => Nat.le_trans (h.2 s hs).1 (by decide)⟩
theorem ppB_shw {cs pegs others : List Cell} {pp : Ppr} (hb : ∀ c, c ∈ cs → inBoard c = true) (hz : cs.length ≤ 10) (hst : standF cs pegs = true) (hso : standF cs others = true) (h : ppB cs pp) : Shw (.tuple [csD pegs, csD others, pprD pp]) := by
  have sm : ∀ {s : List Cell}, standF cs s = true → ∀ c, c ∈ s → smC c := fun hs c hc => smC_in (hb c ((standF_iff.mp hs).2 c hc))
  have l1 := stand_len hst
  have l2 := stand_len hso
  have three : ∀ {B n : Nat} (e : PyData), 5 ≤ B → Lit B n 5 e → Lit B (121 + 1 + (121 + 1 + (n + 1 + 0))) 6 (.tuple [csD pegs, csD others, e]) := fun e hB he =>
    Lit.tup (LitA.cons ((Lit.cells (sm hst) (by omega) hB).mono (Nat.le_refl _) (by decide)) (LitA.cons ((Lit.cells (sm hso) (by omega) hB).mono (Nat.le_refl _) (by decide)) (LitA.cons he LitA.nil)))
  cases pp with
  | cls =>
    refine (three (B := 13) (n := 6) (pprD .cls) (by decide) ?_).shw rfl (by decide) (by decide) (by decide)
    exact (Lit.tup (k := 0) (LitA.cons (Lit.str (x := "class") (by decide)) LitA.nil)).mono (by decide) (by decide)
  | wts ws =>
    obtain ⟨h1, h2⟩ := h
    refine (three (B := 422) (n := 4640) (pprD (.wts ws)) (by decide) ?_).shw rfl (by decide) (by decide) (by decide)
    refine (Lit.tup (k := 1) (n := 7 + 1 + (4631 + 1 + 0)) (LitA.cons ((Lit.str (x := "weights") (by decide)).mono (by decide) (by decide)) (LitA.cons ?_ LitA.nil))).mono (by decide) (by decide)
    refine (Lit.lst (LitA.all (n := 420) (k := 0) (ds := ws.map .int) fun d hd => ?_)).mono (by rw [List.length_map]; omega) (Nat.le_refl _)
    obtain ⟨x, hx, rfl⟩ := List.mem_map.mp hd
    exact Lit.int (h2 x hx) (by decide) (by decide) (by decide)
  | clo ss =>
    obtain ⟨h1, h2⟩ := h
    refine (three (B := 13) (n := 366008) (pprD (.clo ss)) (by decide) ?_).shw rfl (by decide) (by decide) (by decide)
    refine (Lit.tup (k := 3) (n := 6 + 1 + (366000 + 1 + 0)) (LitA.cons ((Lit.str (x := "closed") (by decide)).mono (by decide) (by decide)) (LitA.cons ?_ LitA.nil))).mono (by decide) (by decide)
    refine (Lit.lst (LitA.all (n := 121) (k := 2) (ds := ss.map csD) fun d hd => ?_)).mono (by rw [List.length_map]; omega) (Nat.le_refl _)
    obtain ⟨s, hs, rfl⟩ := List.mem_map.mp hd
    exact Lit.cells (h2 s hs).2 (h2 s hs).1 (by decide)
end Pg

namespace Pg
open PySem PySem.Spec PyProof.Rows L2
def topS (i : Nat) : Stmt := PySem.Challenge.pw_pegleap_k11_papers_looked_at.main.body.getD i (.Pass ⟨0, 0, 0, 0⟩)
structure Txt (Z : Ad) (P : Program) (w : World) (mg : Str → Option Value) : Prop where
  range : mg "range" = none
  len : mg "len" = none
  all : mg "all" = none
  abs : mg "abs" = none
  list : mg "list" = none
  tuple : mg "tuple" = none
  sorted : mg "sorted" = none
  enumerate : mg "enumerate" = none
  sum : mg "sum" = none
  isinstance : mg "isinstance" = none
  min : mg "min" = none
  max : mg "max" = none
  repr : mg "repr" = none
  int : mg "int" = none
  str : mg "str" = none
  bool : mg "bool" = none
  ValueError : mg "ValueError" = none
  c_SIDE : mg "SIDE" = some (.int 8 Z.t1)
  c_MOST : mg "MOST" = some (.int 24 Z.t2)
  c_BOUND : mg "BOUND" = some (.int 1000 Z.t3)
  cl : Cls Z.K Z.C
  nC : NoAttr Z.K Z.C "cells"
  g_C : mg "Board" = some (.ref Z.C)
  mkC : Mk Z.K Z.C Z.fi
  x_pe : PySem.W.excIn Z.K Z.pe [.type "ValueError", .type "Exception", .type "BaseException", .type "object"] "ValueError.__new__" = true
  g_pe : mg "PegError" = some (.ref Z.pe)
  k_pe : PySem.W.keepIn Z.K (.ref Z.pe) = true
  b_pe : PySem.W.subIn Z.K (.ref Z.pe) (.type "BaseException") = some true
  t_pe : PySem.W.typeIn Z.K (.ref Z.pe) = some (.type "type")
  x_bb : PySem.W.excIn Z.K Z.bb [.type "ValueError", .type "Exception", .type "BaseException", .type "object"] "ValueError.__new__" = true
  g_bb : mg "BadBoard" = some (.ref Z.bb)
  k_bb : PySem.W.keepIn Z.K (.ref Z.bb) = true
  b_bb : PySem.W.subIn Z.K (.ref Z.bb) (.type "BaseException") = some true
  t_bb : PySem.W.typeIn Z.K (.ref Z.bb) = some (.type "type")
  x_bp : PySem.W.excIn Z.K Z.bp [.type "ValueError", .type "Exception", .type "BaseException", .type "object"] "ValueError.__new__" = true
  g_bp : mg "BadPegs" = some (.ref Z.bp)
  k_bp : PySem.W.keepIn Z.K (.ref Z.bp) = true
  b_bp : PySem.W.subIn Z.K (.ref Z.bp) (.type "BaseException") = some true
  t_bp : PySem.W.typeIn Z.K (.ref Z.bp) = some (.type "type")
  x_bw : PySem.W.excIn Z.K Z.bw [.type "ValueError", .type "Exception", .type "BaseException", .type "object"] "ValueError.__new__" = true
  g_bw : mg "BadWeights" = some (.ref Z.bw)
  k_bw : PySem.W.keepIn Z.K (.ref Z.bw) = true
  b_bw : PySem.W.subIn Z.K (.ref Z.bw) (.type "BaseException") = some true
  t_bw : PySem.W.typeIn Z.K (.ref Z.bw) = some (.type "type")
section
variable {P : Program} {w : World} {mg : Str → Option Value} {base : Heap} {Z : Ad}
abbrev s_rising : Stmt := topS 8
abbrev nm_rising : List Str := ["cells", "k"]
theorem sc_rising : FnScope nm_rising ["cells"] (defScope s_rising) := ⟨rfl, rfl, rfl, by decide +kernel, rfl, by decide +kernel, by decide +kernel⟩
abbrev T_rising := {cs : List Cell // cs.length ≤ 1000}
def a_rising (_ : Ad) (x : T_rising) : List Sl := [.py (csD x.1)]
def o_rising (_ : Ad) (x : T_rising) : Out := .ret (.py (.bool (risingF x.1)))
theorem ok_rising {f : Addr} {fd : FuncData} (T : Txt Z P w mg)  (F : L2.Fun Z.K "rising" "rising" s_rising f fd) : FnOk P w Z.K mg base (L2.CX P w) 1 f fd ["cells"] (spO Z.C (a_rising Z) (o_rising Z)) := by
  refine fn_ok F sc_rising (fun _ => rfl) fun cdv A outer s H E hr => ⟨_, (pss_cons (ps_for (passes_of rfl) rfl (pi_range2 (by rfl) T.range (pa_cons pe_int (pa_cons (pe_callB c_len (by rfl) T.len (by decide +kernel) (pa_cons (pv 0) pa_nil)) pa_nil))) (pg_name (i := 1) sc_rising.nd rfl (by first | exact Or.inl rfl | exact Or.inr rfl))
        (pss_one (ps_if (pt_cmpR (op_geD hr.units) (pe_ix ix_list (pv 0) (pe_op op_sub (pv 1) pe_int) (fun _ _ => rfl)) (pe_ix ix_list (pv 0) (pv 1) (fun _ _ => rfl)) (nomark _))
          (pss_one (ps_ret pe_bl))
          pss_nil)))
      (pss_one (ps_ret pe_bl))), ?_⟩
  rintro ⟨cs, hcs⟩ G hE
  show Run Z.C G H [.py (csD cs), .no] _ _
  refine r_seq (r_forR (lo := 1) (n := cs.length - 1) (fun G' H' σ R x q => w_r2 (m := 1) (n := cs.length) (p_cons e_int (p_cons ((e_len (l_v 0 rfl)).to (by rw [List.length_map])) p_nil)) (by omega) G' H' σ R x fun G2 H2 g => by
      have e : ((cs.length : Int) - 1).toNat = cs.length - 1 := by omega
      rw [e]
      exact q G2 H2 g)
    (fun i γ => (∃ s, γ = [.py (csD cs), s]) ∧ ∀ (j : Nat) (a b : Cell), j < i → cs[j]? = some a → cs[j + 1]? = some b → ltC a b = true) ⟨⟨_, rfl⟩, fun j _ _ h => absurd h (Nat.not_lt_zero j)⟩ ?_ ?_)
  · rintro i γ1 hi ⟨⟨s, rfl⟩, hp⟩
    have h1 : i < cs.length := by omega
    have h2 : i + 1 < cs.length := by omega
    refine ⟨_, g_n, ?_⟩
    refine r_if (b := !ltC cs[i] cs[i + 1]) (t_test (e_geD o_c (e_ixL (l_v 0 rfl) (e_sub (e_v 1 rfl) e_int) (at_m i (by omega) (List.getElem?_eq_getElem h1))) (e_ixL (l_v 0 rfl) (e_v 1 rfl) (at_m (i + 1) (by omega) (List.getElem?_eq_getElem h2))))) (fun hb => ?_) (fun hb => ?_)
    · refine r_ret e_bl ?_
      have hf : risingF cs = false := by
        cases e : risingF cs with
        | false => rfl
        | true =>
          have := (rising_iff cs).mp e i _ _ (List.getElem?_eq_getElem h1) (List.getElem?_eq_getElem h2)
          rw [this] at hb
          cases hb
      show Out.ret _ = Out.ret _
      rw [hf]
    · refine r_next ⟨⟨_, rfl⟩, fun j a b hj ha hb' => ?_⟩
      by_cases e : j = i
      · subst e
        rw [List.getElem?_eq_getElem h1] at ha
        rw [List.getElem?_eq_getElem h2] at hb'
        cases ha
        cases hb'
        simpa using hb
      · exact hp j a b (by omega) ha hb'
  · rintro γ1 ⟨⟨s, rfl⟩, hp⟩
    refine r_ret e_bl ?_
    have ht : risingF cs = true := (rising_iff cs).mpr fun j a b ha hb => hp j a b (by have := (List.getElem?_eq_some_iff.mp hb).1; omega) ha hb
    show Out.ret _ = Out.ret _
    rw [ht]

abbrev s_between : Stmt := topS 10
abbrev nm_between : List Str := ["leap", "one", "two"]
theorem sc_between : FnScope nm_between ["leap"] (defScope s_between) := ⟨rfl, rfl, rfl, by decide +kernel, rfl, by decide +kernel, by decide +kernel⟩
abbrev T_between := Leap
def a_between (_ : Ad) (l : T_between) : List Sl := [.py (lD l)]
def o_between (_ : Ad) (l : T_between) : Out := .ret (.py (cD (betw l)))
theorem ok_between {f : Addr} {fd : FuncData} (T : Txt Z P w mg)  (F : L2.Fun Z.K "between" "between" s_between f fd) : FnOk P w Z.K mg base (L2.CX P w) 1 f fd ["leap"] (spO Z.C (a_between Z) (o_between Z)) := by
  refine fn_ok F sc_between (fun _ => rfl) fun cdv A outer s H E hr => ⟨_, (pss_cons (ps_asg (pv 0) (pg_tup (n := 2) (by rfl) (pgs_cons (pg_name (i := 1) sc_between.nd rfl (by first | exact Or.inl rfl | exact Or.inr rfl)) (pgs_cons (pg_name (i := 2) sc_between.nd rfl (by first | exact Or.inl rfl | exact Or.inr rfl)) pgs_nil))))
      (pss_one (ps_ret (pe_tup (pa_cons (pe_op op_fdiv (pe_op op_add (pe_ix ix_tup (pv 1) pe_int (fun _ _ => rfl)) (pe_ix ix_tup (pv 2) pe_int (fun _ _ => rfl))) pe_int) (pa_cons (pe_op op_fdiv (pe_op op_add (pe_ix ix_tup (pv 1) pe_int (fun _ _ => rfl)) (pe_ix ix_tup (pv 2) pe_int (fun _ _ => rfl))) pe_int) pa_nil)))))), ?_⟩
  rintro l G hE
  show Run Z.C G H [.py (lD l), .no, .no] _ _
  refine s_asg2 (e_v 0 rfl) g_2 ?_
  refine r_ret (e_tup (p_cons (e_div (e_add (e_ix0 (e_v 1 rfl)) (e_ix0 (e_v 2 rfl))) e_int (by decide)) (p_cons (e_div (e_add (e_ix1 (e_v 1 rfl)) (e_ix1 (e_v 2 rfl))) e_int (by decide)) p_nil))) ?_
  rfl

abbrev s_Board : Stmt := inClass (topS 9) 0
abbrev nm_Board : List Str := ["self", "cells", "row", "column"]
theorem sc_Board : FnScope nm_Board ["self", "cells"] (defScope s_Board) := ⟨rfl, rfl, rfl, by decide +kernel, rfl, by decide +kernel, by decide +kernel⟩
def selfP (x : Addr) : Sl := .pr (fun _ v => v = .ref x) (fun _ _ _ _ h => h)
def listP (a : Addr) (us : List V) (cs : List Cell) : Sl := .pr (fun G v => v = .ref a ∧ G a = some (.lst us) ∧ RpA G us (cs.map cD)) (fun _ _ _ e h => ⟨h.1, e _ _ h.2.1, RpA.mono e h.2.2⟩)
theorem e_listP {C : Addr} {γ : Env} {a : Addr} {us : List V} {cs : List Cell} (i : Nat) (h : γ[i]? = some (listP a us cs)) : EvS C γ (tVar i) (.py (csD cs)) := e_prD i h fun _ _ q => by
  obtain ⟨rfl, h1, h2⟩ := q
  exact Rp.lst h1 h2
theorem ok_Board {f : Addr} {fd : FuncData} (T : Txt Z P w mg) {f_rising : Addr} {fd_rising : FuncData} (G_rising : Df P w Z.K mg base "rising" ["cells"] 1 (spO Z.C (a_rising Z) (o_rising Z)) f_rising fd_rising) (F : L2.Fun Z.K "__init__" "Board.__init__" s_Board f fd) : FnOk P w Z.K mg base (L2.CX P w) 2 f fd ["self", "cells"] (sp_Board Z) := by
  refine F.okX sc_Board (fun vs H Q E h => ?_) (fun cdv A outer s H vs Q E hr h => ⟨_, (pss_cons (ps_if (PW.pt (pw_or (pt_not (pt_chain op_le op_le pe_int (pe_callB c_len (by rfl) T.len (by decide +kernel) (pa_cons (pv 1) pa_nil)) (pe_glob (v := .int 24) rfl T.c_MOST ⟨_, rfl⟩))) (pw_or1 (pt_not (pt_val (pe_callS G_rising.ok (hr.mono (by decide)) (by rfl) G_rising.g G_rising.kp G_rising.b (fun σ => passAt (takes_of rfl rfl rfl rfl) σ) (pa_cons (pv 1) pa_nil)))))))
        (pss_one (ps_raise rfl (takes_of rfl rfl rfl rfl) (pmk_own PySem.F.excBase_ValueError T.x_bb T.g_bb T.k_bb (raises_own T.b_bb T.t_bb) (by rfl))))
        pss_nil)
      (pss_cons (ps_for (passes_of rfl) rfl (pi_list (pv 1)) (pg_tup (n := 2) (by rfl) (pgs_cons (pg_name (i := 2) sc_Board.nd rfl (by first | exact Or.inl rfl | exact Or.inr rfl)) (pgs_cons (pg_name (i := 3) sc_Board.nd rfl (by first | exact Or.inl rfl | exact Or.inr rfl)) pgs_nil)))
        (pss_one (ps_if (PW.pt (pw_or (pt_not (pt_chain op_le op_lt pe_int (pv 2) (pe_glob (v := .int 8) rfl T.c_SIDE ⟨_, rfl⟩))) (pw_or1 (pt_not (pt_chain op_le op_lt pe_int (pv 3) (pe_glob (v := .int 8) rfl T.c_SIDE ⟨_, rfl⟩))))))
          (pss_one (ps_raise rfl (takes_of rfl rfl rfl rfl) (pmk_own PySem.F.excBase_ValueError T.x_bb T.g_bb T.k_bb (raises_own T.b_bb T.t_bb) (by rfl))))
          pss_nil)))
      (pss_one (ps_fld (pv 0) (pe_callTy c_list (by rfl) T.list (by decide +kernel) (pa_cons (pv 1) pa_nil)) rfl)))), ?_⟩)
  · obtain ⟨x, dx, a, us, cs, rfl, _⟩ := h
    rfl
  · obtain ⟨x, dx, a, us, cs, rfl, nxa, hx, ha, ⟨G0, e0, gx, r0⟩, hz, kY, kN⟩ := h
    have eG : Same (upd G0 a (.lst us)) H := fun b o e => by
      by_cases q : b = a
      · subst q
        rw [upd_same] at e
        rw [ha]
        exact e
      · rw [upd_ne q] at e
        exact e0 b o e
    have e1 : Same G0 (upd G0 a (.lst us)) := fun b o e => by
      by_cases q : b = a
      · subst q
        rw [upd_same]
        exact ha.symm.trans (e0 _ _ e)
      · rw [upd_ne q]
        exact e
    have st : Stt Z.C (upd G0 a (.lst us)) H [selfP x, listP a us cs, .no, .no] (L2.start nm_Board [.ref x, .ref a]) (upd G0 a (.lst us)) H :=
      stt_start (ss := [selfP x, listP a us cs]) (N := nm_Board) eG (.cons rfl (.cons ⟨rfl, upd_same, RpA.mono e1 r0⟩ .nil)) (by show 2 ≤ 4; decide)
    have gx1 : (upd G0 a (.lst us)) x = none := by
      rw [upd_ne nxa]
      exact gx
    generalize upd G0 a (.lst us) = G1 at eG st gx1
    -- the first test
    refine seq_go (P := { nx := fun γ => γ = [selfP x, listP a us cs, .no, .no] ∧ (1 ≤ cs.length ∧ cs.length ≤ 24) ∧ risingF cs = true, rt := fun _ => False }) st ?_ ⟨fun γ σ' G' H' p e x' => ?_, fun _ _ _ _ p => False.elim p, fun _ _ _ _ p => False.elim p, fun _ _ _ _ p => False.elim p⟩
    · refine r_if (t_or (t_not (t_test (e_chain e_int ((e_len (l_py (e_listP 1 rfl))).to (by rw [List.length_map])) e_int)))
        (fun _ => t_not (t_B (e_callS (⟨cs, hz⟩ : T_rising) (a_cons (e_listP 1 rfl) a_nil) rfl)))) (fun hb => ?_) (fun hb => ?_)
      · refine r_raise fun σ' G' H' D g => kN ?_ H' fun b o q => g.hh b o q
        unfold boardF
        cases h1 : risingF cs with
        | false => simp
        | true =>
          have h2 : (cs.length : Int) < 1 ∨ 24 < (cs.length : Int) := by simpa [h1] using hb
          rw [show decide (1 ≤ cs.length ∧ cs.length ≤ 24) = false from decide_eq_false (by omega)]
          rfl
      · refine r_next ⟨rfl, ?_⟩
        simp at hb
        exact ⟨by omega, hb.2⟩
    · obtain ⟨rfl, hlen, hris⟩ := p
      -- the cells, one by one
      dsimp only
      refine seq_go (P := { nx := fun γ => (∃ s2 s3, γ = [selfP x, listP a us cs, s2, s3]) ∧ ∀ c, c ∈ cs → inBoard c = true, rt := fun _ => False }) x' (r_for (ds := cs.map cD) (e_listP 1 rfl) (fun i γ => (∃ s2 s3, γ = [selfP x, listP a us cs, s2, s3]) ∧ ∀ c, c ∈ cs.take i → inBoard c = true) ⟨⟨_, _, rfl⟩, fun c hc => absurd hc (by simp)⟩ ?_ ?_) ⟨fun γ σ2 G2 H2 p2 e2 x2 => ?_, fun _ _ _ _ p => False.elim p, fun _ _ _ _ p => False.elim p, fun _ _ _ _ p => False.elim p⟩
      · rintro i d γ1 hd ⟨⟨s2, s3, rfl⟩, hp⟩
        rw [List.getElem?_map] at hd
        cases ec : cs[i]? with
        | none =>
          rw [ec] at hd
          cases hd
        | some c =>
          rw [ec] at hd
          cases hd
          refine ⟨_, g_2, ?_⟩
          refine r_if (b := !inBoard c) ((t_or (t_not (t_test (e_chain e_int (e_v 2 rfl) e_int))) (fun _ => t_not (t_test (e_chain e_int (e_v 3 rfl) e_int)))).to ?_) (fun hb => ?_) (fun hb => ?_)
          · unfold inBoard
            simp only [Bool.not_and, Bool.decide_and]
          · refine r_raise fun σ3 G3 H3 D g => kN ?_ H3 fun b o q => g.hh b o q
            have : cs.all inBoard = false := List.all_eq_false.mpr ⟨c, List.mem_of_getElem? ec, by rw [nb_t hb]; exact Bool.false_ne_true⟩
            unfold boardF
            rw [this]
            simp
          · refine r_next ⟨⟨.py (.int c.1), .py (.int c.2), rfl⟩, fun c' hc' => ?_⟩
            rw [List.take_add_one, ec] at hc'
            rcases List.mem_append.mp hc' with z | z
            · exact hp c' z
            · have : c' = c := by simpa using z
              rw [this]
              exact nb_f hb
      · rintro γ1 ⟨⟨s2, s3, rfl⟩, hp⟩
        rw [List.length_map, List.take_length] at hp
        exact ⟨⟨s2, s3, rfl⟩, hp⟩
      · obtain ⟨⟨s2, s3, rfl⟩, hall⟩ := p2
        have hbF : boardF cs = true := by
          unfold boardF
          rw [hris, List.all_eq_true.mpr hall]
          simpa using hlen
        obtain ⟨v0, z1, z2⟩ := x2.get (i := 0) rfl (by unfold selfP; simp)
        obtain ⟨v1, y1, y2, y3, y4⟩ := x2.get (i := 1) rfl (by unfold listP; simp)
        have z2' : v0 = .ref x := z2
        subst z2' y2
        have hax : H2 x = some (.ins Z.C dx []) := x2.gr.hh _ _ hx
        have haa : H2 a = some (.lst us) := x2.gr.hh _ _ ha
        refine ⟨_, y1, a, us, rfl, .inl (SqL.of haa), fun l hl => ⟨_, z1, x, Z.C, dx, [], rfl, ?_, T.cl, T.nC, by decide, ?_⟩⟩
        · rw [upd_ne (ne_of_none hax hl)]
          exact hax
        · refine kY hbF l _ (x2.gr.hh.free hl) (fun b o e n => ?_) ?_ upd_same
          · rw [upd_ne n, upd_ne (ne_of_none (x2.gr.hh _ _ e) hl)]
            exact x2.gr.hh _ _ e
          · rw [upd_ne (ne_of_none hax hl).symm, upd_same]

abbrev s_is_standing : Stmt := topS 13
abbrev nm_is_standing : List Str := ["board", "pegs", "cell"]
theorem sc_is_standing : FnScope nm_is_standing ["board", "pegs"] (defScope s_is_standing) := ⟨rfl, rfl, rfl, by decide +kernel, rfl, by decide +kernel, by decide +kernel⟩
abbrev T_is_standing := {x : List Cell × List Cell // x.2.length ≤ 1000}
def a_is_standing (_ : Ad) (x : T_is_standing) : List Sl := [.brd x.1.1, .py (csD x.1.2)]
def o_is_standing (_ : Ad) (x : T_is_standing) : Out := .ret (.py (.bool (standF x.1.1 x.1.2)))
theorem ok_is_standing {f : Addr} {fd : FuncData} (T : Txt Z P w mg) {f_rising : Addr} {fd_rising : FuncData} (G_rising : Df P w Z.K mg base "rising" ["cells"] 1 (spO Z.C (a_rising Z) (o_rising Z)) f_rising fd_rising) (F : L2.Fun Z.K "is_standing" "is_standing" s_is_standing f fd) : FnOk P w Z.K mg base (L2.CX P w) 2 f fd ["board", "pegs"] (spO Z.C (a_is_standing Z) (o_is_standing Z)) := by
  refine fn_ok F sc_is_standing (fun _ => rfl) fun cdv A outer s H E hr => ⟨_, (pss_one (ps_ret (pe_and (pe_callS G_rising.ok (hr.mono (by decide)) (by rfl) G_rising.g G_rising.kp G_rising.b (fun σ => passAt (takes_of rfl rfl rfl rfl) σ) (pa_cons (pv 1) pa_nil)) (pe_one (pe_callB (cr_all rfl) (by rfl) T.all (by decide +kernel) (pa_cons (pe_lc (own := [("cell", 2)]) (by rfl) sc_is_standing.nd (pi_list (pv 1)) (blkOk_by (own := [("cell", 2)]) (N := nm_is_standing) (sc := defScope s_is_standing) (by decide +kernel)) (fun _ _ _ _ _ => (pg_name (i := 2) sc_is_standing.nd rfl (by first | exact Or.inl rfl | exact Or.inr rfl))) (fun _ _ _ _ _ => pts_nil) (fun _ _ _ _ _ => (pe_cmpR (op_inDK (K := Z.K) rfl (hu65 hr)) (pv 2) (pe_fldK (K := Z.K) rfl (pv 0) (by rfl)) (by rfl)))) pa_nil)))))), ?_⟩
  rintro ⟨⟨cs, pegs⟩, hz⟩ G hE
  have hz' : pegs.length ≤ 1000 := hz
  show Run Z.C G H [.brd cs, .py (csD pegs), .no] _ _
  refine r_ret (e_and (e_callS (⟨pegs, hz⟩ : T_rising) (a_cons (e_v 1 rfl) a_nil) rfl) fun _ => e_allP (xs := pegs) (p := fun c => memB c cs) (l_new (e_lc1 (xs := pegs) (f := cD) (e_v 1 rfl) (by omega) fun x _ => ⟨_, c_n, e_in q_c (e_v 2 rfl) (l_py (e_cells T.cl T.nC (e_b 0 rfl)))⟩))) ?_
  rfl

abbrev s_check_pegs : Stmt := topS 14
abbrev nm_check_pegs : List Str := ["board", "pegs"]
theorem sc_check_pegs : FnScope nm_check_pegs ["board", "pegs"] (defScope s_check_pegs) := ⟨rfl, rfl, rfl, by decide +kernel, rfl, by decide +kernel, by decide +kernel⟩
abbrev T_check_pegs := T_is_standing
def a_check_pegs (_ : Ad) (x : T_check_pegs) : List Sl := [.brd x.1.1, .py (csD x.1.2)]
def o_check_pegs (Z : Ad) (x : T_check_pegs) : Out := if standF x.1.1 x.1.2 = true then .ret (.py .none) else .exc Z.bp
theorem ok_check_pegs {f : Addr} {fd : FuncData} (T : Txt Z P w mg) {f_is_standing : Addr} {fd_is_standing : FuncData} (G_is_standing : Df P w Z.K mg base "is_standing" ["board", "pegs"] 2 (spO Z.C (a_is_standing Z) (o_is_standing Z)) f_is_standing fd_is_standing) (F : L2.Fun Z.K "check_pegs" "check_pegs" s_check_pegs f fd) : FnOk P w Z.K mg base (L2.CX P w) 3 f fd ["board", "pegs"] (spO Z.C (a_check_pegs Z) (o_check_pegs Z)) := by
  refine fn_ok F sc_check_pegs (fun _ => rfl) fun cdv A outer s H E hr => ⟨_, (pss_one (ps_if (pt_not (pt_val (pe_callS G_is_standing.ok (hr.mono (by decide)) (by rfl) G_is_standing.g G_is_standing.kp G_is_standing.b (fun σ => passAt (takes_of rfl rfl rfl rfl) σ) (pa_cons (pv 0) (pa_cons (pv 1) pa_nil)))))
        (pss_one (ps_raise rfl (takes_of rfl rfl rfl rfl) (pmk_own PySem.F.excBase_ValueError T.x_bp T.g_bp T.k_bp (raises_own T.b_bp T.t_bp) (by rfl))))
        pss_nil)), ?_⟩
  rintro ⟨⟨cs, pegs⟩, hz⟩ G hE
  show Run Z.C G H [.brd cs, .py (csD pegs)] _ _
  refine r_if (t_not (t_B (e_callS (⟨(cs, pegs), hz⟩ : T_is_standing) (a_brd (e_b 0 rfl) (a_cons (e_v 1 rfl) a_nil)) rfl))) (fun hb => ?_) (fun hb => ?_)
  · refine r_raise fun σ' G' H' D g => ?_
    have hs : standF cs pegs = false := nb_t hb
    unfold o_check_pegs at hE
    rw [if_neg (by rw [hs]; exact Bool.false_ne_true)] at hE
    exact hE G' H' g
  · refine r_next ?_
    have hs : standF cs pegs = true := nb_f hb
    show o_check_pegs _ _ = _
    unfold o_check_pegs
    rw [if_pos hs]

abbrev s_is_leap : Stmt := topS 11
abbrev nm_is_leap : List Str := ["board", "leap", "one", "two", "apart"]
theorem sc_is_leap : FnScope nm_is_leap ["board", "leap"] (defScope s_is_leap) := ⟨rfl, rfl, rfl, by decide +kernel, rfl, by decide +kernel, by decide +kernel⟩
abbrev T_is_leap := List Cell × Leap
def a_is_leap (_ : Ad) (x : T_is_leap) : List Sl := [.brd x.1, .py (lD x.2)]
def o_is_leap (_ : Ad) (x : T_is_leap) : Out := .ret (.py (.bool (isLeapF x.1 x.2)))
theorem ok_is_leap {f : Addr} {fd : FuncData} (T : Txt Z P w mg) {f_between : Addr} {fd_between : FuncData} (G_between : Df P w Z.K mg base "between" ["leap"] 1 (spO Z.C (a_between Z) (o_between Z)) f_between fd_between) (F : L2.Fun Z.K "is_leap" "is_leap" s_is_leap f fd) : FnOk P w Z.K mg base (L2.CX P w) 2 f fd ["board", "leap"] (spO Z.C (a_is_leap Z) (o_is_leap Z)) := by
  refine fn_ok F sc_is_leap (fun _ => rfl) fun cdv A outer s H E hr => ⟨_, (pss_cons (ps_asg (pv 1) (pg_tup (n := 2) (by rfl) (pgs_cons (pg_name (i := 2) sc_is_leap.nd rfl (by first | exact Or.inl rfl | exact Or.inr rfl)) (pgs_cons (pg_name (i := 3) sc_is_leap.nd rfl (by first | exact Or.inl rfl | exact Or.inr rfl)) pgs_nil))))
      (pss_cons (ps_set (i := 4) sc_is_leap.nd rfl (by first | exact Or.inl rfl | exact Or.inr rfl) (pe_tup (pa_cons (pe_callB c_abs (by rfl) T.abs (by decide +kernel) (pa_cons (pe_op op_sub (pe_ix ix_tup (pv 2) pe_int (fun _ _ => rfl)) (pe_ix ix_tup (pv 3) pe_int (fun _ _ => rfl))) pa_nil)) (pa_cons (pe_callB c_abs (by rfl) T.abs (by decide +kernel) (pa_cons (pe_op op_sub (pe_ix ix_tup (pv 2) pe_int (fun _ _ => rfl)) (pe_ix ix_tup (pv 3) pe_int (fun _ _ => rfl))) pa_nil)) pa_nil))))
      (pss_cons (ps_if (pt_cmpR (op_notInT (hu65 hr)) (pv 4) (pe_tup (pa_cons (pe_tup (pa_cons pe_int (pa_cons pe_int pa_nil))) (pa_cons (pe_tup (pa_cons pe_int (pa_cons pe_int pa_nil))) pa_nil))) (by rfl))
        (pss_one (ps_ret pe_bl))
        pss_nil)
      (pss_one (ps_ret (pe_and (pe_cmpR (op_inD (hu65 hr)) (pv 2) (pe_fld (pv 0) (by rfl)) (by rfl)) (pe_and (pe_cmpR (op_inD (hu65 hr)) (pv 3) (pe_fld (pv 0) (by rfl)) (by rfl)) (pe_one (pe_cmpR (op_inD (hu65 hr)) (pe_callS G_between.ok (hr.mono (by decide)) (by rfl) G_between.g G_between.kp G_between.b (fun σ => passAt (takes_of rfl rfl rfl rfl) σ) (pa_cons (pv 1) pa_nil)) (pe_fld (pv 0) (by rfl)) (by rfl)))))))))), ?_⟩
  rintro ⟨cs, l⟩ G hE
  show Run Z.C G H [.brd cs, .py (lD l), .no, .no, .no] _ _
  refine s_asg2 (e_v 1 rfl) g_2 ?_
  refine s_asg (.py (cD (apartF l))) (e_tup (p_cons (e_abs (e_sub (e_ix0 (e_v 2 rfl)) (e_ix0 (e_v 3 rfl)))) (p_cons (e_abs (e_sub (e_ix1 (e_v 2 rfl)) (e_ix1 (e_v 3 rfl)))) p_nil))) ?_
  refine s_if (t_test (e_ninT (xs := [((0 : Int), (2 : Int)), (2, 0)]) q_c (e_v 4 rfl) (e_tup (p_cons (e_tup (p_cons e_int (p_cons e_int p_nil))) (p_cons (e_tup (p_cons e_int (p_cons e_int p_nil))) p_nil))))) (fun hb => ?_) (fun hb => ?_)
  · refine r_ret e_bl ?_
    show Out.ret _ = Out.ret _
    rw [show isLeapF cs l = false by unfold isLeapF; rw [nb_t hb]; rfl]
  · refine r_next ?_
    have cl : EvS Z.C [.brd cs, .py (lD l), .py (cD l.1), .py (cD l.2), .py (cD (apartF l))] (tFld Z.K (tVar 0) "cells") (.py (csD cs)) := e_cells T.cl T.nC (e_b 0 rfl)
    refine r_ret (e_and (e_in q_c (e_v 2 rfl) (l_py cl)) fun _ => e_and (e_in q_c (e_v 3 rfl) (l_py cl)) fun _ => e_in q_c (e_callS l (a_cons (e_v 1 rfl) a_nil) rfl) (l_py cl)) ?_
    show Out.ret _ = Out.ret _
    rw [show isLeapF cs l = (memB l.1 cs && (memB l.2 cs && memB (betw l) cs)) by unfold isLeapF; rw [nb_f hb]; rfl]

abbrev s_leaps : Stmt := topS 12
abbrev nm_leaps : List Str := ["board", "found", "row", "column", "to"]
theorem sc_leaps : FnScope nm_leaps ["board"] (defScope s_leaps) := ⟨rfl, rfl, rfl, by decide +kernel, rfl, by decide +kernel, by decide +kernel⟩
abbrev T_leaps := {cs : List Cell // cs.length ≤ 1000}
def a_leaps (_ : Ad) (x : T_leaps) : List Sl := [.brd x.1]
def o_leaps (_ : Ad) (x : T_leaps) : Out := .ret (.own (.lst ((leapsF x.1).map lD)))
theorem ok_leaps {f : Addr} {fd : FuncData} (T : Txt Z P w mg) {f_is_leap : Addr} {fd_is_leap : FuncData} (G_is_leap : Df P w Z.K mg base "is_leap" ["board", "leap"] 2 (spO Z.C (a_is_leap Z) (o_is_leap Z)) f_is_leap fd_is_leap) (F : L2.Fun Z.K "leaps" "leaps" s_leaps f fd) : FnOk P w Z.K mg base (L2.CX P w) 3 f fd ["board"] (spO Z.C (a_leaps Z) (o_leaps Z)) := by
  refine fn_ok F sc_leaps (fun _ => rfl) fun cdv A outer s H E hr => ⟨_, (pss_cons (ps_set (i := 1) sc_leaps.nd rfl (by first | exact Or.inl rfl | exact Or.inr rfl) (pe_lst pa_nil))
      (pss_cons (ps_for (passes_of rfl) rfl (pi_list (pe_fld (pv 0) (by rfl))) (pg_tup (n := 2) (by rfl) (pgs_cons (pg_name (i := 2) sc_leaps.nd rfl (by first | exact Or.inl rfl | exact Or.inr rfl)) (pgs_cons (pg_name (i := 3) sc_leaps.nd rfl (by first | exact Or.inl rfl | exact Or.inr rfl)) pgs_nil)))
        (pss_one (ps_for (passes_of rfl) rfl (pi_list (pe_lst (pa_cons (pe_tup (pa_cons (pe_op op_sub (pv 2) pe_int) (pa_cons (pv 3) pa_nil))) (pa_cons (pe_tup (pa_cons (pv 2) (pa_cons (pe_op op_sub (pv 3) pe_int) pa_nil))) (pa_cons (pe_tup (pa_cons (pv 2) (pa_cons (pe_op op_add (pv 3) pe_int) pa_nil))) (pa_cons (pe_tup (pa_cons (pe_op op_add (pv 2) pe_int) (pa_cons (pv 3) pa_nil))) pa_nil)))))) (pg_name (i := 4) sc_leaps.nd rfl (by first | exact Or.inl rfl | exact Or.inr rfl))
          (pss_one (ps_if (pt_val (pe_callS G_is_leap.ok (hr.mono (by decide)) (by rfl) G_is_leap.g G_is_leap.kp G_is_leap.b (fun σ => passAt (takes_of rfl rfl rfl rfl) σ) (pa_cons (pv 0) (pa_cons (pe_tup (pa_cons (pe_tup (pa_cons (pv 2) (pa_cons (pv 3) pa_nil))) (pa_cons (pv 4) pa_nil))) pa_nil))))
            (pss_one (ps_expr (pe_bm PySem.F.plainAttrs_list PySem.F.slot_list_append PySem.F.type_list_append mt_append (pv 1) (pa_cons (pe_tup (pa_cons (pe_tup (pa_cons (pv 2) (pa_cons (pv 3) pa_nil))) (pa_cons (pv 4) pa_nil))) pa_nil))))
            pss_nil)))))
      (pss_one (ps_ret (pv 1))))), ?_⟩
  rintro ⟨cs, hcs⟩ G hE
  show Run Z.C G H [.brd cs, .no, .no, .no, .no] _ _
  refine s_asg (.own (.lst [])) (e_lst p_nil) ?_
  refine r_seq (r_for (ds := cs.map cD) (e_cells T.cl T.nC (e_b 0 rfl)) (fun i γ => ∃ s1 s2 s3, γ = [.brd cs, .own (.lst (((cs.take i).flatMap (leapsAt cs)).map lD)), s1, s2, s3]) ⟨_, _, _, rfl⟩ ?_ ?_)
  · rintro i d γ1 hd ⟨s1, s2, s3, rfl⟩
    rw [List.getElem?_map] at hd
    cases ec : cs[i]? with
    | none =>
      rw [ec] at hd
      cases hd
    | some c =>
      rw [ec] at hd
      cases hd
      refine ⟨_, g_2, ?_⟩
      have hpre : ((cs.take i).flatMap (leapsAt cs)).length ≤ 4000 := Nat.le_trans (flatMap_len (leapsAt_len cs) _) (by rw [List.length_take]; omega)
      refine r_for (ds := (toF c).map cD) (e_frz (e_lst (p_cons (e_tup (p_cons (e_sub (e_v 2 rfl) e_int) (p_cons (e_v 3 rfl) p_nil))) (p_cons (e_tup (p_cons (e_v 2 rfl) (p_cons (e_sub (e_v 3 rfl) e_int) p_nil))) (p_cons (e_tup (p_cons (e_v 2 rfl) (p_cons (e_add (e_v 3 rfl) e_int) p_nil))) (p_cons (e_tup (p_cons (e_add (e_v 2 rfl) e_int) (p_cons (e_v 3 rfl) p_nil))) p_nil)))) (by simp [toF])))
        (fun j γ => ∃ s3, γ = [.brd cs, .own (.lst (((cs.take i).flatMap (leapsAt cs) ++ (((toF c).take j).filter fun t => isLeapF cs (c, t)).map fun t => (c, t)).map lD)), .py (.int c.1), .py (.int c.2), s3]) ⟨_, by rw [List.take_zero, List.filter_nil, List.map_nil, List.append_nil]; rfl⟩ ?_ ?_
      · rintro j d γ1 hd ⟨s3, rfl⟩
        rw [List.getElem?_map] at hd
        cases et : (toF c)[j]? with
        | none =>
          rw [et] at hd
          cases hd
        | some t =>
          rw [et] at hd
          cases hd
          refine ⟨_, g_n, ?_⟩
          have ev : ∀ γ' : Env, γ'[2]? = some (.py (.int c.1)) → γ'[3]? = some (.py (.int c.2)) → γ'[4]? = some (.py (cD t)) → EvS Z.C γ' (tTup (tCons (tTup (tCons (tVar 2) (tCons (tVar 3) tNil))) (tCons (tVar 4) tNil))) (.py (lD (c, t))) := fun γ' h2 h3 h4 =>
            e_tup (p_cons (e_tup (p_cons (e_v 2 h2) (p_cons (e_v 3 h3) p_nil))) (p_cons (e_v 4 h4) p_nil))
          refine r_if (b := isLeapF cs (c, t)) (t_B (e_callS (cs, (c, t)) (a_brd (e_b 0 rfl) (a_cons (ev _ rfl rfl rfl) a_nil)) rfl)) (fun hb => ?_) (fun hb => ?_)
          · refine r_app 1 rfl (ev _ rfl rfl rfl) ?_ ?_
            · rw [List.length_map, List.length_append, List.length_map]
              have h1 := List.length_filter_le (fun t => isLeapF cs (c, t)) ((toF c).take j)
              have h2 : ((toF c).take j).length ≤ 4 := by rw [List.length_take]; exact Nat.min_le_right _ _
              omega
            · refine ⟨.py (cD t), ?_⟩
              show [_, _, _, _, _] = _
              rw [filter_take et, if_pos hb]
              simp only [List.map_append, List.append_assoc, List.map_cons, List.map_nil]
          · refine r_next ⟨.py (cD t), ?_⟩
            show [_, _, _, _, _] = _
            rw [filter_take et, if_neg (by rw [hb]; exact Bool.false_ne_true), List.append_nil]
      · rintro γ1 ⟨s3, rfl⟩
        refine ⟨.py (.int c.1), .py (.int c.2), s3, ?_⟩
        rw [List.length_map, List.take_length, flatMap_take ec]
        rfl
  · rintro γ1 ⟨s1, s2, s3, rfl⟩
    refine r_retO 1 rfl ?_
    show Out.ret _ = Out.ret _
    rw [List.length_map, List.take_length]
    rfl

abbrev s_can : Stmt := topS 16
abbrev nm_can : List Str := ["board", "pegs", "leap"]
theorem sc_can : FnScope nm_can ["board", "pegs", "leap"] (defScope s_can) := ⟨rfl, rfl, rfl, by decide +kernel, rfl, by decide +kernel, by decide +kernel⟩
abbrev T_can := List Cell × List Cell × Leap
def a_can (_ : Ad) (x : T_can) : List Sl := [.brd x.1, .py (csD x.2.1), .py (lD x.2.2)]
def o_can (_ : Ad) (x : T_can) : Out := .ret (.py (.bool (canF x.1 x.2.1 x.2.2)))
theorem ok_can {f : Addr} {fd : FuncData} (T : Txt Z P w mg) {f_is_leap : Addr} {fd_is_leap : FuncData} (G_is_leap : Df P w Z.K mg base "is_leap" ["board", "leap"] 2 (spO Z.C (a_is_leap Z) (o_is_leap Z)) f_is_leap fd_is_leap) {f_between : Addr} {fd_between : FuncData} (G_between : Df P w Z.K mg base "between" ["leap"] 1 (spO Z.C (a_between Z) (o_between Z)) f_between fd_between) (F : L2.Fun Z.K "can" "can" s_can f fd) : FnOk P w Z.K mg base (L2.CX P w) 3 f fd ["board", "pegs", "leap"] (spO Z.C (a_can Z) (o_can Z)) := by
  refine fn_ok F sc_can (fun _ => rfl) fun cdv A outer s H E hr => ⟨_, (pss_one (ps_ret (pe_and (pe_callS G_is_leap.ok (hr.mono (by decide)) (by rfl) G_is_leap.g G_is_leap.kp G_is_leap.b (fun σ => passAt (takes_of rfl rfl rfl rfl) σ) (pa_cons (pv 0) (pa_cons (pv 2) pa_nil))) (pe_and (pe_cmpR (op_inD (hu65 hr)) (pe_ix ix_tup (pv 2) pe_int (fun _ _ => rfl)) (pv 1) (by rfl)) (pe_and (pe_cmpR (op_inD (hu65 hr)) (pe_callS G_between.ok (hr.mono (by decide)) (by rfl) G_between.g G_between.kp G_between.b (fun σ => passAt (takes_of rfl rfl rfl rfl) σ) (pa_cons (pv 2) pa_nil)) (pv 1) (by rfl)) (pe_one (pe_cmpR (op_notInD (hu65 hr)) (pe_ix ix_tup (pv 2) pe_int (fun _ _ => rfl)) (pv 1) (by rfl)))))))), ?_⟩
  rintro ⟨cs, pegs, l⟩ G hE
  show Run Z.C G H [.brd cs, .py (csD pegs), .py (lD l)] _ _
  refine r_ret (e_and (e_callS ((cs, l) : T_is_leap) (a_brd (e_b 0 rfl) (a_cons (e_v 2 rfl) a_nil)) rfl) fun _ => e_and (e_in q_c (e_ix0 (e_v 2 rfl)) (l_v 1 rfl)) fun _ => e_and (e_in q_c (e_callS (l : T_between) (a_cons (e_v 2 rfl) a_nil) rfl) (l_v 1 rfl)) fun _ => e_nin q_c (e_ix1 (e_v 2 rfl)) (l_v 1 rfl)) ?_
  rfl

abbrev s_done : Stmt := topS 17
abbrev nm_done : List Str := ["pegs", "leap", "gone", "cell"]
theorem sc_done : FnScope nm_done ["pegs", "leap"] (defScope s_done) := ⟨rfl, rfl, rfl, by decide +kernel, rfl, by decide +kernel, by decide +kernel⟩
abbrev T_done := {x : List Cell × Leap // x.1.length ≤ 1000}
def a_done (_ : Ad) (x : T_done) : List Sl := [.py (csD x.1.1), .py (lD x.1.2)]
def o_done (_ : Ad) (x : T_done) : Out := .ret (.own (.lst ((doneF x.1.1 x.1.2).map cD)))
theorem ok_done {f : Addr} {fd : FuncData} (T : Txt Z P w mg) {f_between : Addr} {fd_between : FuncData} (G_between : Df P w Z.K mg base "between" ["leap"] 1 (spO Z.C (a_between Z) (o_between Z)) f_between fd_between) (F : L2.Fun Z.K "done" "done" s_done f fd) : FnOk P w Z.K mg base (L2.CX P w) 2 f fd ["pegs", "leap"] (spO Z.C (a_done Z) (o_done Z)) := by
  refine fn_ok F sc_done (fun _ => rfl) fun cdv A outer s H E hr => ⟨_, (pss_cons (ps_set (i := 2) sc_done.nd rfl (by first | exact Or.inl rfl | exact Or.inr rfl) (pe_lst (pa_cons (pe_ix ix_tup (pv 1) pe_int (fun _ _ => rfl)) (pa_cons (pe_callS G_between.ok (hr.mono (by decide)) (by rfl) G_between.g G_between.kp G_between.b (fun σ => passAt (takes_of rfl rfl rfl rfl) σ) (pa_cons (pv 1) pa_nil)) pa_nil))))
      (pss_one (ps_ret (pe_callB (c_sortD hr.units) (by rfl) T.sorted (by decide +kernel) (pa_cons (pe_op op_cat (pe_lc (own := [("cell", 3)]) (by rfl) sc_done.nd (pi_list (pv 0)) (blkOk_by (own := [("cell", 3)]) (N := nm_done) (sc := defScope s_done) (by decide +kernel)) (fun _ _ _ _ _ => (pg_name (i := 3) sc_done.nd rfl (by first | exact Or.inl rfl | exact Or.inr rfl))) (fun _ _ _ _ _ => (pts_one (pt_cmpR (op_notInDK (K := Z.K) rfl (hu65 hr)) (pv 3) (pv 2) (by rfl)))) (fun _ _ _ _ _ => (pv 3))) (pe_lst (pa_cons (pe_ix ix_tup (pv 1) pe_int (fun _ _ => rfl)) pa_nil))) pa_nil))))), ?_⟩
  rintro ⟨⟨pegs, l⟩, hz⟩ G hE
  have hz' : pegs.length ≤ 1000 := hz
  show Run Z.C G H [.py (csD pegs), .py (lD l), .no, .no] _ _
  refine s_asg (.py (csD [l.1, betw l])) (e_frz (e_lst (p_cons (e_ix0 (e_v 1 rfl)) (p_cons (e_callS (l : T_between) (a_cons (e_v 1 rfl) a_nil) rfl) p_nil)))) ?_
  have hl : (leftF pegs l).length ≤ pegs.length := List.length_filter_le _ _
  refine r_ret (e_sort (xs := leftF pegs l ++ [l.2]) o_c (l_new ((e_cat (l_new (e_lcF (xs := pegs) (f := cD) (p := fun c => !memB c [l.1, betw l]) (e_v 0 rfl) (by omega) fun c _ => ⟨_, c_n, t_test (e_nin q_c (e_v 3 rfl) (l_v 2 rfl)), fun _ => e_v 3 rfl⟩)) (l_new (e_lst (p_cons (e_ix1 (e_v 1 rfl)) p_nil))) (by rw [List.length_map]; show (leftF pegs l).length + 1 ≤ _; omega)).to (by rw [List.map_append]; rfl))) (by rw [List.length_append]; show _ + 1 ≤ _; omega) (.inl fun x _ => ⟨_, _, rfl⟩)) ?_
  rfl

abbrev s_open_leaps : Stmt := topS 18
abbrev nm_open_leaps : List Str := ["board", "pegs", "leap"]
theorem sc_open_leaps : FnScope nm_open_leaps ["board", "pegs"] (defScope s_open_leaps) := ⟨rfl, rfl, rfl, by decide +kernel, rfl, by decide +kernel, by decide +kernel⟩
abbrev T_open_leaps := {x : List Cell × List Cell // x.1.length ≤ 1000 ∧ x.2.length ≤ 1000}
def a_open_leaps (_ : Ad) (x : T_open_leaps) : List Sl := [.brd x.1.1, .py (csD x.1.2)]
def o_open_leaps (Z : Ad) (x : T_open_leaps) : Out := if standF x.1.1 x.1.2 = true then .ret (.own (.lst ((openF x.1.1 x.1.2).map lD))) else .exc Z.bp
theorem ok_open_leaps {f : Addr} {fd : FuncData} (T : Txt Z P w mg) {f_check_pegs : Addr} {fd_check_pegs : FuncData} (G_check_pegs : Df P w Z.K mg base "check_pegs" ["board", "pegs"] 3 (spO Z.C (a_check_pegs Z) (o_check_pegs Z)) f_check_pegs fd_check_pegs) {f_leaps : Addr} {fd_leaps : FuncData} (G_leaps : Df P w Z.K mg base "leaps" ["board"] 3 (spO Z.C (a_leaps Z) (o_leaps Z)) f_leaps fd_leaps) {f_can : Addr} {fd_can : FuncData} (G_can : Df P w Z.K mg base "can" ["board", "pegs", "leap"] 3 (spO Z.C (a_can Z) (o_can Z)) f_can fd_can) (F : L2.Fun Z.K "open_leaps" "open_leaps" s_open_leaps f fd) : FnOk P w Z.K mg base (L2.CX P w) 4 f fd ["board", "pegs"] (spO Z.C (a_open_leaps Z) (o_open_leaps Z)) := by
  refine fn_ok F sc_open_leaps (fun _ => rfl) fun cdv A outer s H E hr => ⟨_, (pss_cons (ps_expr (pe_callS G_check_pegs.ok (hr.mono (by decide)) (by rfl) G_check_pegs.g G_check_pegs.kp G_check_pegs.b (fun σ => passAt (takes_of rfl rfl rfl rfl) σ) (pa_cons (pv 0) (pa_cons (pv 1) pa_nil))))
      (pss_one (ps_ret (pe_lc (own := [("leap", 2)]) (by rfl) sc_open_leaps.nd (pi_list (pe_callS G_leaps.ok (hr.mono (by decide)) (by rfl) G_leaps.g G_leaps.kp G_leaps.b (fun σ => passAt (takes_of rfl rfl rfl rfl) σ) (pa_cons (pv 0) pa_nil))) (blkOk_by (own := [("leap", 2)]) (N := nm_open_leaps) (sc := defScope s_open_leaps) (by decide +kernel)) (fun _ _ _ _ _ => (pg_name (i := 2) sc_open_leaps.nd rfl (by first | exact Or.inl rfl | exact Or.inr rfl))) (fun _ _ _ _ _ => (pts_one (pt_val (pe_call G_can.ok (hr.mono (by decide)) (by rfl) G_can.g G_can.kp G_can.b .nil passL (pa_cons (pv 0) (pa_cons (pv 1) (pa_cons (pv 2) pa_nil))))))) (fun _ _ _ _ _ => (pv 2)))))), ?_⟩
  rintro ⟨⟨cs, pegs⟩, hz⟩ G hE
  have h1 : cs.length ≤ 1000 := hz.1
  show Run Z.C G H [.brd cs, .py (csD pegs), .no] _ _
  have ar : EvA Z.C [.brd cs, .py (csD pegs), .no] (tCons (tVar 0) (tCons (tVar 1) tNil)) [.brd cs, .py (csD pegs)] := a_brd (e_b 0 rfl) (a_cons (e_v 1 rfl) a_nil)
  by_cases hs : standF cs pegs = true
  · refine s_drop (e_callS (⟨(cs, pegs), hz.2⟩ : T_check_pegs) ar (if_pos hs)) ?_
    have hl : (leapsF cs).length < 1000000 := by have := leapsF_len cs; omega
    refine r_ret (e_lcF (xs := leapsF cs) (f := lD) (p := canF cs pegs) (e_frz (e_callS (⟨cs, h1⟩ : T_leaps) (a_brd (e_b 0 rfl) a_nil) rfl)) hl fun x _ => ⟨_, c_n, t_B (e_call ((cs, pegs, x) : T_can) (a_brd (e_b 0 rfl) (a_cons (e_v 1 rfl) (a_cons (e_v 2 rfl) a_nil))) rfl), fun _ => e_v 2 rfl⟩) ?_
    exact if_pos hs
  · unfold o_open_leaps at hE
    rw [if_neg hs] at hE
    refine r_seq (r_dropX (x_callS (⟨(cs, pegs), hz.2⟩ : T_check_pegs) ar (if_neg hs)) fun σ' G' H' g G'' H'' g' => hE G'' H'' (g.trans g'))

abbrev s_class_of : Stmt := topS 19
abbrev nm_class_of : List Str := ["board", "pegs", "found", "sign", "colours", "row", "column"]
theorem sc_class_of : FnScope nm_class_of ["board", "pegs"] (defScope s_class_of) := ⟨rfl, rfl, rfl, by decide +kernel, rfl, by decide +kernel, by decide +kernel⟩
abbrev T_class_of := {x : List Cell × List Cell // x.2.length ≤ 1000}
def a_class_of (_ : Ad) (x : T_class_of) : List Sl := [.brd x.1.1, .py (csD x.1.2)]
def o_class_of (Z : Ad) (x : T_class_of) : Out := if standF x.1.1 x.1.2 = true then .ret (.py (itD (classF x.1.2))) else .exc Z.bp
theorem ok_class_of {f : Addr} {fd : FuncData} (T : Txt Z P w mg) {f_check_pegs : Addr} {fd_check_pegs : FuncData} (G_check_pegs : Df P w Z.K mg base "check_pegs" ["board", "pegs"] 3 (spO Z.C (a_check_pegs Z) (o_check_pegs Z)) f_check_pegs fd_check_pegs) (F : L2.Fun Z.K "class_of" "class_of" s_class_of f fd) : FnOk P w Z.K mg base (L2.CX P w) 4 f fd ["board", "pegs"] (spO Z.C (a_class_of Z) (o_class_of Z)) := by
  refine fn_ok F sc_class_of (fun _ => rfl) fun cdv A outer s H E hr => ⟨_, (pss_cons (ps_expr (pe_callS G_check_pegs.ok (hr.mono (by decide)) (by rfl) G_check_pegs.g G_check_pegs.kp G_check_pegs.b (fun σ => passAt (takes_of rfl rfl rfl rfl) σ) (pa_cons (pv 0) (pa_cons (pv 1) pa_nil))))
      (pss_cons (ps_set (i := 2) sc_class_of.nd rfl (by first | exact Or.inl rfl | exact Or.inr rfl) (pe_lst pa_nil))
      (pss_cons (ps_for (passes_of rfl) rfl (pi_tup (pe_tup (pa_cons pe_int (pa_cons (pe_un un_neg pe_int) pa_nil)))) (pg_name (i := 3) sc_class_of.nd rfl (by first | exact Or.inl rfl | exact Or.inr rfl))
        (pss_cons (ps_setLc (i := 4) (own := [("row", 5), ("column", 6)]) (by rfl) sc_class_of.nd rfl rfl (sw_true rfl rfl rfl (by decide +kernel)) (pi_list (pv 1)) (blkOk_by (own := [("row", 5), ("column", 6)]) (N := nm_class_of) (sc := defScope s_class_of) (by decide +kernel)) (fun _ _ _ _ _ => (pg_tupK (K := Z.K) rfl (n := 2) (by rfl) (pgs_cons (pg_name (i := 5) sc_class_of.nd rfl (by first | exact Or.inl rfl | exact Or.inr rfl)) (pgs_cons (pg_name (i := 6) sc_class_of.nd rfl (by first | exact Or.inl rfl | exact Or.inr rfl)) pgs_nil)))) (fun _ _ _ _ _ => pts_nil) (fun _ _ _ _ _ => (pe_op op_mod (pe_op op_add (pv 5) (pe_op op_mul (pv 3) (pv 6))) pe_int)))
        (pss_cons (ps_expr (pe_bm PySem.F.plainAttrs_list PySem.F.slot_list_append PySem.F.type_list_append mt_append (pv 2) (pa_cons (pe_op op_mod (pe_op op_add (pe_bm PySem.F.plainAttrs_list PySem.F.slot_list_count PySem.F.type_list_count mt_lcount (pv 4) (pa_cons pe_int pa_nil)) (pe_bm PySem.F.plainAttrs_list PySem.F.slot_list_count PySem.F.type_list_count mt_lcount (pv 4) (pa_cons pe_int pa_nil))) pe_int) pa_nil)))
        (pss_one (ps_expr (pe_bm PySem.F.plainAttrs_list PySem.F.slot_list_append PySem.F.type_list_append mt_append (pv 2) (pa_cons (pe_op op_mod (pe_op op_add (pe_bm PySem.F.plainAttrs_list PySem.F.slot_list_count PySem.F.type_list_count mt_lcount (pv 4) (pa_cons pe_int pa_nil)) (pe_bm PySem.F.plainAttrs_list PySem.F.slot_list_count PySem.F.type_list_count mt_lcount (pv 4) (pa_cons pe_int pa_nil))) pe_int) pa_nil)))))))
      (pss_one (ps_ret (pe_callTy c_tuple (by rfl) T.tuple (by decide +kernel) (pa_cons (pv 2) pa_nil))))))), ?_⟩
  rintro ⟨⟨cs, pegs⟩, hz⟩ G hE
  have hz' : pegs.length ≤ 1000 := hz
  show Run Z.C G H [.brd cs, .py (csD pegs), .no, .no, .no, .no, .no] _ _
  have ar : EvA Z.C [.brd cs, .py (csD pegs), .no, .no, .no, .no, .no] (tCons (tVar 0) (tCons (tVar 1) tNil)) [.brd cs, .py (csD pegs)] := a_brd (e_b 0 rfl) (a_cons (e_v 1 rfl) a_nil)
  by_cases hs : standF cs pegs = true
  · refine s_drop (e_callS (⟨(cs, pegs), hz⟩ : T_check_pegs) ar (if_pos hs)) ?_
    refine s_asg (.own (.lst [])) (e_lst p_nil) ?_
    refine s_cutI (fun γ => γ[2]? = some (.own (.lst ((classF pegs).map .int)))) ?_ ?_
    · refine r_forT (ds := [(1 : Int), -1].map .int) (e_tup (p_cons e_int (p_cons (e_neg e_int) p_nil))) (fun i γ => ∃ s3 s4 s5 s6, γ = [.brd cs, .py (csD pegs), .own (.lst ((([(1 : Int), -1].take i).flatMap (clsF pegs)).map .int)), s3, s4, s5, s6]) ⟨_, _, _, _, rfl⟩ ?_ ?_
      · rintro i d γ1 hd ⟨s3, s4, s5, s6, rfl⟩
        rw [List.getElem?_map] at hd
        cases ec : [(1 : Int), -1][i]? with
        | none =>
          rw [ec] at hd
          cases hd
        | some s =>
          rw [ec] at hd
          cases hd
          have hs1 : s = 1 ∨ s = -1 := by simpa using List.mem_of_getElem? ec
          refine ⟨_, g_n, ?_⟩
          refine s_asg (.own (.lst ((colF s pegs).map .int))) ((e_lc1 (xs := pegs) (f := cD) (h := fun c => .int ((c.1 + s * c.2) % 3)) (e_v 1 rfl) (by omega) fun c _ => ⟨_, c_2 (by decide), e_mod (e_add (e_v 5 rfl) (e_mul (e_v 3 rfl) (e_v 6 rfl) (.inl (by rcases hs1 with e | e <;> rw [e] <;> decide)))) e_int (by decide)⟩).to (by unfold colF; rw [List.map_map]; rfl)) ?_
          have hl : (([(1 : Int), -1].take i).flatMap (clsF pegs)).length ≤ 4 := by
            refine Nat.le_trans (flatMap_len (f := clsF pegs) (n := 2) (fun s => Nat.le_refl 2) _) ?_
            rw [List.length_take]
            show 2 * min i 2 ≤ 4
            omega
          refine s_app 2 rfl (e_mod (e_add (e_count (l_own 4 rfl) e_int) (e_count (l_own 4 rfl) e_int)) e_int (by decide)) (by rw [List.length_map]; omega) ?_
          refine r_app 2 rfl (e_mod (e_add (e_count (l_own 4 rfl) e_int) (e_count (l_own 4 rfl) e_int)) e_int (by decide)) (by rw [List.length_append, List.length_map]; show _ + 1 < _; omega) ?_
          refine ⟨.py (.int s), .own (.lst ((colF s pegs).map .int)), s5, s6, ?_⟩
          rw [flatMap_take ec]
          rw [List.map_append]
          simp only [List.append_assoc]
          rfl
      · rintro γ1 ⟨s3, s4, s5, s6, rfl⟩
        rfl
    · rintro γ1 h1
      refine r_ret (e_tuple (l_own 2 h1)) ?_
      exact if_pos hs
  · unfold o_class_of at hE
    rw [if_neg hs] at hE
    refine r_seq (r_dropX (x_callS (⟨(cs, pegs), hz⟩ : T_check_pegs) ar (if_neg hs)) fun σ' G' H' g G'' H'' g' => hE G'' H'' (g.trans g'))

abbrev s_are_weights : Stmt := topS 22
abbrev nm_are_weights : List Str := ["board", "weights", "number"]
theorem sc_are_weights : FnScope nm_are_weights ["board", "weights"] (defScope s_are_weights) := ⟨rfl, rfl, rfl, by decide +kernel, rfl, by decide +kernel, by decide +kernel⟩
abbrev T_are_weights := {x : List Cell × List Int // x.2.length ≤ 1000}
def a_are_weights (_ : Ad) (x : T_are_weights) : List Sl := [.brd x.1.1, .py (isD x.1.2)]
def o_are_weights (_ : Ad) (x : T_are_weights) : Out := .ret (.py (.bool (areW x.1.1 x.1.2)))
theorem ok_are_weights {f : Addr} {fd : FuncData} (T : Txt Z P w mg)  (F : L2.Fun Z.K "are_weights" "are_weights" s_are_weights f fd) : FnOk P w Z.K mg base (L2.CX P w) 1 f fd ["board", "weights"] (spO Z.C (a_are_weights Z) (o_are_weights Z)) := by
  refine fn_ok F sc_are_weights (fun _ => rfl) fun cdv A outer s H E hr => ⟨_, (pss_one (ps_ret (pe_and (pe_cmpR op_eq (pe_callB c_len (by rfl) T.len (by decide +kernel) (pa_cons (pv 1) pa_nil)) (pe_callB c_len (by rfl) T.len (by decide +kernel) (pa_cons (pe_fld (pv 0) (by rfl)) pa_nil)) (nomark _)) (pe_one (pe_callB (cr_all rfl) (by rfl) T.all (by decide +kernel) (pa_cons (pe_lc (own := [("number", 2)]) (by rfl) sc_are_weights.nd (pi_list (pv 1)) (blkOk_by (own := [("number", 2)]) (N := nm_are_weights) (sc := defScope s_are_weights) (by decide +kernel)) (fun _ _ _ _ _ => (pg_name (i := 2) sc_are_weights.nd rfl (by first | exact Or.inl rfl | exact Or.inr rfl))) (fun _ _ _ _ _ => pts_nil) (fun _ _ _ _ _ => (pe_cmpR op_le (pe_callB c_abs (by rfl) T.abs (by decide +kernel) (pa_cons (pv 2) pa_nil)) (pe_glob (v := .int 1000) rfl T.c_BOUND ⟨_, rfl⟩) (nomark _)))) pa_nil)))))), ?_⟩
  rintro ⟨⟨cs, ws⟩, hz⟩ G hE
  have hz' : ws.length ≤ 1000 := hz
  show Run Z.C G H [.brd cs, .py (isD ws), .no] _ _
  refine r_ret (e_and (e_eqI (e_len (l_v 1 rfl)) (e_len (l_py (e_cells T.cl T.nC (e_b 0 rfl))))) fun _ => e_allP (xs := ws) (p := fun x => decide (absI x ≤ 1000)) (l_new (e_lc1 (xs := ws) (f := .int) (e_v 1 rfl) (by omega) fun x _ => ⟨_, c_n, e_le (e_abs (e_v 2 rfl)) e_int⟩))) ?_
  show Out.ret _ = Out.ret _
  unfold areW
  rw [List.length_map, List.length_map, show decide ((ws.length : Int) = (cs.length : Int)) = decide (ws.length = cs.length) from decide_eq_decide.mpr (by omega)]

abbrev s_check_weights : Stmt := topS 23
abbrev nm_check_weights : List Str := ["board", "weights"]
theorem sc_check_weights : FnScope nm_check_weights ["board", "weights"] (defScope s_check_weights) := ⟨rfl, rfl, rfl, by decide +kernel, rfl, by decide +kernel, by decide +kernel⟩
abbrev T_check_weights := T_are_weights
def a_check_weights (_ : Ad) (x : T_check_weights) : List Sl := [.brd x.1.1, .py (isD x.1.2)]
def o_check_weights (Z : Ad) (x : T_check_weights) : Out := if areW x.1.1 x.1.2 = true then .ret (.py .none) else .exc Z.bw
theorem ok_check_weights {f : Addr} {fd : FuncData} (T : Txt Z P w mg) {f_are_weights : Addr} {fd_are_weights : FuncData} (G_are_weights : Df P w Z.K mg base "are_weights" ["board", "weights"] 1 (spO Z.C (a_are_weights Z) (o_are_weights Z)) f_are_weights fd_are_weights) (F : L2.Fun Z.K "check_weights" "check_weights" s_check_weights f fd) : FnOk P w Z.K mg base (L2.CX P w) 2 f fd ["board", "weights"] (spO Z.C (a_check_weights Z) (o_check_weights Z)) := by
  refine fn_ok F sc_check_weights (fun _ => rfl) fun cdv A outer s H E hr => ⟨_, (pss_one (ps_if (pt_not (pt_val (pe_callS G_are_weights.ok (hr.mono (by decide)) (by rfl) G_are_weights.g G_are_weights.kp G_are_weights.b (fun σ => passAt (takes_of rfl rfl rfl rfl) σ) (pa_cons (pv 0) (pa_cons (pv 1) pa_nil)))))
        (pss_one (ps_raise rfl (takes_of rfl rfl rfl rfl) (pmk_own PySem.F.excBase_ValueError T.x_bw T.g_bw T.k_bw (raises_own T.b_bw T.t_bw) (by rfl))))
        pss_nil)), ?_⟩
  rintro ⟨⟨cs, ws⟩, hz⟩ G hE
  show Run Z.C G H [.brd cs, .py (isD ws)] _ _
  refine r_if (t_not (t_B (e_callS (⟨(cs, ws), hz⟩ : T_are_weights) (a_brd (e_b 0 rfl) (a_cons (e_v 1 rfl) a_nil)) rfl))) (fun hb => ?_) (fun hb => ?_)
  · refine r_raise fun σ' G' H' D g => ?_
    have hs : areW cs ws = false := nb_t hb
    unfold o_check_weights at hE
    rw [if_neg (by rw [hs]; exact Bool.false_ne_true)] at hE
    exact hE G' H' g
  · refine r_next ?_
    have hs : areW cs ws = true := nb_f hb
    show o_check_weights _ _ = _
    unfold o_check_weights
    rw [if_pos hs]

abbrev s_weight_at : Stmt := topS 24
abbrev nm_weight_at : List Str := ["board", "weights", "cell"]
theorem sc_weight_at : FnScope nm_weight_at ["board", "weights", "cell"] (defScope s_weight_at) := ⟨rfl, rfl, rfl, by decide +kernel, rfl, by decide +kernel, by decide +kernel⟩
abbrev T_weight_at := {x : (List Cell × List Int) × Cell // x.2 ∈ x.1.1 ∧ x.1.2.length = x.1.1.length}
def a_weight_at (_ : Ad) (x : T_weight_at) : List Sl := [.brd x.1.1.1, .py (isD x.1.1.2), .py (cD x.1.2)]
def o_weight_at (_ : Ad) (x : T_weight_at) : Out := .ret (.py (.int (wAt x.1.1.1 x.1.1.2 x.1.2)))
theorem ok_weight_at {f : Addr} {fd : FuncData} (T : Txt Z P w mg)  (F : L2.Fun Z.K "weight_at" "weight_at" s_weight_at f fd) : FnOk P w Z.K mg base (L2.CX P w) 1 f fd ["board", "weights", "cell"] (spO Z.C (a_weight_at Z) (o_weight_at Z)) := by
  refine fn_ok F sc_weight_at (fun _ => rfl) fun cdv A outer s H E hr => ⟨_, (pss_one (ps_ret (pe_ix ix_list (pv 1) (pe_bm PySem.F.plainAttrs_list PySem.F.slot_list_index PySem.F.type_list_index (mt_indexD (hu65 hr)) (pe_fld (pv 0) (by rfl)) (pa_cons (pv 2) pa_nil)) (fun _ _ => rfl)))), ?_⟩
  rintro ⟨⟨⟨cs, ws⟩, c⟩, hc, hl⟩ G hE
  show Run Z.C G H [.brd cs, .py (isD ws), .py (cD c)] _ _
  refine r_ret (e_ixL (l_v 1 rfl) (e_index q_c (l_py (e_cells T.cl T.nC (e_b 0 rfl))) (e_v 2 rfl) hc) (at_m (idxC cs c) rfl (wAt_get hc hl))) ?_
  rfl

abbrev s_fair : Stmt := topS 25
abbrev nm_fair : List Str := ["board", "weights", "leap", "left"]
theorem sc_fair : FnScope nm_fair ["board", "weights"] (defScope s_fair) := ⟨rfl, rfl, rfl, by decide +kernel, rfl, by decide +kernel, by decide +kernel⟩
abbrev T_fair := {x : List Cell × List Int // x.1.length ≤ 1000 ∧ x.2.length ≤ 1000}
def a_fair (_ : Ad) (x : T_fair) : List Sl := [.brd x.1.1, .py (isD x.1.2)]
def o_fair (Z : Ad) (x : T_fair) : Out := if areW x.1.1 x.1.2 = true then .ret (.py (.bool (fairF x.1.1 x.1.2))) else .exc Z.bw
theorem ok_fair {f : Addr} {fd : FuncData} (T : Txt Z P w mg) {f_check_weights : Addr} {fd_check_weights : FuncData} (G_check_weights : Df P w Z.K mg base "check_weights" ["board", "weights"] 2 (spO Z.C (a_check_weights Z) (o_check_weights Z)) f_check_weights fd_check_weights) {f_leaps : Addr} {fd_leaps : FuncData} (G_leaps : Df P w Z.K mg base "leaps" ["board"] 3 (spO Z.C (a_leaps Z) (o_leaps Z)) f_leaps fd_leaps) {f_weight_at : Addr} {fd_weight_at : FuncData} (G_weight_at : Df P w Z.K mg base "weight_at" ["board", "weights", "cell"] 1 (spO Z.C (a_weight_at Z) (o_weight_at Z)) f_weight_at fd_weight_at) {f_between : Addr} {fd_between : FuncData} (G_between : Df P w Z.K mg base "between" ["leap"] 1 (spO Z.C (a_between Z) (o_between Z)) f_between fd_between) (F : L2.Fun Z.K "fair" "fair" s_fair f fd) : FnOk P w Z.K mg base (L2.CX P w) 4 f fd ["board", "weights"] (spO Z.C (a_fair Z) (o_fair Z)) := by
  refine fn_ok F sc_fair (fun _ => rfl) fun cdv A outer s H E hr => ⟨_, (pss_cons (ps_expr (pe_callS G_check_weights.ok (hr.mono (by decide)) (by rfl) G_check_weights.g G_check_weights.kp G_check_weights.b (fun σ => passAt (takes_of rfl rfl rfl rfl) σ) (pa_cons (pv 0) (pa_cons (pv 1) pa_nil))))
      (pss_cons (ps_for (passes_of rfl) rfl (pi_list (pe_callS G_leaps.ok (hr.mono (by decide)) (by rfl) G_leaps.g G_leaps.kp G_leaps.b (fun σ => passAt (takes_of rfl rfl rfl rfl) σ) (pa_cons (pv 0) pa_nil))) (pg_name (i := 2) sc_fair.nd rfl (by first | exact Or.inl rfl | exact Or.inr rfl))
        (pss_cons (ps_set (i := 3) sc_fair.nd rfl (by first | exact Or.inl rfl | exact Or.inr rfl) (pe_op op_add (pe_callS G_weight_at.ok (hr.mono (by decide)) (by rfl) G_weight_at.g G_weight_at.kp G_weight_at.b (fun σ => passAt (takes_of rfl rfl rfl rfl) σ) (pa_cons (pv 0) (pa_cons (pv 1) (pa_cons (pe_ix ix_tup (pv 2) pe_int (fun _ _ => rfl)) pa_nil)))) (pe_callS G_weight_at.ok (hr.mono (by decide)) (by rfl) G_weight_at.g G_weight_at.kp G_weight_at.b (fun σ => passAt (takes_of rfl rfl rfl rfl) σ) (pa_cons (pv 0) (pa_cons (pv 1) (pa_cons (pe_callS G_between.ok (hr.mono (by decide)) (by rfl) G_between.g G_between.kp G_between.b (fun σ => passAt (takes_of rfl rfl rfl rfl) σ) (pa_cons (pv 2) pa_nil)) pa_nil))))))
        (pss_one (ps_if (pt_cmpR op_lt (pv 3) (pe_callS G_weight_at.ok (hr.mono (by decide)) (by rfl) G_weight_at.g G_weight_at.kp G_weight_at.b (fun σ => passAt (takes_of rfl rfl rfl rfl) σ) (pa_cons (pv 0) (pa_cons (pv 1) (pa_cons (pe_ix ix_tup (pv 2) pe_int (fun _ _ => rfl)) pa_nil)))) (nomark _))
          (pss_one (ps_ret pe_bl))
          pss_nil))))
      (pss_one (ps_ret pe_bl)))), ?_⟩
  rintro ⟨⟨cs, ws⟩, hz⟩ G hE
  have h1 : cs.length ≤ 1000 := hz.1
  show Run Z.C G H [.brd cs, .py (isD ws), .no, .no] _ _
  have ar : EvA Z.C [.brd cs, .py (isD ws), .no, .no] (tCons (tVar 0) (tCons (tVar 1) tNil)) [.brd cs, .py (isD ws)] := a_brd (e_b 0 rfl) (a_cons (e_v 1 rfl) a_nil)
  by_cases hs : areW cs ws = true
  · have hl := areW_len hs
    refine s_drop (e_callS (⟨(cs, ws), hz.2⟩ : T_check_weights) ar (if_pos hs)) ?_
    refine r_seq (r_for (ds := (leapsF cs).map lD) (e_frz (e_callS (⟨cs, h1⟩ : T_leaps) (a_brd (e_b 0 rfl) a_nil) rfl)) (fun i γ => (∃ s2 s3, γ = [.brd cs, .py (isD ws), s2, s3]) ∧ ((leapsF cs).take i).all (fairL cs ws) = true) ⟨⟨_, _, rfl⟩, rfl⟩ ?_ ?_)
    · rintro i d γ1 hd ⟨⟨s2, s3, rfl⟩, hp⟩
      rw [List.getElem?_map] at hd
      cases el : (leapsF cs)[i]? with
      | none =>
        rw [el] at hd
        cases hd
      | some l =>
        rw [el] at hd
        cases hd
        have hm := isLeapF_iff.mp (leapsF_mem.mp (List.mem_of_getElem? el))
        refine ⟨_, g_n, ?_⟩
        refine s_asg (.py (.int (wAt cs ws l.1 + wAt cs ws (betw l)))) (e_add (e_callS (⟨((cs, ws), l.1), hm.2.1, hl⟩ : T_weight_at) (a_brd (e_b 0 rfl) (a_cons (e_v 1 rfl) (a_cons (e_ix0 (e_v 2 rfl)) a_nil))) rfl) (e_callS (⟨((cs, ws), betw l), hm.2.2.2, hl⟩ : T_weight_at) (a_brd (e_b 0 rfl) (a_cons (e_v 1 rfl) (a_cons (e_callS (l : T_between) (a_cons (e_v 2 rfl) a_nil) rfl) a_nil))) rfl)) ?_
        refine r_if (b := !fairL cs ws l) ((t_test (e_lt (e_v 3 rfl) (e_callS (⟨((cs, ws), l.2), hm.2.2.1, hl⟩ : T_weight_at) (a_brd (e_b 0 rfl) (a_cons (e_v 1 rfl) (a_cons (e_ix1 (e_v 2 rfl)) a_nil))) rfl))).to (by unfold fairL; rw [Bool.not_not])) (fun hb => ?_) (fun hb => ?_)
        · refine r_ret e_bl ?_
          show o_fair _ _ = _
          unfold o_fair
          rw [if_pos hs]
          have : fairF cs ws = false := List.all_eq_false.mpr ⟨l, List.mem_of_getElem? el, by rw [nb_t hb]; exact Bool.false_ne_true⟩
          dsimp only
          rw [this]
        · refine r_next ⟨⟨.py (lD l), _, rfl⟩, ?_⟩
          rw [List.take_add_one, el, Option.toList_some, List.all_append, hp, List.all_cons, nb_f hb]
          rfl
    · rintro γ1 ⟨⟨s2, s3, rfl⟩, hp⟩
      rw [List.length_map, List.take_length] at hp
      refine r_ret e_bl ?_
      show o_fair _ _ = _
      unfold o_fair
      rw [if_pos hs]
      dsimp only
      rw [show fairF cs ws = true from hp]
  · unfold o_fair at hE
    rw [if_neg hs] at hE
    refine r_seq (r_dropX (x_callS (⟨(cs, ws), hz.2⟩ : T_check_weights) ar (if_neg hs)) fun σ' G' H' g G'' H'' g' => hE G'' H'' (g.trans g'))

abbrev s_weight : Stmt := topS 26
abbrev nm_weight : List Str := ["board", "weights", "pegs", "cell"]
theorem sc_weight : FnScope nm_weight ["board", "weights", "pegs"] (defScope s_weight) := ⟨rfl, rfl, rfl, by decide +kernel, rfl, by decide +kernel, by decide +kernel⟩
abbrev T_weight := {x : (List Cell × List Int) × List Cell // x.1.1.length ≤ 1000 ∧ x.1.2.length ≤ 1000 ∧ x.2.length ≤ 1000}
def a_weight (_ : Ad) (x : T_weight) : List Sl := [.brd x.1.1.1, .py (isD x.1.1.2), .py (csD x.1.2)]
def o_weight (Z : Ad) (x : T_weight) : Out := if areW x.1.1.1 x.1.1.2 = true then (if standF x.1.1.1 x.1.2 = true then .ret (.py (.int (weightF x.1.1.1 x.1.1.2 x.1.2))) else .exc Z.bp) else .exc Z.bw
theorem ok_weight {f : Addr} {fd : FuncData} (T : Txt Z P w mg) {f_check_weights : Addr} {fd_check_weights : FuncData} (G_check_weights : Df P w Z.K mg base "check_weights" ["board", "weights"] 2 (spO Z.C (a_check_weights Z) (o_check_weights Z)) f_check_weights fd_check_weights) {f_check_pegs : Addr} {fd_check_pegs : FuncData} (G_check_pegs : Df P w Z.K mg base "check_pegs" ["board", "pegs"] 3 (spO Z.C (a_check_pegs Z) (o_check_pegs Z)) f_check_pegs fd_check_pegs) {f_weight_at : Addr} {fd_weight_at : FuncData} (G_weight_at : Df P w Z.K mg base "weight_at" ["board", "weights", "cell"] 1 (spO Z.C (a_weight_at Z) (o_weight_at Z)) f_weight_at fd_weight_at) (F : L2.Fun Z.K "weight" "weight" s_weight f fd) : FnOk P w Z.K mg base (L2.CX P w) 4 f fd ["board", "weights", "pegs"] (spO Z.C (a_weight Z) (o_weight Z)) := by
  refine fn_ok F sc_weight (fun _ => rfl) fun cdv A outer s H E hr => ⟨_, (pss_cons (ps_expr (pe_callS G_check_weights.ok (hr.mono (by decide)) (by rfl) G_check_weights.g G_check_weights.kp G_check_weights.b (fun σ => passAt (takes_of rfl rfl rfl rfl) σ) (pa_cons (pv 0) (pa_cons (pv 1) pa_nil))))
      (pss_cons (ps_expr (pe_callS G_check_pegs.ok (hr.mono (by decide)) (by rfl) G_check_pegs.g G_check_pegs.kp G_check_pegs.b (fun σ => passAt (takes_of rfl rfl rfl rfl) σ) (pa_cons (pv 0) (pa_cons (pv 2) pa_nil))))
      (pss_one (ps_ret (pe_callB (cr_sum rfl) (by rfl) T.sum (by decide +kernel) (pa_cons (pe_lc (own := [("cell", 3)]) (by rfl) sc_weight.nd (pi_list (pv 2)) (blkOk_by (own := [("cell", 3)]) (N := nm_weight) (sc := defScope s_weight) (by decide +kernel)) (fun _ _ _ _ _ => (pg_name (i := 3) sc_weight.nd rfl (by first | exact Or.inl rfl | exact Or.inr rfl))) (fun _ _ _ _ _ => pts_nil) (fun _ _ _ _ _ => (pe_call G_weight_at.ok (hr.mono (by decide)) (by rfl) G_weight_at.g G_weight_at.kp G_weight_at.b .nil passL (pa_cons (pv 0) (pa_cons (pv 1) (pa_cons (pv 3) pa_nil)))))) pa_nil)))))), ?_⟩
  rintro ⟨⟨⟨cs, ws⟩, pegs⟩, hz⟩ G hE
  have h3 : pegs.length ≤ 1000 := hz.2.2
  show Run Z.C G H [.brd cs, .py (isD ws), .py (csD pegs), .no] _ _
  have ar : EvA Z.C [.brd cs, .py (isD ws), .py (csD pegs), .no] (tCons (tVar 0) (tCons (tVar 1) tNil)) [.brd cs, .py (isD ws)] := a_brd (e_b 0 rfl) (a_cons (e_v 1 rfl) a_nil)
  have ar2 : EvA Z.C [.brd cs, .py (isD ws), .py (csD pegs), .no] (tCons (tVar 0) (tCons (tVar 2) tNil)) [.brd cs, .py (csD pegs)] := a_brd (e_b 0 rfl) (a_cons (e_v 2 rfl) a_nil)
  unfold o_weight at hE
  by_cases hs : areW cs ws = true
  · rw [if_pos hs] at hE
    have hl := areW_len hs
    refine s_drop (e_callS (⟨(cs, ws), hz.2.1⟩ : T_check_weights) ar (if_pos hs)) ?_
    by_cases hp : standF cs pegs = true
    · refine s_drop (e_callS (⟨(cs, pegs), hz.2.2⟩ : T_check_pegs) ar2 (if_pos hp)) ?_
      have hm := (standF_iff.mp hp).2
      refine r_ret (e_sumP (xs := pegs) (p := wAt cs ws) (l_new (e_lc1 (xs := pegs) (f := cD) (e_v 2 rfl) (by omega) fun c hc => ⟨_, c_n, e_call (⟨((cs, ws), c), hm c hc, hl⟩ : T_weight_at) (a_brd (e_b 0 rfl) (a_cons (e_v 1 rfl) (a_cons (e_v 3 rfl) a_nil))) rfl⟩))) ?_
      show o_weight _ _ = _
      unfold o_weight
      rw [if_pos hs, if_pos hp]
      rfl
    · rw [if_neg hp] at hE
      refine r_seq (r_dropX (x_callS (⟨(cs, pegs), hz.2.2⟩ : T_check_pegs) ar2 (if_neg hp)) fun σ' G' H' g G'' H'' g' => hE G'' H'' (g.trans g'))
  · rw [if_neg hs] at hE
    refine r_seq (r_dropX (x_callS (⟨(cs, ws), hz.2.1⟩ : T_check_weights) ar (if_neg hs)) fun σ' G' H' g G'' H'' g' => hE G'' H'' (g.trans g'))

abbrev s_closed_holds : Stmt := topS 28
abbrev nm_closed_holds : List Str := ["board", "pegs", "others", "standings", "standing", "leap"]
theorem sc_closed_holds : FnScope nm_closed_holds ["board", "pegs", "others", "standings"] (defScope s_closed_holds) := ⟨rfl, rfl, rfl, by decide +kernel, rfl, by decide +kernel, by decide +kernel⟩
abbrev T_closed_holds := {x : List Cell × List Cell × List Cell × List (List Cell) // x.1.length ≤ 100 ∧ x.2.2.2.length ≤ 100000 ∧ ∀ s, s ∈ x.2.2.2 → s.length ≤ 500}
def a_closed_holds (_ : Ad) (x : T_closed_holds) : List Sl := [.brd x.1.1, .py (csD x.1.2.1), .py (csD x.1.2.2.1), .py (ssD x.1.2.2.2)]
def o_closed_holds (_ : Ad) (x : T_closed_holds) : Out := .ret (.py (.bool (closedF x.1.1 x.1.2.1 x.1.2.2.1 x.1.2.2.2)))
theorem ok_closed_holds {f : Addr} {fd : FuncData} (T : Txt Z P w mg) {f_open_leaps : Addr} {fd_open_leaps : FuncData} (G_open_leaps : Df P w Z.K mg base "open_leaps" ["board", "pegs"] 4 (spO Z.C (a_open_leaps Z) (o_open_leaps Z)) f_open_leaps fd_open_leaps) {f_is_standing : Addr} {fd_is_standing : FuncData} (G_is_standing : Df P w Z.K mg base "is_standing" ["board", "pegs"] 2 (spO Z.C (a_is_standing Z) (o_is_standing Z)) f_is_standing fd_is_standing) {f_done : Addr} {fd_done : FuncData} (G_done : Df P w Z.K mg base "done" ["pegs", "leap"] 2 (spO Z.C (a_done Z) (o_done Z)) f_done fd_done) (F : L2.Fun Z.K "closed_holds" "closed_holds" s_closed_holds f fd) : FnOk P w Z.K mg base (L2.CX P w) 5 f fd ["board", "pegs", "others", "standings"] (spO Z.C (a_closed_holds Z) (o_closed_holds Z)) := by
  refine fn_ok F sc_closed_holds (fun _ => rfl) fun cdv A outer s H E hr => ⟨_, (pss_cons (ps_if (pt_not (pt_val (pe_callB (cr_all rfl) (by rfl) T.all (by decide +kernel) (pa_cons (pe_lc (own := [("standing", 4)]) (by rfl) sc_closed_holds.nd (pi_list (pv 3)) (blkOk_by (own := [("standing", 4)]) (N := nm_closed_holds) (sc := defScope s_closed_holds) (by decide +kernel)) (fun _ _ _ _ _ => (pg_name (i := 4) sc_closed_holds.nd rfl (by first | exact Or.inl rfl | exact Or.inr rfl))) (fun _ _ _ _ _ => pts_nil) (fun _ _ _ _ _ => (pe_call G_is_standing.ok (hr.mono (by decide)) (by rfl) G_is_standing.g G_is_standing.kp G_is_standing.b .nil passL (pa_cons (pv 0) (pa_cons (pv 4) pa_nil))))) pa_nil))))
        (pss_one (ps_ret pe_bl))
        pss_nil)
      (pss_cons (ps_if (PW.pt (pw_or (pt_cmpR (op_notInD (hu65 hr)) (pv 1) (pv 3) (by rfl)) (pw_or1 (pt_cmpR (op_inD (hu65 hr)) (pv 2) (pv 3) (by rfl)))))
        (pss_one (ps_ret pe_bl))
        pss_nil)
      (pss_cons (ps_for (passes_of rfl) rfl (pi_list (pv 3)) (pg_name (i := 4) sc_closed_holds.nd rfl (by first | exact Or.inl rfl | exact Or.inr rfl))
        (pss_one (ps_for (passes_of rfl) rfl (pi_list (pe_callS G_open_leaps.ok (hr.mono (by decide)) (by rfl) G_open_leaps.g G_open_leaps.kp G_open_leaps.b (fun σ => passAt (takes_of rfl rfl rfl rfl) σ) (pa_cons (pv 0) (pa_cons (pv 4) pa_nil)))) (pg_name (i := 5) sc_closed_holds.nd rfl (by first | exact Or.inl rfl | exact Or.inr rfl))
          (pss_one (ps_if (pt_cmpR (op_notInD (hu65 hr)) (pe_callS G_done.ok (hr.mono (by decide)) (by rfl) G_done.g G_done.kp G_done.b (fun σ => passAt (takes_of rfl rfl rfl rfl) σ) (pa_cons (pv 4) (pa_cons (pv 5) pa_nil))) (pv 3) (by rfl))
            (pss_one (ps_ret pe_bl))
            pss_nil)))))
      (pss_one (ps_ret pe_bl))))), ?_⟩
  rintro ⟨⟨cs, pegs, others, ss⟩, hz, hz2, hz3⟩ G hE
  have hz' : cs.length ≤ 100 := hz
  have hz2' : ss.length ≤ 100000 := hz2
  have hz3' : ∀ s, s ∈ ss → s.length ≤ 500 := hz3
  show Run Z.C G H [.brd cs, .py (csD pegs), .py (csD others), .py (ssD ss), .no, .no] _ { nx := fun _ => Out.ret (.py (.bool (closedF cs pegs others ss))) = .ret (.py .none), rt := fun s => Out.ret (.py (.bool (closedF cs pegs others ss))) = .ret s }
  refine s_if (t_not (t_B (e_allP (xs := ss) (p := standF cs) (l_new (e_lc1 (xs := ss) (f := csD) (h := fun s => .bool (standF cs s)) (e_v 3 rfl) (by omega) fun s hs => ⟨_, c_n, e_call (⟨(cs, s), by have := hz3' s hs; dsimp only; omega⟩ : T_is_standing) (a_brd (e_b 0 rfl) (a_cons (e_v 4 rfl) a_nil)) rfl⟩))))) (fun hb => ?_) (fun hb => r_next ?_)
  · refine r_ret e_bl ?_
    have h1 : ss.all (standF cs) = false := nb_t hb
    have h2 : closedF cs pegs others ss = false := by
      unfold closedF
      rw [Bool.and_eq_false_iff]
      obtain ⟨s, hs, hn⟩ := List.all_eq_false.mp h1
      exact .inr (List.all_eq_false.mpr ⟨s, hs, fun z => hn ((Bool.and_eq_true _ _).mp z).1⟩)
    rw [h2]
  · have hall : ∀ s, s ∈ ss → standF cs s = true := List.all_eq_true.mp (nb_f hb)
    refine s_if (t_or (t_test (e_nin q_cs (e_v 1 rfl) (l_v 3 rfl))) fun _ => t_test (e_in q_cs (e_v 2 rfl) (l_v 3 rfl))) (fun hb => ?_) (fun hb => r_next ?_)
    · refine r_ret e_bl ?_
      have h2 : closedF cs pegs others ss = false := by
        unfold closedF
        rw [Bool.and_eq_false_iff]
        refine .inl ?_
        rcases (Bool.or_eq_true _ _).mp hb with z | z
        · rw [nb_t z]
          rfl
        · rw [z]
          simp
      rw [h2]
    · obtain ⟨b1, b2⟩ := Bool.or_eq_false_iff.mp hb
      have hpre : (memB pegs ss && !memB others ss) = true := by
        rw [nb_f b1, b2]
        rfl
      have hc : closedF cs pegs others ss = ss.all (closeS cs ss) := by
        unfold closedF
        rw [hpre, Bool.true_and]
        refine Bool.eq_iff_iff.mpr ?_
        rw [List.all_eq_true, List.all_eq_true]
        exact ⟨fun h s hs => ((Bool.and_eq_true _ _).mp (h s hs)).2, fun h s hs => by rw [hall s hs, h s hs]; rfl⟩
      rw [hc]
      refine r_seq (r_for (ds := ss.map csD) (e_v 3 rfl) (fun i γ => (∃ s4 s5, γ = [.brd cs, .py (csD pegs), .py (csD others), .py (ssD ss), s4, s5]) ∧ (ss.take i).all (closeS cs ss) = true) ⟨⟨_, _, rfl⟩, rfl⟩ ?_ ?_)
      · rintro i d γ1 hd ⟨⟨s4, s5, rfl⟩, hp⟩
        rw [List.getElem?_map] at hd
        cases es : ss[i]? with
        | none =>
          rw [es] at hd
          cases hd
        | some s =>
          rw [es] at hd
          cases hd
          have hsm := List.mem_of_getElem? es
          have hss := hall s hsm
          have hsl := hz3' s hsm
          refine ⟨_, g_n, ?_⟩
          refine r_for (ds := (openF cs s).map lD) (e_frz (e_callS (⟨(cs, s), by dsimp only; omega, by dsimp only; omega⟩ : T_open_leaps) (a_brd (e_b 0 rfl) (a_cons (e_v 4 rfl) a_nil)) (if_pos hss))) (fun j γ => (∃ s5, γ = [.brd cs, .py (csD pegs), .py (csD others), .py (ssD ss), .py (csD s), s5]) ∧ ((openF cs s).take j).all (fun l => memB (doneF s l) ss) = true) ⟨⟨_, rfl⟩, rfl⟩ ?_ ?_
          · rintro j d γ1 hd ⟨⟨s5, rfl⟩, hq⟩
            rw [List.getElem?_map] at hd
            cases el : (openF cs s)[j]? with
            | none =>
              rw [el] at hd
              cases hd
            | some l =>
              rw [el] at hd
              cases hd
              refine ⟨_, g_n, ?_⟩
              refine r_if (t_test (e_nin q_cs (e_frz (e_callS (⟨(s, l), by dsimp only; omega⟩ : T_done) (a_cons (e_v 4 rfl) (a_cons (e_v 5 rfl) a_nil)) rfl)) (l_v 3 rfl))) (fun hb => ?_) (fun hb => ?_)
              · refine r_ret e_bl ?_
                have h2 : ss.all (closeS cs ss) = false := List.all_eq_false.mpr ⟨s, hsm, fun z => by
                  have := List.all_eq_true.mp z l (List.mem_of_getElem? el)
                  rw [nb_t hb] at this
                  cases this⟩
                show Out.ret _ = Out.ret _
                rw [h2]
              · refine r_next ⟨⟨_, rfl⟩, ?_⟩
                rw [List.take_add_one, el, Option.toList_some, List.all_append, hq, List.all_cons, nb_f hb]
                rfl
          · rintro γ1 ⟨⟨s5, rfl⟩, hq⟩
            rw [List.length_map, List.take_length] at hq
            refine ⟨⟨_, _, rfl⟩, ?_⟩
            rw [List.take_add_one, es, Option.toList_some, List.all_append, hp, List.all_cons, show closeS cs ss s = true from hq]
            rfl
      · rintro γ1 ⟨⟨s4, s5, rfl⟩, hp⟩
        rw [List.length_map, List.take_length] at hp
        refine r_ret e_bl ?_
        show Out.ret _ = Out.ret _
        rw [hp]

abbrev s_holds : Stmt := topS 29
abbrev nm_holds : List Str := ["board", "pegs", "others", "paper"]
theorem sc_holds : FnScope nm_holds ["board", "pegs", "others", "paper"] (defScope s_holds) := ⟨rfl, rfl, rfl, by decide +kernel, rfl, by decide +kernel, by decide +kernel⟩
abbrev T_holds := {x : List Cell × List Cell × List Cell × Ppr // x.1.length ≤ 100 ∧ standF x.1 x.2.1 = true ∧ standF x.1 x.2.2.1 = true ∧ pprOk x.2.2.2}
def a_holds (_ : Ad) (x : T_holds) : List Sl := [.brd x.1.1, .py (csD x.1.2.1), .py (csD x.1.2.2.1), .py (pprD x.1.2.2.2)]
def o_holds (_ : Ad) (x : T_holds) : Out := .ret (.py (.bool (holdsF x.1.1 x.1.2.1 x.1.2.2.1 x.1.2.2.2)))
theorem ok_holds {f : Addr} {fd : FuncData} (T : Txt Z P w mg) {f_check_pegs : Addr} {fd_check_pegs : FuncData} (G_check_pegs : Df P w Z.K mg base "check_pegs" ["board", "pegs"] 3 (spO Z.C (a_check_pegs Z) (o_check_pegs Z)) f_check_pegs fd_check_pegs) {f_closed_holds : Addr} {fd_closed_holds : FuncData} (G_closed_holds : Df P w Z.K mg base "closed_holds" ["board", "pegs", "others", "standings"] 5 (spO Z.C (a_closed_holds Z) (o_closed_holds Z)) f_closed_holds fd_closed_holds) {f_weight : Addr} {fd_weight : FuncData} (G_weight : Df P w Z.K mg base "weight" ["board", "weights", "pegs"] 4 (spO Z.C (a_weight Z) (o_weight Z)) f_weight fd_weight) {f_class_of : Addr} {fd_class_of : FuncData} (G_class_of : Df P w Z.K mg base "class_of" ["board", "pegs"] 4 (spO Z.C (a_class_of Z) (o_class_of Z)) f_class_of fd_class_of) {f_are_weights : Addr} {fd_are_weights : FuncData} (G_are_weights : Df P w Z.K mg base "are_weights" ["board", "weights"] 1 (spO Z.C (a_are_weights Z) (o_are_weights Z)) f_are_weights fd_are_weights) {f_fair : Addr} {fd_fair : FuncData} (G_fair : Df P w Z.K mg base "fair" ["board", "weights"] 4 (spO Z.C (a_fair Z) (o_fair Z)) f_fair fd_fair) (F : L2.Fun Z.K "holds" "holds" s_holds f fd) : FnOk P w Z.K mg base (L2.CX P w) 6 f fd ["board", "pegs", "others", "paper"] (spO Z.C (a_holds Z) (o_holds Z)) := by
  refine fn_ok F sc_holds (fun _ => rfl) fun cdv A outer s H E hr => ⟨_, (pss_cons (ps_expr (pe_callS G_check_pegs.ok (hr.mono (by decide)) (by rfl) G_check_pegs.g G_check_pegs.kp G_check_pegs.b (fun σ => passAt (takes_of rfl rfl rfl rfl) σ) (pa_cons (pv 0) (pa_cons (pv 1) pa_nil))))
      (pss_cons (ps_expr (pe_callS G_check_pegs.ok (hr.mono (by decide)) (by rfl) G_check_pegs.g G_check_pegs.kp G_check_pegs.b (fun σ => passAt (takes_of rfl rfl rfl rfl) σ) (pa_cons (pv 0) (pa_cons (pv 2) pa_nil))))
      (pss_cons (ps_if (pt_cmpR op_eq (pe_ix ix_tup (pv 3) pe_int (fun _ _ => rfl)) pe_str (nomark _))
        (pss_one (ps_ret (pe_cmpR (op_neD hr.units) (pe_callS G_class_of.ok (hr.mono (by decide)) (by rfl) G_class_of.g G_class_of.kp G_class_of.b (fun σ => passAt (takes_of rfl rfl rfl rfl) σ) (pa_cons (pv 0) (pa_cons (pv 1) pa_nil))) (pe_callS G_class_of.ok (hr.mono (by decide)) (by rfl) G_class_of.g G_class_of.kp G_class_of.b (fun σ => passAt (takes_of rfl rfl rfl rfl) σ) (pa_cons (pv 0) (pa_cons (pv 2) pa_nil))) (nomark _))))
        pss_nil)
      (pss_cons (ps_if (pt_cmpR op_eq (pe_ix ix_tup (pv 3) pe_int (fun _ _ => rfl)) pe_str (nomark _))
        (pss_one (ps_ret (pe_callS G_closed_holds.ok (hr.mono (by decide)) (by rfl) G_closed_holds.g G_closed_holds.kp G_closed_holds.b (fun σ => passAt (takes_of rfl rfl rfl rfl) σ) (pa_cons (pv 0) (pa_cons (pv 1) (pa_cons (pv 2) (pa_cons (pe_ix ix_tup (pv 3) pe_int (fun _ _ => rfl)) pa_nil)))))))
        pss_nil)
      (pss_cons (ps_if (PW.pt (pw_or (pt_not (pt_val (pe_callS G_are_weights.ok (hr.mono (by decide)) (by rfl) G_are_weights.g G_are_weights.kp G_are_weights.b (fun σ => passAt (takes_of rfl rfl rfl rfl) σ) (pa_cons (pv 0) (pa_cons (pe_ix ix_tup (pv 3) pe_int (fun _ _ => rfl)) pa_nil))))) (pw_or1 (pt_not (pt_val (pe_callS G_fair.ok (hr.mono (by decide)) (by rfl) G_fair.g G_fair.kp G_fair.b (fun σ => passAt (takes_of rfl rfl rfl rfl) σ) (pa_cons (pv 0) (pa_cons (pe_ix ix_tup (pv 3) pe_int (fun _ _ => rfl)) pa_nil))))))))
        (pss_one (ps_ret pe_bl))
        pss_nil)
      (pss_one (ps_ret (pe_cmpR op_lt (pe_callS G_weight.ok (hr.mono (by decide)) (by rfl) G_weight.g G_weight.kp G_weight.b (fun σ => passAt (takes_of rfl rfl rfl rfl) σ) (pa_cons (pv 0) (pa_cons (pe_ix ix_tup (pv 3) pe_int (fun _ _ => rfl)) (pa_cons (pv 1) pa_nil)))) (pe_callS G_weight.ok (hr.mono (by decide)) (by rfl) G_weight.g G_weight.kp G_weight.b (fun σ => passAt (takes_of rfl rfl rfl rfl) σ) (pa_cons (pv 0) (pa_cons (pe_ix ix_tup (pv 3) pe_int (fun _ _ => rfl)) (pa_cons (pv 2) pa_nil)))) (nomark _))))))))), ?_⟩
  rintro ⟨⟨cs, pegs, others, pp⟩, hz, hst, hso, hp⟩ G hE
  have hz' : cs.length ≤ 100 := hz
  have hst' : standF cs pegs = true := hst
  have hso' : standF cs others = true := hso
  have hp' : pprOk pp := hp
  have hpl := stand_len hst'
  have hol := stand_len hso'
  show Run Z.C G H [.brd cs, .py (csD pegs), .py (csD others), .py (pprD pp)] _ { nx := fun _ => Out.ret (.py (.bool (holdsF cs pegs others pp))) = .ret (.py .none), rt := fun s => Out.ret (.py (.bool (holdsF cs pegs others pp))) = .ret s }
  refine s_drop (e_callS (⟨(cs, pegs), by dsimp only; omega⟩ : T_check_pegs) (a_brd (e_b 0 rfl) (a_cons (e_v 1 rfl) a_nil)) (if_pos hst')) ?_
  refine s_drop (e_callS (⟨(cs, others), by dsimp only; omega⟩ : T_check_pegs) (a_brd (e_b 0 rfl) (a_cons (e_v 2 rfl) a_nil)) (if_pos hso')) ?_
  cases pp with
  | cls =>
    refine s_if (b := true) ((t_test (e_eqS (x := "class") (y := "class") (e_ix0 (e_v 3 rfl)) e_str)).to rfl) (fun _ => ?_) (fun z => by cases z)
    refine r_ret (e_ne (x := classF pegs) (y := classF others) q_it (e_callS (⟨(cs, pegs), by dsimp only; omega⟩ : T_class_of) (a_brd (e_b 0 rfl) (a_cons (e_v 1 rfl) a_nil)) (if_pos hst')) (e_callS (⟨(cs, others), by dsimp only; omega⟩ : T_class_of) (a_brd (e_b 0 rfl) (a_cons (e_v 2 rfl) a_nil)) (if_pos hso'))) ?_
    rfl
  | clo ss =>
    refine s_if (b := false) ((t_test (e_eqS (x := "closed") (y := "class") (e_ix0 (e_v 3 rfl)) e_str)).to (by decide)) (fun z => by cases z) (fun _ => r_next ?_)
    refine s_if (b := true) ((t_test (e_eqS (x := "closed") (y := "closed") (e_ix0 (e_v 3 rfl)) e_str)).to rfl) (fun _ => ?_) (fun z => by cases z)
    refine r_ret (e_callS (⟨(cs, pegs, others, ss), hz, hp'.1, hp'.2⟩ : T_closed_holds) (a_brd (e_b 0 rfl) (a_cons (e_v 1 rfl) (a_cons (e_v 2 rfl) (a_cons (e_ix1 (e_v 3 rfl)) a_nil)))) rfl) ?_
    rfl
  | wts ws =>
    have hw : ws.length ≤ 1000 := hp'
    refine s_if (b := false) ((t_test (e_eqS (x := "weights") (y := "class") (e_ix0 (e_v 3 rfl)) e_str)).to (by decide)) (fun z => by cases z) (fun _ => r_next ?_)
    refine s_if (b := false) ((t_test (e_eqS (x := "weights") (y := "closed") (e_ix0 (e_v 3 rfl)) e_str)).to (by decide)) (fun z => by cases z) (fun _ => r_next ?_)
    refine s_if (b := !(areW cs ws && fairF cs ws)) ((t_or (t_not (t_B (e_callS (⟨(cs, ws), by dsimp only; omega⟩ : T_are_weights) (a_brd (e_b 0 rfl) (a_cons (e_ix1 (e_v 3 rfl)) a_nil)) rfl))) fun hA => t_not (t_B (e_callS (⟨(cs, ws), by dsimp only; omega, by dsimp only; omega⟩ : T_fair) (a_brd (e_b 0 rfl) (a_cons (e_ix1 (e_v 3 rfl)) a_nil)) (if_pos (nb_f hA))))).to (by rw [Bool.not_and])) (fun hb => ?_) (fun hb => r_next ?_)
    · refine r_ret e_bl ?_
      show Out.ret (.py (.bool ((areW cs ws && fairF cs ws) && decide (weightF cs ws pegs < weightF cs ws others)))) = _
      rw [nb_t hb]
      rfl
    · have hA := ((Bool.and_eq_true _ _).mp (nb_f hb)).1
      refine r_ret (e_lt (e_callS (⟨((cs, ws), pegs), by dsimp only; omega, by dsimp only; omega, by dsimp only; omega⟩ : T_weight) (a_brd (e_b 0 rfl) (a_cons (e_ix1 (e_v 3 rfl)) (a_cons (e_v 1 rfl) a_nil))) ((if_pos hA).trans (if_pos hst'))) (e_callS (⟨((cs, ws), others), by dsimp only; omega, by dsimp only; omega, by dsimp only; omega⟩ : T_weight) (a_brd (e_b 0 rfl) (a_cons (e_ix1 (e_v 3 rfl)) (a_cons (e_v 2 rfl) a_nil))) ((if_pos hA).trans (if_pos hso')))) ?_
      show Out.ret (.py (.bool ((areW cs ws && fairF cs ws) && decide (weightF cs ws pegs < weightF cs ws others)))) = _
      rw [nb_f hb]
      rfl

abbrev s__law_cell_at : Stmt := topS 31
abbrev nm__law_cell_at : List Str := ["script", "k"]
theorem sc__law_cell_at : FnScope nm__law_cell_at ["script", "k"] (defScope s__law_cell_at) := ⟨rfl, rfl, rfl, by decide +kernel, rfl, by decide +kernel, by decide +kernel⟩
def scr (K : PySem.W.Frag) (ns : List Int) : Sl := .pr (fun G v => ∃ a, v = .ref a ∧ SqL K G a (ns.map V.int)) (fun _ _ _ e ⟨a, h1, h2⟩ => ⟨a, h1, e.seq h2⟩)
theorem scr_len {C : Addr} {γ : Env} {K : PySem.W.Frag} {ns : List Int} (i : Nat) (h : γ[i]? = some (scr K ns)) : EvS C γ (tCB (rLn K) (tCons (tVar i) tNil)) (.py (.int (ns.length : Int))) := fun G0 H0 σ G H Q x q => by
  obtain ⟨v, h1, a, rfl, h2⟩ := x.get h (by unfold scr; simp)
  exact ⟨_, h1, a, _, rfl, .inl (x.same.seq h2), q _ G H (Grow.refl x.same) (by rw [List.length_map]; exact Rp.int _)⟩
theorem scr_at {C : Addr} {γ : Env} {K : PySem.W.Frag} {ns : List Int} {tb : TE} {k : Nat} {n : Int} (i : Nat) (h : γ[i]? = some (scr K ns)) (hb : EvS C γ tb (.py (.int (k : Int)))) (hk : ns[k]? = some n) : EvS C γ (tOp (rIxL K) (tVar i) tb) (.py (.int n)) := fun G0 H0 σ G H Q x q => by
  obtain ⟨v, h1, a, rfl, h2⟩ := x.get h (by unfold scr; simp)
  exact ⟨_, h1, hb G0 H0 σ G H _ x fun u G1 H1 g1 r1 => ⟨a, _, _, _, rfl, rp_int r1, (x.same.trans g1.hh).seq h2, at_m k rfl hk, q _ G1 H1 g1 (Rp.int n)⟩⟩
def cellAt (ns : List Int) (k : Nat) : Int := ns.getD k 0
abbrev T__law_cell_at := List Int × Nat
def a__law_cell_at (Z : Ad) (x : T__law_cell_at) : List Sl := [scr Z.K x.1, .py (.int (x.2 : Int))]
def o__law_cell_at (_ : Ad) (x : T__law_cell_at) : Out := .ret (.py (.int (cellAt x.1 x.2)))
theorem ok__law_cell_at {f : Addr} {fd : FuncData} (T : Txt Z P w mg)  (F : L2.Fun Z.K "_law_cell_at" "_law_cell_at" s__law_cell_at f fd) : FnOk P w Z.K mg base (L2.CX P w) 1 f fd ["script", "k"] (spO Z.C (a__law_cell_at Z) (o__law_cell_at Z)) := by
  refine fn_ok F sc__law_cell_at (fun _ => rfl) fun cdv A outer s H E hr => ⟨_, (pss_cons (ps_if (pt_cmpR op_lt (pv 1) (pe_callB c_len (by rfl) T.len (by decide +kernel) (pa_cons (pv 0) pa_nil)) (nomark _))
        (pss_one (ps_ret (pe_ix ix_list (pv 0) (pv 1) (fun _ _ => rfl))))
        pss_nil)
      (pss_one (ps_ret pe_int))), ?_⟩
  rintro ⟨ns, k⟩ G hE
  show Run Z.C G H [scr Z.K ns, .py (.int (k : Int))] _ _
  refine s_if (t_test (e_lt (e_v 1 rfl) (scr_len 0 rfl))) (fun hb => ?_) (fun hb => ?_)
  · have hk : k < ns.length := by have := of_decide_eq_true hb; omega
    refine r_ret (scr_at (k := k) 0 rfl (e_v 1 rfl) (List.getElem?_eq_getElem hk)) ?_
    show Out.ret _ = Out.ret _
    unfold cellAt
    rw [List.getD_eq_getElem?_getD, List.getElem?_eq_getElem hk]
    rfl
  · refine r_next (r_ret e_int ?_)
    have hk : ¬ k < ns.length := by have := of_decide_eq_false hb; omega
    show Out.ret _ = Out.ret _
    unfold cellAt
    rw [List.getD_eq_getElem?_getD, List.getElem?_eq_none (by show ns.length ≤ k; omega)]
    rfl

abbrev s__law_mix : Stmt := topS 32
abbrev nm__law_mix : List Str := ["cell", "k", "many", "some", "number"]
theorem sc__law_mix : FnScope nm__law_mix ["cell", "k", "many"] (defScope s__law_mix) := ⟨rfl, rfl, rfl, by decide +kernel, rfl, by decide +kernel, by decide +kernel⟩
def mixTab : List Int := [48271, 69621, 16807, 39373, 30269, 40014, 40692, 50021, 61687, 71993, 83869, 95561, 30307]
def mixF (cell : Int) (k : Nat) (many : Int) : Int := ((cell % 2147483647 + 12345) * mixTab.getD (k % 13) 0 * (2 * ((k : Int) / 13) + 1) + 977 * (k : Int)) % 1000000007 / 7 % many
theorem mixF_bd (cell : Int) (k : Nat) {many : Int} (h : 0 < many) : 0 ≤ mixF cell k many ∧ mixF cell k many < many := ⟨Int.emod_nonneg _ (by omega), Int.emod_lt_of_pos _ h⟩
abbrev T__law_mix := {x : Int × Nat × Int // x.2.1 ≤ 100000 ∧ 0 < x.2.2}
abbrev mx (c : Int) (k : Nat) (m : Int) (h1 : k ≤ 100000) (h2 : 0 < m) : T__law_mix := ⟨(c, k, m), h1, h2⟩
def a__law_mix (_ : Ad) (x : T__law_mix) : List Sl := [.py (.int x.1.1), .py (.int (x.1.2.1 : Int)), .py (.int x.1.2.2)]
def o__law_mix (_ : Ad) (x : T__law_mix) : Out := .ret (.py (.int (mixF x.1.1 x.1.2.1 x.1.2.2)))
theorem ok__law_mix {f : Addr} {fd : FuncData} (T : Txt Z P w mg)  (F : L2.Fun Z.K "_law_mix" "_law_mix" s__law_mix f fd) : FnOk P w Z.K mg base (L2.CX P w) 1 f fd ["cell", "k", "many"] (spO Z.C (a__law_mix Z) (o__law_mix Z)) := by
  refine fn_ok F sc__law_mix (fun _ => rfl) fun cdv A outer s H E hr => ⟨_, (pss_cons (ps_set (i := 3) sc__law_mix.nd rfl (by first | exact Or.inl rfl | exact Or.inr rfl) (pe_lst (pa_cons pe_int (pa_cons pe_int (pa_cons pe_int (pa_cons pe_int (pa_cons pe_int (pa_cons pe_int (pa_cons pe_int (pa_cons pe_int (pa_cons pe_int (pa_cons pe_int (pa_cons pe_int (pa_cons pe_int (pa_cons pe_int pa_nil)))))))))))))))
      (pss_cons (ps_set (i := 4) sc__law_mix.nd rfl (by first | exact Or.inl rfl | exact Or.inr rfl) (pe_op op_mul (pe_op op_add (pe_op op_mod (pv 0) pe_int) pe_int) (pe_ix ix_list (pv 3) (pe_op op_mod (pv 1) pe_int) (fun _ _ => rfl))))
      (pss_cons (ps_set (i := 4) sc__law_mix.nd rfl (by first | exact Or.inl rfl | exact Or.inr rfl) (pe_op op_add (pe_op op_mul (pv 4) (pe_op op_add (pe_op op_mul pe_int (pe_op op_fdiv (pv 1) pe_int)) pe_int)) (pe_op op_mul pe_int (pv 1))))
      (pss_one (ps_ret (pe_op op_mod (pe_op op_fdiv (pe_op op_mod (pv 4) pe_int) pe_int) (pv 2))))))), ?_⟩
  rintro ⟨⟨cell, k, many⟩, hk, hm⟩ G hE
  have hk' : k ≤ 100000 := hk
  have hm' : 0 < many := hm
  show Run Z.C G H [.py (.int cell), .py (.int (k : Int)), .py (.int many), .no, .no] _ _
  refine s_asg (.py (isD mixTab)) (e_frz (e_lst (p_cons e_int (p_cons e_int (p_cons e_int (p_cons e_int (p_cons e_int (p_cons e_int (p_cons e_int (p_cons e_int (p_cons e_int (p_cons e_int (p_cons e_int (p_cons e_int (p_cons e_int p_nil))))))))))))) (by simp [mixTab]))) ?_
  have h13 : k % 13 < mixTab.length := Nat.mod_lt _ (by decide)
  have ht : mixTab[k % 13]? = some (mixTab.getD (k % 13) 0) := by rw [List.getD_eq_getElem?_getD, List.getElem?_eq_getElem h13]; rfl
  refine s_asg (.py (.int ((cell % 2147483647 + 12345) * mixTab.getD (k % 13) 0))) (e_mul (e_add (e_mod (e_v 0 rfl) e_int (by decide)) e_int) (e_ixL (l_v 3 rfl) (e_mod (e_v 1 rfl) e_int (by decide)) (at_m (k % 13) (by omega) ht)) (.inl ?_)) ?_
  · have h1 := Int.emod_nonneg cell (show (2147483647 : Int) ≠ 0 by decide)
    have h2 := Int.emod_lt_of_pos cell (show (0 : Int) < 2147483647 by decide)
    omega
  · refine s_asg (.py (.int ((cell % 2147483647 + 12345) * mixTab.getD (k % 13) 0 * (2 * ((k : Int) / 13) + 1) + 977 * (k : Int)))) (e_add (e_mul (e_v 4 rfl) (e_add (e_mul e_int (e_div (e_v 1 rfl) e_int (by decide)) (.inl (by decide))) e_int) (.inr ?_)) (e_mul e_int (e_v 1 rfl) (.inl (by decide)))) ?_
    · omega
    · refine r_ret (e_mod (e_div (e_mod (e_v 4 rfl) e_int (by decide)) e_int (by decide)) (e_v 2 rfl) hm') ?_
      rfl

abbrev s__law_told : Stmt := topS 33
abbrev nm__law_told : List Str := ["found", "due"]
theorem sc__law_told : FnScope nm__law_told ["found", "due"] (defScope s__law_told) := ⟨rfl, rfl, rfl, by decide +kernel, rfl, by decide +kernel, by decide +kernel⟩
abbrev T__law_told := Bool × Bool
def a__law_told (_ : Ad) (x : T__law_told) : List Sl := [.py (.bool x.1), .py (.bool x.2)]
def o__law_told (_ : Ad) (x : T__law_told) : Out := .ret (.py (.bool (decide (x.1 = x.2))))
theorem ok__law_told {f : Addr} {fd : FuncData} (T : Txt Z P w mg)  (F : L2.Fun Z.K "_law_told" "_law_told" s__law_told f fd) : FnOk P w Z.K mg base (L2.CX P w) 1 f fd ["found", "due"] (spO Z.C (a__law_told Z) (o__law_told Z)) := by
  refine fn_ok F sc__law_told (fun _ => rfl) fun cdv A outer s H E hr => ⟨_, (pss_one (ps_ret (pe_and (pe_callB call_isi (by rfl) T.isinstance (by decide +kernel) (pa_cons (pv 0) (pa_cons (pe_bltn (v := .ty "bool") (by rfl) T.bool (by decide +kernel) rfl) pa_nil))) (pe_one (pe_cmpR op_eq (pv 0) (pv 1) (nomark _)))))), ?_⟩
  rintro ⟨a, b⟩ G hE
  show Run Z.C G H [.py (.bool a), .py (.bool b)] _ _
  refine r_ret (e_and (e_isi (e_v 0 rfl) rfl (by decide +kernel : L2.kitB "bool" "bool" = some true)) fun _ => e_eqB (e_v 0 rfl) (e_v 1 rfl)) ?_
  rfl

abbrev s__law_cells_by : Stmt := topS 34
abbrev nm__law_cells_by : List Str := ["script", "most", "cell", "height", "width", "down", "across", "some", "k"]
theorem sc__law_cells_by : FnScope nm__law_cells_by ["script", "most"] (defScope s__law_cells_by) := ⟨rfl, rfl, rfl, by decide +kernel, rfl, by decide +kernel, by decide +kernel⟩
def hwF (c : Int) : Cell := if c % 4 = 1 then (if c / 4 % 2 = 0 then (1 + (1 + mixF c 1 4) % 3, 8) else (8, 1 + (1 + mixF c 2 6) % 3)) else (1 + mixF c 1 4, 1 + mixF c 2 6)
theorem hwF_bd (c : Int) : (1 ≤ (hwF c).1 ∧ (hwF c).1 ≤ 8) ∧ 1 ≤ (hwF c).2 ∧ (hwF c).2 ≤ 8 := by
  have h1 := mixF_bd c 1 (show (0 : Int) < 4 by decide)
  have h2 := mixF_bd c 2 (show (0 : Int) < 6 by decide)
  unfold hwF
  split
  · split <;> simp only <;> omega
  · simp only
    omega
def daF (c : Int) : Cell := (mixF c 3 (9 - (hwF c).1), mixF c 4 (9 - (hwF c).2))
theorem daF_bd (c : Int) : (0 ≤ (daF c).1 ∧ (daF c).1 + (hwF c).1 ≤ 8) ∧ 0 ≤ (daF c).2 ∧ (daF c).2 + (hwF c).2 ≤ 8 := by
  have h := hwF_bd c
  have h1 := mixF_bd c 3 (show (0 : Int) < 9 - (hwF c).1 by omega)
  have h2 := mixF_bd c 4 (show (0 : Int) < 9 - (hwF c).2 by omega)
  unfold daF
  simp only
  omega
def cellN (c : Int) (k : Nat) : Cell := ((daF c).1 + (k : Int) / (hwF c).2, (daF c).2 + (k : Int) % (hwF c).2)
def onN (ns : List Int) (k : Nat) : Bool := decide (0 < mixF (cellAt ns 1) k 7)
def manyN (c : Int) : Nat := ((hwF c).1 * (hwF c).2).toNat
theorem manyN_bd (c : Int) : ((manyN c : Nat) : Int) = (hwF c).1 * (hwF c).2 ∧ manyN c ≤ 64 := by
  have h := hwF_bd c
  have h0 : 0 ≤ (hwF c).1 * (hwF c).2 := Int.mul_nonneg (by omega) (by omega)
  have h1 : (hwF c).1 * (hwF c).2 ≤ 8 * 8 := Int.mul_le_mul (by omega) (by omega) (by omega) (by omega)
  unfold manyN
  omega
def allN (ns : List Int) : List Cell := ((List.range (manyN (cellAt ns 0))).filter (onN ns)).map (cellN (cellAt ns 0))
def someN (ns : List Int) : List Cell := if allN ns = [] then [daF (cellAt ns 0)] else allN ns
def cellsF (ns : List Int) (most : Nat) : List Cell := (someN ns).take most
theorem cellsF_len (ns : List Int) (most : Nat) : (cellsF ns most).length ≤ most := by
  unfold cellsF
  rw [List.length_take]
  exact Nat.min_le_left _ _
theorem someN_ne (ns : List Int) : someN ns ≠ [] := by
  unfold someN
  split
  · simp
  · assumption
theorem cellsF_pos (ns : List Int) {most : Nat} (h : 1 ≤ most) : 1 ≤ (cellsF ns most).length := by
  unfold cellsF
  rw [List.length_take]
  have := List.length_pos_iff.mpr (someN_ne ns)
  omega
theorem allN_len (ns : List Int) : (allN ns).length ≤ 64 := by
  unfold allN
  rw [List.length_map]
  refine Nat.le_trans (List.length_filter_le _ _) ?_
  rw [List.length_range]
  exact (manyN_bd _).2
theorem cellN_lt {c : Int} {i j : Nat} (h : i < j) : ltC (cellN c i) (cellN c j) = true := by
  have hw := hwF_bd c
  have hp : 0 < (hwF c).2 := by omega
  refine ltC_of ?_
  unfold cellN
  dsimp only
  have h1 := Int.mul_ediv_add_emod (i : Int) (hwF c).2
  have h2 := Int.mul_ediv_add_emod (j : Int) (hwF c).2
  have h3 : (i : Int) / (hwF c).2 ≤ (j : Int) / (hwF c).2 := Int.ediv_le_ediv hp (by omega)
  rcases Int.lt_or_eq_of_le h3 with h4 | h4
  · exact .inl (by omega)
  · rw [h4] at h1
    exact .inr ⟨by omega, by omega⟩
theorem cellN_in {c : Int} {i : Nat} (h : i < manyN c) : inBoard (cellN c i) = true := by
  have hw := hwF_bd c
  have hd := daF_bd c
  have hm := manyN_bd c
  have hp : 0 < (hwF c).2 := by omega
  have h1 : 0 ≤ (i : Int) / (hwF c).2 := Int.ediv_nonneg (by omega) (by omega)
  have h2 : (i : Int) / (hwF c).2 < (hwF c).1 := Int.ediv_lt_of_lt_mul hp (by omega)
  have h3 := Int.emod_nonneg (i : Int) (show (hwF c).2 ≠ 0 by omega)
  have h4 := Int.emod_lt_of_pos (i : Int) hp
  unfold inBoard cellN
  dsimp only
  rw [Bool.and_eq_true]
  exact ⟨decide_eq_true (by omega), decide_eq_true (by omega)⟩
theorem someN_board (ns : List Int) : (someN ns).Pairwise (fun a b => ltC a b = true) ∧ ∀ c, c ∈ someN ns → inBoard c = true := by
  unfold someN
  split
  · refine ⟨by simp, fun c hc => ?_⟩
    have e : c = daF (cellAt ns 0) := by simpa using hc
    have hw := hwF_bd (cellAt ns 0)
    have hd := daF_bd (cellAt ns 0)
    rw [e]
    unfold inBoard
    rw [Bool.and_eq_true]
    exact ⟨decide_eq_true (by omega), decide_eq_true (by omega)⟩
  · unfold allN
    refine ⟨?_, fun c hc => ?_⟩
    · rw [List.pairwise_map]
      exact (List.pairwise_lt_range.filter _).imp fun {a b} h => cellN_lt h
    · obtain ⟨k, hk, rfl⟩ := List.mem_map.mp hc
      exact cellN_in (List.mem_range.mp (List.mem_filter.mp hk).1)
theorem cellsF_board (ns : List Int) {most : Nat} (h : 1 ≤ most) (h2 : most ≤ 24) : boardF (cellsF ns most) = true := by
  have hs := someN_board ns
  refine boardF_of (cellsF_pos ns h) (Nat.le_trans (cellsF_len ns most) h2) ?_ fun c hc => ?_
  · exact hs.1.sublist (List.take_sublist _ _)
  · exact hs.2 c (List.mem_of_mem_take hc)
abbrev T__law_cells_by := {x : List Int × Nat // x.2 ≤ 1000}
def a__law_cells_by (Z : Ad) (x : T__law_cells_by) : List Sl := [scr Z.K x.1.1, .py (.int (x.1.2 : Int))]
def o__law_cells_by (_ : Ad) (x : T__law_cells_by) : Out := .ret (.own (.lst ((cellsF x.1.1 x.1.2).map cD)))
theorem ok__law_cells_by {f : Addr} {fd : FuncData} (T : Txt Z P w mg) {f__law_cell_at : Addr} {fd__law_cell_at : FuncData} (G__law_cell_at : Df P w Z.K mg base "_law_cell_at" ["script", "k"] 1 (spO Z.C (a__law_cell_at Z) (o__law_cell_at Z)) f__law_cell_at fd__law_cell_at) {f__law_mix : Addr} {fd__law_mix : FuncData} (G__law_mix : Df P w Z.K mg base "_law_mix" ["cell", "k", "many"] 1 (spO Z.C (a__law_mix Z) (o__law_mix Z)) f__law_mix fd__law_mix) (F : L2.Fun Z.K "_law_cells_by" "_law_cells_by" s__law_cells_by f fd) : FnOk P w Z.K mg base (L2.CX P w) 2 f fd ["script", "most"] (spO Z.C (a__law_cells_by Z) (o__law_cells_by Z)) := by
  refine fn_ok F sc__law_cells_by (fun _ => rfl) fun cdv A outer s H E hr => ⟨_, (pss_cons (ps_set (i := 2) sc__law_cells_by.nd rfl (by first | exact Or.inl rfl | exact Or.inr rfl) (pe_callS G__law_cell_at.ok (hr.mono (by decide)) (by rfl) G__law_cell_at.g G__law_cell_at.kp G__law_cell_at.b (fun σ => passAt (takes_of rfl rfl rfl rfl) σ) (pa_cons (pv 0) (pa_cons pe_int pa_nil))))
      (pss_cons (ps_par (i := 3) (j := 4) (by rfl) sc__law_cells_by.nd rfl rfl (by decide) rfl rfl (pa_cons (pe_op op_add pe_int (pe_callS G__law_mix.ok (hr.mono (by decide)) (by rfl) G__law_mix.g G__law_mix.kp G__law_mix.b (fun σ => passAt (takes_of rfl rfl rfl rfl) σ) (pa_cons (pv 2) (pa_cons pe_int (pa_cons pe_int pa_nil))))) (pa_cons (pe_op op_add pe_int (pe_callS G__law_mix.ok (hr.mono (by decide)) (by rfl) G__law_mix.g G__law_mix.kp G__law_mix.b (fun σ => passAt (takes_of rfl rfl rfl rfl) σ) (pa_cons (pv 2) (pa_cons pe_int (pa_cons pe_int pa_nil))))) pa_nil)) (by rfl))
      (pss_cons (ps_if (pt_cmpR op_eq (pe_op op_mod (pv 2) pe_int) pe_int (nomark _))
        (pss_one (ps_asg (pe_ix ix_list (pe_lst (pa_cons (pe_tup (pa_cons (pe_op op_add pe_int (pe_op op_mod (pv 3) pe_int)) (pa_cons pe_int pa_nil))) (pa_cons (pe_tup (pa_cons pe_int (pa_cons (pe_op op_add pe_int (pe_op op_mod (pv 4) pe_int)) pa_nil))) pa_nil))) (pe_op op_mod (pe_op op_fdiv (pv 2) pe_int) pe_int) (fun _ _ => rfl)) (pg_tup (n := 2) (by rfl) (pgs_cons (pg_name (i := 3) sc__law_cells_by.nd rfl (by first | exact Or.inl rfl | exact Or.inr rfl)) (pgs_cons (pg_name (i := 4) sc__law_cells_by.nd rfl (by first | exact Or.inl rfl | exact Or.inr rfl)) pgs_nil)))))
        pss_nil)
      (pss_cons (ps_par (i := 5) (j := 6) (by rfl) sc__law_cells_by.nd rfl rfl (by decide) rfl rfl (pa_cons (pe_callS G__law_mix.ok (hr.mono (by decide)) (by rfl) G__law_mix.g G__law_mix.kp G__law_mix.b (fun σ => passAt (takes_of rfl rfl rfl rfl) σ) (pa_cons (pv 2) (pa_cons pe_int (pa_cons (pe_op op_sub pe_int (pv 3)) pa_nil)))) (pa_cons (pe_callS G__law_mix.ok (hr.mono (by decide)) (by rfl) G__law_mix.g G__law_mix.kp G__law_mix.b (fun σ => passAt (takes_of rfl rfl rfl rfl) σ) (pa_cons (pv 2) (pa_cons pe_int (pa_cons (pe_op op_sub pe_int (pv 4)) pa_nil)))) pa_nil)) (by rfl))
      (pss_cons (ps_set (i := 7) sc__law_cells_by.nd rfl (by first | exact Or.inl rfl | exact Or.inr rfl) (pe_lst pa_nil))
      (pss_cons (ps_for (passes_of rfl) rfl (pi_range1 (by rfl) T.range (pa_cons (pe_op op_mul (pv 3) (pv 4)) pa_nil)) (pg_name (i := 8) sc__law_cells_by.nd rfl (by first | exact Or.inl rfl | exact Or.inr rfl))
        (pss_one (ps_if (pt_cmpR op_gt (pe_callS G__law_mix.ok (hr.mono (by decide)) (by rfl) G__law_mix.g G__law_mix.kp G__law_mix.b (fun σ => passAt (takes_of rfl rfl rfl rfl) σ) (pa_cons (pe_callS G__law_cell_at.ok (hr.mono (by decide)) (by rfl) G__law_cell_at.g G__law_cell_at.kp G__law_cell_at.b (fun σ => passAt (takes_of rfl rfl rfl rfl) σ) (pa_cons (pv 0) (pa_cons pe_int pa_nil))) (pa_cons (pv 8) (pa_cons pe_int pa_nil)))) pe_int (nomark _))
          (pss_one (ps_expr (pe_bm PySem.F.plainAttrs_list PySem.F.slot_list_append PySem.F.type_list_append mt_append (pv 7) (pa_cons (pe_tup (pa_cons (pe_op op_add (pv 5) (pe_op op_fdiv (pv 8) (pv 4))) (pa_cons (pe_op op_add (pv 6) (pe_op op_mod (pv 8) (pv 4))) pa_nil))) pa_nil))))
          pss_nil)))
      (pss_cons (ps_if (pt_cmpR op_eq (pe_callB c_len (by rfl) T.len (by decide +kernel) (pa_cons (pv 7) pa_nil)) pe_int (nomark _))
        (pss_one (ps_set (i := 7) sc__law_cells_by.nd rfl (by first | exact Or.inl rfl | exact Or.inr rfl) (pe_lst (pa_cons (pe_tup (pa_cons (pv 5) (pa_cons (pv 6) pa_nil))) pa_nil))))
        pss_nil)
      (pss_one (ps_ret (pe_slice sl_list (pv 7) po_none (po_some (pv 1)))))))))))), ?_⟩
  rintro ⟨⟨ns, most⟩, hmost⟩ G hE
  show Run Z.C G H [scr Z.K ns, .py (.int (most : Int)), .no, .no, .no, .no, .no, .no, .no] _ _
  have hc0 : cellAt ns 0 = cellAt ns 0 := rfl
  generalize hc : cellAt ns 0 = c at hc0
  refine s_asg (.py (.int c)) ((e_callS ((ns, 0) : T__law_cell_at) (a_pr (e_pr 0 rfl) (a_cons e_int a_nil)) rfl).to (by rw [← hc])) ?_
  refine s_par (.int (1 + mixF c 1 4)) (.int (1 + mixF c 2 6)) (p_cons (e_add e_int (e_callS (mx c 1 4 (by decide) (by decide)) (a_cons (e_v 2 rfl) (a_cons e_int (a_cons e_int a_nil))) rfl)) (p_cons (e_add e_int (e_callS (mx c 2 6 (by decide) (by decide)) (a_cons (e_v 2 rfl) (a_cons e_int (a_cons e_int a_nil))) rfl)) p_nil)) ?_
  refine s_cut [scr Z.K ns, .py (.int (most : Int)), .py (.int c), .py (.int (hwF c).1), .py (.int (hwF c).2), .no, .no, .no, .no] ?_ ?_
  · refine r_if (t_test (e_eqI (e_mod (e_v 2 rfl) e_int (by decide)) e_int)) (fun hb => ?_) (fun hb => ?_)
    · have h1 : c % 4 = 1 := of_decide_eq_true hb
      refine r_asg2 (d := cD (hwF c)) ((e_ixL (l_new (e_lst (ds := [cD (1 + (1 + mixF c 1 4) % 3, 8), cD (8, 1 + (1 + mixF c 2 6) % 3)]) (p_cons (e_tup (p_cons (e_add e_int (e_mod (e_v 3 rfl) e_int (by decide))) (p_cons e_int p_nil))) (p_cons (e_tup (p_cons e_int (p_cons (e_add e_int (e_mod (e_v 4 rfl) e_int (by decide))) p_nil))) p_nil)))) (e_mod (e_div (e_v 2 rfl) e_int (by decide)) e_int (by decide)) ?_)) g_2 ?_
      · by_cases h2 : c / 4 % 2 = 0
        · rw [h2]
          unfold hwF
          rw [if_pos h1, if_pos h2]
          rfl
        · have h3 : c / 4 % 2 = 1 := by omega
          rw [h3]
          unfold hwF
          rw [if_pos h1, if_neg h2]
          rfl
      · rfl
    · have h1 : ¬ c % 4 = 1 := of_decide_eq_false hb
      refine r_next ?_
      show _ = _
      unfold hwF
      rw [if_neg h1]
      rfl
  · have hw := hwF_bd c
    have hd := daF_bd c
    have hm := manyN_bd c
    refine s_par (.int (daF c).1) (.int (daF c).2) (p_cons (e_callS (mx c 3 (9 - (hwF c).1) (by decide) (by omega)) (a_cons (e_v 2 rfl) (a_cons e_int (a_cons (e_sub e_int (e_v 3 rfl)) a_nil))) rfl) (p_cons (e_callS (mx c 4 (9 - (hwF c).2) (by decide) (by omega)) (a_cons (e_v 2 rfl) (a_cons e_int (a_cons (e_sub e_int (e_v 4 rfl)) a_nil))) rfl) p_nil)) ?_
    refine s_asg (.own (.lst [])) (e_lst p_nil) ?_
    refine s_cutI (fun γ => ∃ s8, γ = [scr Z.K ns, .py (.int (most : Int)), .py (.int c), .py (.int (hwF c).1), .py (.int (hwF c).2), .py (.int (daF c).1), .py (.int (daF c).2), .own (.lst ((allN ns).map cD)), s8]) ?_ ?_
    · refine r_forR (lo := 0) (n := manyN c) (fun G' H' σ R x q => w_r1 (n := (manyN c : Int)) (p_cons ((e_mul (e_v 3 rfl) (e_v 4 rfl) (.inl (by omega))).to (by rw [hm.1])) p_nil) (by omega) G' H' σ R x fun G2 H2 g => by
          rw [Int.toNat_natCast]
          exact q G2 H2 g)
        (fun i γ => ∃ s8, γ = [scr Z.K ns, .py (.int (most : Int)), .py (.int c), .py (.int (hwF c).1), .py (.int (hwF c).2), .py (.int (daF c).1), .py (.int (daF c).2), .own (.lst ((((List.range i).filter (onN ns)).map (cellN c)).map cD)), s8]) ⟨_, rfl⟩ ?_ ?_
      · rintro i γ1 hi ⟨s8, rfl⟩
        refine ⟨_, g_n, ?_⟩
        have hin : (0 : Int) + (i : Int) = ((i : Nat) : Int) := Int.zero_add _
        rw [hin]
        have hrs : (List.range (i + 1)).filter (onN ns) = (List.range i).filter (onN ns) ++ (if onN ns i = true then [i] else []) := by
          rw [List.range_succ, List.filter_append]
          congr 1
          cases e : onN ns i <;> simp [e]
        refine r_if (b := onN ns i) (t_test (e_gt (e_callS (mx (cellAt ns 1) i 7 (by omega) (by decide)) (a_cons (e_callS ((ns, 1) : T__law_cell_at) (a_pr (e_pr 0 rfl) (a_cons e_int a_nil)) rfl) (a_cons (e_v 8 rfl) (a_cons e_int a_nil))) rfl) e_int)) (fun hb => ?_) (fun hb => ?_)
        · refine r_app 7 rfl (e_tup (p_cons (e_add (e_v 5 rfl) (e_div (e_v 8 rfl) (e_v 4 rfl) (by omega))) (p_cons (e_add (e_v 6 rfl) (e_mod (e_v 8 rfl) (e_v 4 rfl) (by omega))) p_nil))) ?_ ⟨.py (.int (i : Int)), ?_⟩
          · rw [List.length_map, List.length_map]
            refine Nat.lt_of_le_of_lt (List.length_filter_le _ _) ?_
            rw [List.length_range]
            omega
          · rw [hrs, if_pos hb]
            simp only [List.map_append, List.map_cons, List.map_nil]
            rfl
        · refine r_next ⟨.py (.int (i : Int)), ?_⟩
          rw [hrs, if_neg (by rw [hb]; exact Bool.false_ne_true), List.append_nil]
          rfl
      · rintro γ1 ⟨s8, rfl⟩
        refine ⟨s8, ?_⟩
        unfold allN
        rw [hc]
    · rintro γ1 ⟨s8, rfl⟩
      refine s_cutI (fun γ => γ[1]? = some (.py (.int (most : Int))) ∧ γ[7]? = some (.own (.lst ((someN ns).map cD)))) ?_ ?_
      · refine r_if (t_test (e_eqI (e_len (l_own 7 rfl)) e_int)) (fun hb => ?_) (fun hb => ?_)
        · have he : allN ns = [] := by
            have h1 := of_decide_eq_true hb
            rw [List.length_map] at h1
            exact List.eq_nil_of_length_eq_zero (by omega)
          refine r_asg (e_lst (p_cons (e_tup (p_cons (e_v 5 rfl) (p_cons (e_v 6 rfl) p_nil))) p_nil)) ⟨rfl, ?_⟩
          unfold someN
          rw [if_pos he, hc]
          rfl
        · have he : ¬ allN ns = [] := fun z => by
            have h1 := of_decide_eq_false hb
            rw [z] at h1
            exact h1 rfl
          refine r_next ⟨rfl, ?_⟩
          unfold someN
          rw [if_neg he]
          rfl
      · rintro γ1 ⟨h1, h7⟩
        refine r_ret (e_cut (l_own 7 h7) o_none (o_some (e_v 1 h1))) ?_
        show Out.ret _ = Out.ret _
        rw [HT.sIx_none, HT.sIx_nat, List.drop_zero, Nat.sub_zero, ← List.map_take, List.length_map]
        unfold cellsF
        rw [List.take_eq_take_min]

abbrev s__law_pegs_by : Stmt := topS 35
abbrev nm__law_pegs_by : List Str := ["cell", "cells", "way", "gone", "k", "one"]
theorem sc__law_pegs_by : FnScope nm__law_pegs_by ["cell", "cells"] (defScope s__law_pegs_by) := ⟨rfl, rfl, rfl, by decide +kernel, rfl, by decide +kernel, by decide +kernel⟩
def wayTab : List Int := [0, 2, 3, 4]
def keptN (c m : Int) (z : Nat × Cell) : Bool := decide (0 < mixF c z.1 m)
def numb (cs : List Cell) : List (Nat × Cell) := cs.zipIdx.map fun z => (z.2, z.1)
def pegsF (c : Int) (cs : List Cell) : List Cell :=
  if mixF c 40 4 = 0 then cs.take (mixF c 41 cs.length).toNat ++ cs.drop ((mixF c 41 cs.length).toNat + 1)
  else ((numb cs).filter (keptN c (wayTab.getD (mixF c 40 4).toNat 0))).map fun z => z.2
theorem numb_snd (cs : List Cell) : (numb cs).map (fun z => z.2) = cs := by
  unfold numb
  rw [List.map_map]
  exact List.zipIdx_map_fst 0 cs
theorem pegsF_sub (c : Int) (cs : List Cell) : (pegsF c cs).Sublist cs := by
  unfold pegsF
  split
  · have h : (cs.take (mixF c 41 cs.length).toNat ++ cs.drop ((mixF c 41 cs.length).toNat + 1)).Sublist (cs.take (mixF c 41 cs.length).toNat ++ cs.drop (mixF c 41 cs.length).toNat) :=
      List.Sublist.append (List.Sublist.refl _) (by rw [← List.drop_drop]; exact List.drop_sublist 1 _)
    rw [List.take_append_drop] at h
    exact h
  · have h := (List.filter_sublist (l := numb cs) (p := keptN c (wayTab.getD (mixF c 40 4).toNat 0))).map fun z => z.2
    rw [numb_snd] at h
    exact h
theorem pegsF_stand (c : Int) {cs : List Cell} (hr : risingF cs = true) : standF cs (pegsF c cs) = true := standF_sub (pegsF_sub c cs) hr
abbrev T__law_pegs_by := {x : Int × List Cell // 1 ≤ x.2.length ∧ x.2.length ≤ 1000}
def a__law_pegs_by (_ : Ad) (x : T__law_pegs_by) : List Sl := [.py (.int x.1.1), .py (csD x.1.2)]
def o__law_pegs_by (_ : Ad) (x : T__law_pegs_by) : Out := .ret (.own (.lst ((pegsF x.1.1 x.1.2).map cD)))
theorem ok__law_pegs_by {f : Addr} {fd : FuncData} (T : Txt Z P w mg) {f__law_mix : Addr} {fd__law_mix : FuncData} (G__law_mix : Df P w Z.K mg base "_law_mix" ["cell", "k", "many"] 1 (spO Z.C (a__law_mix Z) (o__law_mix Z)) f__law_mix fd__law_mix) (F : L2.Fun Z.K "_law_pegs_by" "_law_pegs_by" s__law_pegs_by f fd) : FnOk P w Z.K mg base (L2.CX P w) 2 f fd ["cell", "cells"] (spO Z.C (a__law_pegs_by Z) (o__law_pegs_by Z)) := by
  refine fn_ok F sc__law_pegs_by (fun _ => rfl) fun cdv A outer s H E hr => ⟨_, (pss_cons (ps_set (i := 2) sc__law_pegs_by.nd rfl (by first | exact Or.inl rfl | exact Or.inr rfl) (pe_callS G__law_mix.ok (hr.mono (by decide)) (by rfl) G__law_mix.g G__law_mix.kp G__law_mix.b (fun σ => passAt (takes_of rfl rfl rfl rfl) σ) (pa_cons (pv 0) (pa_cons pe_int (pa_cons pe_int pa_nil)))))
      (pss_cons (ps_if (pt_cmpR op_eq (pv 2) pe_int (nomark _))
        (pss_cons (ps_set (i := 3) sc__law_pegs_by.nd rfl (by first | exact Or.inl rfl | exact Or.inr rfl) (pe_callS G__law_mix.ok (hr.mono (by decide)) (by rfl) G__law_mix.g G__law_mix.kp G__law_mix.b (fun σ => passAt (takes_of rfl rfl rfl rfl) σ) (pa_cons (pv 0) (pa_cons pe_int (pa_cons (pe_callB c_len (by rfl) T.len (by decide +kernel) (pa_cons (pv 1) pa_nil)) pa_nil)))))
        (pss_one (ps_ret (pe_op op_cat (pe_slice sl_list (pv 1) po_none (po_some (pv 3))) (pe_slice sl_list (pv 1) (po_some (pe_op op_add (pv 3) pe_int)) po_none)))))
        pss_nil)
      (pss_one (ps_ret (pe_lc (own := [("k", 4), ("one", 5)]) (by rfl) sc__law_pegs_by.nd (pi_enum (by rfl) T.enumerate (pa_cons (pv 1) pa_nil)) (blkOk_by (own := [("k", 4), ("one", 5)]) (N := nm__law_pegs_by) (sc := defScope s__law_pegs_by) (by decide +kernel)) (fun _ _ _ _ _ => (pg_tupK (K := Z.K) rfl (n := 2) (by rfl) (pgs_cons (pg_name (i := 4) sc__law_pegs_by.nd rfl (by first | exact Or.inl rfl | exact Or.inr rfl)) (pgs_cons (pg_name (i := 5) sc__law_pegs_by.nd rfl (by first | exact Or.inl rfl | exact Or.inr rfl)) pgs_nil)))) (fun _ _ _ _ _ => (pts_one (pt_cmpR op_gt (pe_call G__law_mix.ok (hr.mono (by decide)) (by rfl) G__law_mix.g G__law_mix.kp G__law_mix.b .nil passL (pa_cons (pv 0) (pa_cons (pv 4) (pa_cons (pe_ix (ix_listK (K := Z.K) rfl) (pe_lst (pa_cons pe_int (pa_cons pe_int (pa_cons pe_int (pa_cons pe_int pa_nil))))) (pv 2) (fun _ _ => rfl)) pa_nil)))) pe_int (nomark _)))) (fun _ _ _ _ _ => (pv 5))))))), ?_⟩
  rintro ⟨⟨c, cs⟩, hz⟩ G hE
  have h1 : 1 ≤ cs.length := hz.1
  have h2 : cs.length ≤ 1000 := hz.2
  show Run Z.C G H [.py (.int c), .py (csD cs), .no, .no, .no, .no] _ _
  have hw := mixF_bd c 40 (show (0 : Int) < 4 by decide)
  refine s_asg (.py (.int (mixF c 40 4))) (e_callS (mx c 40 4 (by decide) (by decide)) (a_cons (e_v 0 rfl) (a_cons e_int (a_cons e_int a_nil))) rfl) ?_
  refine s_if (t_test (e_eqI (e_v 2 rfl) e_int)) (fun hb => ?_) (fun hb => ?_)
  · have h0 : mixF c 40 4 = 0 := of_decide_eq_true hb
    have hg := mixF_bd c 41 (show (0 : Int) < (cs.length : Int) by omega)
    have hlen : ((cs.map cD).length : Int) = (cs.length : Int) := by rw [List.length_map]
    refine s_asg (.py (.int (mixF c 41 cs.length))) ((e_callS (mx c 41 (cs.length : Int) (by decide) (by omega)) (a_cons (e_v 0 rfl) (a_cons e_int (a_cons ((e_len (l_v 1 rfl)).to (by rw [hlen])) a_nil))) rfl)) ?_
    have hn : (((mixF c 41 cs.length).toNat : Nat) : Int) = mixF c 41 cs.length := Int.toNat_of_nonneg hg.1
    have e1 : EvS Z.C [.py (.int c), .py (csD cs), .py (.int (mixF c 40 4)), .py (.int (mixF c 41 cs.length)), .no, .no] (tSl (rSlL Z.K) (tVar 1) tNoPart (tPart (tVar 3))) (.own (.lst ((cs.take (mixF c 41 cs.length).toNat).map cD))) := (e_cut (l_v 1 rfl) o_none (o_some (e_v 3 rfl))).to (by
      rw [HT.sIx_none, ← hn, HT.sIx_nat, List.drop_zero, Nat.sub_zero, ← List.map_take, List.length_map, ← List.take_eq_take_min, Int.toNat_natCast])
    have e2 : EvS Z.C [.py (.int c), .py (csD cs), .py (.int (mixF c 40 4)), .py (.int (mixF c 41 cs.length)), .no, .no] (tSl (rSlL Z.K) (tVar 1) (tPart (tOp (rI0 fun i j => .int (i + j)) (tVar 3) (tC (.int 1)))) tNoPart) (.own (.lst ((cs.drop ((mixF c 41 cs.length).toNat + 1)).map cD))) := (e_cut (l_v 1 rfl) (o_some (e_add (e_v 3 rfl) e_int)) o_none).to (by
      have e3 : mixF c 41 cs.length + 1 = (((mixF c 41 cs.length).toNat + 1 : Nat) : Int) := by omega
      rw [HT.sIx_none, e3, HT.sIx_nat, List.length_map, ← List.map_drop, ← List.map_take]
      congr 3
      have e4 : min ((mixF c 41 cs.length).toNat + 1) cs.length = (mixF c 41 cs.length).toNat + 1 := by omega
      rw [e4]
      exact List.take_of_length_le (by rw [List.length_drop]; omega))
    refine r_ret (e_cat (l_new e1) (l_new e2) ?_) ?_
    · rw [List.length_map, List.length_map, List.length_take, List.length_drop]
      omega
    · show Out.ret _ = Out.ret _
      rw [← List.map_append]
      unfold pegsF
      rw [if_pos h0]
  · have h0 : ¬ mixF c 40 4 = 0 := of_decide_eq_false hb
    have hn : (((mixF c 40 4).toNat : Nat) : Int) = mixF c 40 4 := Int.toNat_of_nonneg hw.1
    have hl : (mixF c 40 4).toNat < wayTab.length := by show _ < 4; omega
    have hm : 0 < wayTab.getD (mixF c 40 4).toNat 0 := by
      have : (mixF c 40 4).toNat = 1 ∨ (mixF c 40 4).toNat = 2 ∨ (mixF c 40 4).toNat = 3 := by omega
      rcases this with e | e | e <;> rw [e] <;> decide
    have hat : wayTab[(mixF c 40 4).toNat]? = some (wayTab.getD (mixF c 40 4).toNat 0) := by rw [List.getD_eq_getElem?_getD, List.getElem?_eq_getElem hl]; rfl
    refine r_next (r_ret (e_lcE (xs := cs) (f := cD) (p := keptN c (wayTab.getD (mixF c 40 4).toNat 0)) (h := fun z => cD z.2) (e_v 1 rfl) (by omega) fun i x hx => ⟨_, c_2 (by decide), ?_, fun _ => e_v 5 rfl⟩) ?_)
    · have hi : i < cs.length := (List.getElem?_eq_some_iff.mp hx).1
      refine t_test (e_gt (e_call (mx c i (wayTab.getD (mixF c 40 4).toNat 0) (by omega) hm) (a_cons (e_v 0 rfl) (a_cons (e_v 4 rfl) (a_cons (e_ixL (l_new (e_lst (ds := wayTab.map .int) (p_cons e_int (p_cons e_int (p_cons e_int (p_cons e_int p_nil)))) (by simp [wayTab]))) (e_v 2 rfl) (at_m (mixF c 40 4).toNat hn.symm hat)) a_nil))) rfl) e_int)
    · show Out.ret _ = Out.ret _
      unfold pegsF
      rw [if_neg h0, List.map_map]
      rfl

abbrev s__law_between : Stmt := topS 36
abbrev nm__law_between : List Str := ["leap"]
theorem sc__law_between : FnScope nm__law_between ["leap"] (defScope s__law_between) := ⟨rfl, rfl, rfl, by decide +kernel, rfl, by decide +kernel, by decide +kernel⟩
abbrev T__law_between := Leap
def a__law_between (_ : Ad) (l : T__law_between) : List Sl := [.py (lD l)]
def o__law_between (_ : Ad) (l : T__law_between) : Out := .ret (.py (cD (betw l)))
theorem ok__law_between {f : Addr} {fd : FuncData} (T : Txt Z P w mg)  (F : L2.Fun Z.K "_law_between" "_law_between" s__law_between f fd) : FnOk P w Z.K mg base (L2.CX P w) 1 f fd ["leap"] (spO Z.C (a__law_between Z) (o__law_between Z)) := by
  refine fn_ok F sc__law_between (fun _ => rfl) fun cdv A outer s H E hr => ⟨_, (pss_one (ps_ret (pe_tup (pa_cons (pe_op op_fdiv (pe_op op_add (pe_ix ix_tup (pe_ix ix_tup (pv 0) pe_int (fun _ _ => rfl)) pe_int (fun _ _ => rfl)) (pe_ix ix_tup (pe_ix ix_tup (pv 0) pe_int (fun _ _ => rfl)) pe_int (fun _ _ => rfl))) pe_int) (pa_cons (pe_op op_fdiv (pe_op op_add (pe_ix ix_tup (pe_ix ix_tup (pv 0) pe_int (fun _ _ => rfl)) pe_int (fun _ _ => rfl)) (pe_ix ix_tup (pe_ix ix_tup (pv 0) pe_int (fun _ _ => rfl)) pe_int (fun _ _ => rfl))) pe_int) pa_nil))))), ?_⟩
  rintro l G hE
  show Run Z.C G H [.py (lD l)] _ _
  refine r_ret (e_tup (p_cons (e_div (e_add (e_ix0 (e_ix0 (e_v 0 rfl))) (e_ix0 (e_ix1 (e_v 0 rfl)))) e_int (by decide)) (p_cons (e_div (e_add (e_ix1 (e_ix0 (e_v 0 rfl))) (e_ix1 (e_ix1 (e_v 0 rfl)))) e_int (by decide)) p_nil))) ?_
  rfl

abbrev s__law_leaps : Stmt := topS 37
abbrev nm__law_leaps : List Str := ["cells", "found", "one", "two", "apart"]
theorem sc__law_leaps : FnScope nm__law_leaps ["cells"] (defScope s__law_leaps) := ⟨rfl, rfl, rfl, by decide +kernel, rfl, by decide +kernel, by decide +kernel⟩
abbrev T__law_leaps := {cs : List Cell // cs.length ≤ 100 ∧ risingF cs = true}
def a__law_leaps (_ : Ad) (x : T__law_leaps) : List Sl := [.py (csD x.1)]
def o__law_leaps (_ : Ad) (x : T__law_leaps) : Out := .ret (.own (.lst ((leapsF x.1).map lD)))
theorem ok__law_leaps {f : Addr} {fd : FuncData} (T : Txt Z P w mg) {f__law_between : Addr} {fd__law_between : FuncData} (G__law_between : Df P w Z.K mg base "_law_between" ["leap"] 1 (spO Z.C (a__law_between Z) (o__law_between Z)) f__law_between fd__law_between) (F : L2.Fun Z.K "_law_leaps" "_law_leaps" s__law_leaps f fd) : FnOk P w Z.K mg base (L2.CX P w) 2 f fd ["cells"] (spO Z.C (a__law_leaps Z) (o__law_leaps Z)) := by
  refine fn_ok F sc__law_leaps (fun _ => rfl) fun cdv A outer s H E hr => ⟨_, (pss_cons (ps_set (i := 1) sc__law_leaps.nd rfl (by first | exact Or.inl rfl | exact Or.inr rfl) (pe_lst pa_nil))
      (pss_cons (ps_for (passes_of rfl) rfl (pi_list (pv 0)) (pg_name (i := 2) sc__law_leaps.nd rfl (by first | exact Or.inl rfl | exact Or.inr rfl))
        (pss_one (ps_for (passes_of rfl) rfl (pi_list (pv 0)) (pg_name (i := 3) sc__law_leaps.nd rfl (by first | exact Or.inl rfl | exact Or.inr rfl))
          (pss_cons (ps_set (i := 4) sc__law_leaps.nd rfl (by first | exact Or.inl rfl | exact Or.inr rfl) (pe_callB (c_sortD hr.units) (by rfl) T.sorted (by decide +kernel) (pa_cons (pe_lst (pa_cons (pe_callB c_abs (by rfl) T.abs (by decide +kernel) (pa_cons (pe_op op_sub (pe_ix ix_tup (pv 2) pe_int (fun _ _ => rfl)) (pe_ix ix_tup (pv 3) pe_int (fun _ _ => rfl))) pa_nil)) (pa_cons (pe_callB c_abs (by rfl) T.abs (by decide +kernel) (pa_cons (pe_op op_sub (pe_ix ix_tup (pv 2) pe_int (fun _ _ => rfl)) (pe_ix ix_tup (pv 3) pe_int (fun _ _ => rfl))) pa_nil)) pa_nil))) pa_nil)))
          (pss_one (ps_if (PW.pt (pw_and (pt_cmpR (op_eqD hr.units) (pv 4) (pe_lst (pa_cons pe_int (pa_cons pe_int pa_nil))) (nomark _)) (pw_and1 (pt_cmpR (op_inD (hu65 hr)) (pe_callS G__law_between.ok (hr.mono (by decide)) (by rfl) G__law_between.g G__law_between.kp G__law_between.b (fun σ => passAt (takes_of rfl rfl rfl rfl) σ) (pa_cons (pe_tup (pa_cons (pv 2) (pa_cons (pv 3) pa_nil))) pa_nil)) (pv 0) (by rfl)))))
            (pss_one (ps_expr (pe_bm PySem.F.plainAttrs_list PySem.F.slot_list_append PySem.F.type_list_append mt_append (pv 1) (pa_cons (pe_tup (pa_cons (pv 2) (pa_cons (pv 3) pa_nil))) pa_nil))))
            pss_nil))))))
      (pss_one (ps_ret (pe_callB (c_sortD hr.units) (by rfl) T.sorted (by decide +kernel) (pa_cons (pv 1) pa_nil)))))), ?_⟩
  rintro ⟨cs, hz, hr'⟩ G hE
  have hz' : cs.length ≤ 100 := hz
  show Run Z.C G H [.py (csD cs), .no, .no, .no, .no] _ _
  refine s_asg (.own (.lst [])) (e_lst p_nil) ?_
  have bound : ∀ i, ((cs.take i).flatMap (pairsAt cs)).length ≤ 10000 := fun i => by
    refine Nat.le_trans (flatMap_len (pairsAt_len cs) _) (Nat.le_trans (Nat.mul_le_mul hz' (by rw [List.length_take]; exact Nat.min_le_right _ _)) (Nat.mul_le_mul_left 100 hz'))
  refine s_cutI (fun γ => γ[1]? = some (.own (.lst ((cs.flatMap (pairsAt cs)).map lD)))) ?_ ?_
  · refine r_for (ds := cs.map cD) (e_v 0 rfl) (fun i γ => ∃ s2 s3 s4, γ = [.py (csD cs), .own (.lst (((cs.take i).flatMap (pairsAt cs)).map lD)), s2, s3, s4]) ⟨_, _, _, rfl⟩ ?_ ?_
    · rintro i d γ1 hd ⟨s2, s3, s4, rfl⟩
      rw [List.getElem?_map] at hd
      cases ec : cs[i]? with
      | none =>
        rw [ec] at hd
        cases hd
      | some c =>
        rw [ec] at hd
        cases hd
        refine ⟨_, g_n, ?_⟩
        refine r_for (ds := cs.map cD) (e_v 0 rfl) (fun j γ => ∃ s3 s4, γ = [.py (csD cs), .own (.lst (((cs.take i).flatMap (pairsAt cs) ++ ((cs.take j).filter (pairOk cs c)).map fun two => (c, two)).map lD)), .py (cD c), s3, s4]) ⟨_, _, by rw [List.take_zero, List.filter_nil, List.map_nil, List.append_nil]; rfl⟩ ?_ ?_
        · rintro j d γ1 hd ⟨s3, s4, rfl⟩
          rw [List.getElem?_map] at hd
          cases et : cs[j]? with
          | none =>
            rw [et] at hd
            cases hd
          | some t =>
            rw [et] at hd
            cases hd
            refine ⟨_, g_n, ?_⟩
            refine s_asg (.py (isD (srt (fun a b : Int => decide (a < b)) [absI (c.1 - t.1), absI (c.2 - t.2)]))) (e_frz (e_sort (xs := [absI (c.1 - t.1), absI (c.2 - t.2)]) o_int (l_new (e_lst (p_cons (e_abs (e_sub (e_ix0 (e_v 2 rfl)) (e_ix0 (e_v 3 rfl)))) (p_cons (e_abs (e_sub (e_ix1 (e_v 2 rfl)) (e_ix1 (e_v 3 rfl)))) p_nil)))) (by simp) (.inr fun x _ r => by simp))) ?_
            refine r_if (b := pairOk cs c t) (t_and (t_test (e_eq (x := srt (fun a b : Int => decide (a < b)) [absI (c.1 - t.1), absI (c.2 - t.2)]) (y := [(0 : Int), 2]) q_is (e_v 4 rfl) (e_frz (e_lst (p_cons e_int (p_cons e_int p_nil)))))) fun _ => t_test (e_in q_c (e_callS ((c, t) : T__law_between) (a_cons (e_tup (p_cons (e_v 2 rfl) (p_cons (e_v 3 rfl) p_nil))) a_nil) rfl) (l_v 0 rfl))) (fun hb => ?_) (fun hb => ?_)
            · refine r_app 1 rfl (e_tup (p_cons (e_v 2 rfl) (p_cons (e_v 3 rfl) p_nil))) ?_ ?_
              · have b1 := bound i
                have b2 := List.length_filter_le (pairOk cs c) (cs.take j)
                rw [List.length_take] at b2
                rw [List.length_map, List.length_append, List.length_map]
                omega
              · refine ⟨.py (cD t), .py (isD (srt (fun a b : Int => decide (a < b)) [absI (c.1 - t.1), absI (c.2 - t.2)])), ?_⟩
                rw [filter_take et, if_pos hb]
                simp only [List.map_append, List.append_assoc, List.map_cons, List.map_nil]
                rfl
            · refine r_next ⟨.py (cD t), .py (isD (srt (fun a b : Int => decide (a < b)) [absI (c.1 - t.1), absI (c.2 - t.2)])), ?_⟩
              rw [filter_take et, if_neg (by rw [hb]; exact Bool.false_ne_true), List.append_nil]
              rfl
        · rintro γ1 ⟨s3, s4, rfl⟩
          refine ⟨.py (cD c), s3, s4, ?_⟩
          rw [List.length_map, List.take_length, flatMap_take ec]
          rfl
    · rintro γ1 ⟨s2, s3, s4, rfl⟩
      rw [List.length_map, List.take_length]
      rfl
  · rintro γ1 h1
    refine r_ret (e_sort (xs := cs.flatMap (pairsAt cs)) o_l (l_own 1 h1) ?_ (.inl fun x _ => ⟨_, _, rfl⟩)) ?_
    · have b1 := bound cs.length
      rw [List.take_length] at b1
      omega
    · show Out.ret _ = Out.ret _
      rw [← pairs_srt hr']

abbrev s__law_open : Stmt := topS 38
abbrev nm__law_open : List Str := ["cells", "pegs", "found", "one", "two"]
theorem sc__law_open : FnScope nm__law_open ["cells", "pegs"] (defScope s__law_open) := ⟨rfl, rfl, rfl, by decide +kernel, rfl, by decide +kernel, by decide +kernel⟩
abbrev T__law_open := {x : List Cell × List Cell // x.1.length ≤ 100 ∧ risingF x.1 = true}
def a__law_open (_ : Ad) (x : T__law_open) : List Sl := [.py (csD x.1.1), .py (csD x.1.2)]
def o__law_open (_ : Ad) (x : T__law_open) : Out := .ret (.own (.lst ((openF x.1.1 x.1.2).map lD)))
theorem ok__law_open {f : Addr} {fd : FuncData} (T : Txt Z P w mg) {f__law_leaps : Addr} {fd__law_leaps : FuncData} (G__law_leaps : Df P w Z.K mg base "_law_leaps" ["cells"] 2 (spO Z.C (a__law_leaps Z) (o__law_leaps Z)) f__law_leaps fd__law_leaps) {f__law_between : Addr} {fd__law_between : FuncData} (G__law_between : Df P w Z.K mg base "_law_between" ["leap"] 1 (spO Z.C (a__law_between Z) (o__law_between Z)) f__law_between fd__law_between) (F : L2.Fun Z.K "_law_open" "_law_open" s__law_open f fd) : FnOk P w Z.K mg base (L2.CX P w) 3 f fd ["cells", "pegs"] (spO Z.C (a__law_open Z) (o__law_open Z)) := by
  refine fn_ok F sc__law_open (fun _ => rfl) fun cdv A outer s H E hr => ⟨_, (pss_cons (ps_set (i := 2) sc__law_open.nd rfl (by first | exact Or.inl rfl | exact Or.inr rfl) (pe_lst pa_nil))
      (pss_cons (ps_for (passes_of rfl) rfl (pi_list (pe_callS G__law_leaps.ok (hr.mono (by decide)) (by rfl) G__law_leaps.g G__law_leaps.kp G__law_leaps.b (fun σ => passAt (takes_of rfl rfl rfl rfl) σ) (pa_cons (pv 0) pa_nil))) (pg_tup (n := 2) (by rfl) (pgs_cons (pg_name (i := 3) sc__law_open.nd rfl (by first | exact Or.inl rfl | exact Or.inr rfl)) (pgs_cons (pg_name (i := 4) sc__law_open.nd rfl (by first | exact Or.inl rfl | exact Or.inr rfl)) pgs_nil)))
        (pss_one (ps_if (PW.pt (pw_and (pt_cmpR (op_inD (hu65 hr)) (pv 3) (pv 1) (by rfl)) (pw_and (pt_cmpR (op_inD (hu65 hr)) (pe_callS G__law_between.ok (hr.mono (by decide)) (by rfl) G__law_between.g G__law_between.kp G__law_between.b (fun σ => passAt (takes_of rfl rfl rfl rfl) σ) (pa_cons (pe_tup (pa_cons (pv 3) (pa_cons (pv 4) pa_nil))) pa_nil)) (pv 1) (by rfl)) (pw_and1 (pt_cmpR (op_notInD (hu65 hr)) (pv 4) (pv 1) (by rfl))))))
          (pss_one (ps_expr (pe_bm PySem.F.plainAttrs_list PySem.F.slot_list_append PySem.F.type_list_append mt_append (pv 2) (pa_cons (pe_tup (pa_cons (pv 3) (pa_cons (pv 4) pa_nil))) pa_nil))))
          pss_nil)))
      (pss_one (ps_ret (pv 2))))), ?_⟩
  rintro ⟨⟨cs, pegs⟩, hz, hr'⟩ G hE
  have hz' : cs.length ≤ 100 := hz
  show Run Z.C G H [.py (csD cs), .py (csD pegs), .no, .no, .no] _ _
  refine s_asg (.own (.lst [])) (e_lst p_nil) ?_
  have hlen := leapsF_len cs
  refine r_seq (r_for (ds := (leapsF cs).map lD) (e_frz (e_callS (⟨cs, hz, hr'⟩ : T__law_leaps) (a_cons (e_v 0 rfl) a_nil) rfl)) (fun i γ => ∃ s3 s4, γ = [.py (csD cs), .py (csD pegs), .own (.lst ((((leapsF cs).take i).filter (canF cs pegs)).map lD)), s3, s4]) ⟨_, _, rfl⟩ ?_ ?_)
  · rintro i d γ1 hd ⟨s3, s4, rfl⟩
    rw [List.getElem?_map] at hd
    cases el : (leapsF cs)[i]? with
    | none =>
      rw [el] at hd
      cases hd
    | some l =>
      rw [el] at hd
      cases hd
      refine ⟨_, g_2, ?_⟩
      refine r_if (b := canF cs pegs l) ((t_and (t_test (e_in q_c (e_v 3 rfl) (l_v 1 rfl))) fun _ => t_and (t_test (e_in q_c (e_callS (l : T__law_between) (a_cons (e_tup (p_cons (e_v 3 rfl) (p_cons (e_v 4 rfl) p_nil))) a_nil) rfl) (l_v 1 rfl))) fun _ => t_test (e_nin q_c (e_v 4 rfl) (l_v 1 rfl))).to (canF_of (List.mem_of_getElem? el)).symm) (fun hb => ?_) (fun hb => ?_)
      · refine r_app 2 rfl (e_tup (p_cons (e_v 3 rfl) (p_cons (e_v 4 rfl) p_nil))) ?_ ⟨.py (cD l.1), .py (cD l.2), ?_⟩
        · rw [List.length_map]
          refine Nat.lt_of_le_of_lt (List.length_filter_le _ _) ?_
          rw [List.length_take]
          omega
        · rw [filter_take el, if_pos hb]
          simp only [List.map_append, List.map_cons, List.map_nil]
          rfl
      · refine r_next ⟨.py (cD l.1), .py (cD l.2), ?_⟩
        rw [filter_take el, if_neg (by rw [hb]; exact Bool.false_ne_true), List.append_nil]
        rfl
  · rintro γ1 ⟨s3, s4, rfl⟩
    refine r_retO 2 rfl ?_
    show Out.ret _ = Out.ret _
    rw [List.length_map, List.take_length]
    rfl

abbrev s__law_behind : Stmt := topS 39
abbrev nm__law_behind : List Str := ["pegs", "leap", "left", "one"]
theorem sc__law_behind : FnScope nm__law_behind ["pegs", "leap"] (defScope s__law_behind) := ⟨rfl, rfl, rfl, by decide +kernel, rfl, by decide +kernel, by decide +kernel⟩
theorem left_two (pegs : List Cell) (l : Leap) : pegs.filter (fun c => !decide (c = l.1) && !decide (c = betw l)) = leftF pegs l := by
  unfold leftF
  refine List.filter_congr fun c _ => ?_
  by_cases h1 : c = l.1 <;> by_cases h2 : c = betw l <;> simp [memB, h1, h2]
abbrev T__law_behind := {x : List Cell × Leap // x.1.length ≤ 1000}
def a__law_behind (_ : Ad) (x : T__law_behind) : List Sl := [.py (csD x.1.1), .py (lD x.1.2)]
def o__law_behind (_ : Ad) (x : T__law_behind) : Out := .ret (.own (.lst ((doneF x.1.1 x.1.2).map cD)))
theorem ok__law_behind {f : Addr} {fd : FuncData} (T : Txt Z P w mg) {f__law_between : Addr} {fd__law_between : FuncData} (G__law_between : Df P w Z.K mg base "_law_between" ["leap"] 1 (spO Z.C (a__law_between Z) (o__law_between Z)) f__law_between fd__law_between) (F : L2.Fun Z.K "_law_behind" "_law_behind" s__law_behind f fd) : FnOk P w Z.K mg base (L2.CX P w) 2 f fd ["pegs", "leap"] (spO Z.C (a__law_behind Z) (o__law_behind Z)) := by
  refine fn_ok F sc__law_behind (fun _ => rfl) fun cdv A outer s H E hr => ⟨_, (pss_cons (ps_setLc (i := 2) (own := [("one", 3)]) (by rfl) sc__law_behind.nd rfl rfl (sw_true rfl rfl rfl (by decide +kernel)) (pi_list (pv 0)) (blkOk_by (own := [("one", 3)]) (N := nm__law_behind) (sc := defScope s__law_behind) (by decide +kernel)) (fun _ _ _ _ _ => (pg_name (i := 3) sc__law_behind.nd rfl (by first | exact Or.inl rfl | exact Or.inr rfl))) (fun _ _ _ _ _ => (pts_one (PW.pt (pw_and (pt_cmpR (op_neDK (K := Z.K) rfl hr.units) (pv 3) (pe_ix (ix_tupK (K := Z.K) rfl) (pv 1) pe_int (fun _ _ => rfl)) (nomark _)) (pw_and1 (pt_cmpR (op_neDK (K := Z.K) rfl hr.units) (pv 3) (pe_call G__law_between.ok (hr.mono (by decide)) (by rfl) G__law_between.g G__law_between.kp G__law_between.b .nil passL (pa_cons (pv 1) pa_nil)) (nomark _))))))) (fun _ _ _ _ _ => (pv 3)))
      (pss_one (ps_ret (pe_callB (c_sortD hr.units) (by rfl) T.sorted (by decide +kernel) (pa_cons (pe_op op_cat (pv 2) (pe_lst (pa_cons (pe_ix ix_tup (pv 1) pe_int (fun _ _ => rfl)) pa_nil))) pa_nil))))), ?_⟩
  rintro ⟨⟨pegs, l⟩, hz⟩ G hE
  have hz' : pegs.length ≤ 1000 := hz
  show Run Z.C G H [.py (csD pegs), .py (lD l), .no, .no] _ _
  refine s_asg (.own (.lst ((leftF pegs l).map cD))) ((e_lcF (xs := pegs) (f := cD) (p := fun c => !decide (c = l.1) && !decide (c = betw l)) (e_v 0 rfl) (by omega) fun c _ => ⟨_, c_n, t_and (t_test (e_ne q_c (e_v 3 rfl) (e_ix0 (e_v 1 rfl)))) fun _ => t_test (e_ne q_c (e_v 3 rfl) (e_call (l : T__law_between) (a_cons (e_v 1 rfl) a_nil) rfl)), fun _ => e_v 3 rfl⟩).to (by rw [left_two])) ?_
  have hl : (leftF pegs l).length ≤ pegs.length := List.length_filter_le _ _
  refine r_ret (e_sort (xs := leftF pegs l ++ [l.2]) o_c (l_new ((e_cat (l_own 2 rfl) (l_new (e_lst (p_cons (e_ix1 (e_v 1 rfl)) p_nil))) (by rw [List.length_map]; show _ + 1 ≤ _; omega)).to (by rw [List.map_append]; rfl))) (by rw [List.length_append]; show _ + 1 ≤ _; omega) (.inl fun x _ => ⟨_, _, rfl⟩)) ?_
  rfl

abbrev s__law_class : Stmt := topS 41
abbrev nm__law_class : List Str := ["pegs", "found", "sign", "colours", "r", "c", "x"]
theorem sc__law_class : FnScope nm__law_class ["pegs"] (defScope s__law_class) := ⟨rfl, rfl, rfl, by decide +kernel, rfl, by decide +kernel, by decide +kernel⟩
abbrev T__law_class := {x : List Cell // x.length ≤ 1000}
def a__law_class (_ : Ad) (x : T__law_class) : List Sl := [.py (csD x.1)]
def o__law_class (_ : Ad) (x : T__law_class) : Out := .ret (.py (itD (classF x.1)))
theorem ok__law_class {f : Addr} {fd : FuncData} (T : Txt Z P w mg)  (F : L2.Fun Z.K "_law_class" "_law_class" s__law_class f fd) : FnOk P w Z.K mg base (L2.CX P w) 1 f fd ["pegs"] (spO Z.C (a__law_class Z) (o__law_class Z)) := by
  refine fn_ok F sc__law_class (fun _ => rfl) fun cdv A outer s H E hr => ⟨_, (pss_cons (ps_set (i := 1) sc__law_class.nd rfl (by first | exact Or.inl rfl | exact Or.inr rfl) (pe_lst pa_nil))
      (pss_cons (ps_for (passes_of rfl) rfl (pi_list (pe_lst (pa_cons pe_int (pa_cons (pe_un un_neg pe_int) pa_nil)))) (pg_name (i := 2) sc__law_class.nd rfl (by first | exact Or.inl rfl | exact Or.inr rfl))
        (pss_cons (ps_setLc (i := 3) (own := [("r", 4), ("c", 5)]) (by rfl) sc__law_class.nd rfl rfl (sw_true rfl rfl rfl (by decide +kernel)) (pi_list (pv 0)) (blkOk_by (own := [("r", 4), ("c", 5)]) (N := nm__law_class) (sc := defScope s__law_class) (by decide +kernel)) (fun _ _ _ _ _ => (pg_tupK (K := Z.K) rfl (n := 2) (by rfl) (pgs_cons (pg_name (i := 4) sc__law_class.nd rfl (by first | exact Or.inl rfl | exact Or.inr rfl)) (pgs_cons (pg_name (i := 5) sc__law_class.nd rfl (by first | exact Or.inl rfl | exact Or.inr rfl)) pgs_nil)))) (fun _ _ _ _ _ => pts_nil) (fun _ _ _ _ _ => (pe_op op_mod (pe_op op_add (pv 4) (pe_op op_mul (pv 2) (pv 5))) pe_int)))
        (pss_cons (ps_expr (pe_bm PySem.F.plainAttrs_list PySem.F.slot_list_append PySem.F.type_list_append mt_append (pv 1) (pa_cons (pe_op op_mod (pe_callB c_len (by rfl) T.len (by decide +kernel) (pa_cons (pe_lc (own := [("x", 6)]) (by rfl) sc__law_class.nd (pi_list (pv 3)) (blkOk_by (own := [("x", 6)]) (N := nm__law_class) (sc := defScope s__law_class) (by decide +kernel)) (fun _ _ _ _ _ => (pg_name (i := 6) sc__law_class.nd rfl (by first | exact Or.inl rfl | exact Or.inr rfl))) (fun _ _ _ _ _ => (pts_one (pt_cmpR op_lt (pv 6) pe_int (nomark _)))) (fun _ _ _ _ _ => (pv 6))) pa_nil)) pe_int) pa_nil)))
        (pss_one (ps_expr (pe_bm PySem.F.plainAttrs_list PySem.F.slot_list_append PySem.F.type_list_append mt_append (pv 1) (pa_cons (pe_op op_mod (pe_callB c_len (by rfl) T.len (by decide +kernel) (pa_cons (pe_lc (own := [("x", 6)]) (by rfl) sc__law_class.nd (pi_list (pv 3)) (blkOk_by (own := [("x", 6)]) (N := nm__law_class) (sc := defScope s__law_class) (by decide +kernel)) (fun _ _ _ _ _ => (pg_name (i := 6) sc__law_class.nd rfl (by first | exact Or.inl rfl | exact Or.inr rfl))) (fun _ _ _ _ _ => (pts_one (pt_cmpR op_gt (pv 6) pe_int (nomark _)))) (fun _ _ _ _ _ => (pv 6))) pa_nil)) pe_int) pa_nil)))))))
      (pss_one (ps_ret (pe_callTy c_tuple (by rfl) T.tuple (by decide +kernel) (pa_cons (pv 1) pa_nil)))))), ?_⟩
  rintro ⟨pegs, hz⟩ G hE
  have hz' : pegs.length ≤ 1000 := hz
  show Run Z.C G H [.py (csD pegs), .no, .no, .no, .no, .no, .no] _ _
  refine s_asg (.own (.lst [])) (e_lst p_nil) ?_
  refine s_cutI (fun γ => γ[1]? = some (.own (.lst ((classF pegs).map .int)))) ?_ ?_
  · refine r_for (ds := [(1 : Int), -1].map .int) (e_frz (e_lst (p_cons e_int (p_cons (e_neg e_int) p_nil)))) (fun i γ => ∃ s3 s4 s5 s6 s7, γ = [.py (csD pegs), .own (.lst ((([(1 : Int), -1].take i).flatMap (clsF pegs)).map .int)), s3, s4, s5, s6, s7]) ⟨_, _, _, _, _, rfl⟩ ?_ ?_
    · rintro i d γ1 hd ⟨s3, s4, s5, s6, s7, rfl⟩
      rw [List.getElem?_map] at hd
      cases ec : [(1 : Int), -1][i]? with
      | none =>
        rw [ec] at hd
        cases hd
      | some s =>
        rw [ec] at hd
        cases hd
        have hs1 : s = 1 ∨ s = -1 := by simpa using List.mem_of_getElem? ec
        refine ⟨_, g_n, ?_⟩
        refine s_asg (.py (isD (colF s pegs))) (e_frz ((e_lc1 (xs := pegs) (f := cD) (h := fun c => .int ((c.1 + s * c.2) % 3)) (e_v 0 rfl) (by omega) fun c _ => ⟨_, c_2 (by decide), e_mod (e_add (e_v 4 rfl) (e_mul (e_v 2 rfl) (e_v 5 rfl) (.inl (by rcases hs1 with e | e <;> rw [e] <;> decide)))) e_int (by decide)⟩).to (by unfold colF; rw [List.map_map]; rfl))) ?_
        have hl : (([(1 : Int), -1].take i).flatMap (clsF pegs)).length ≤ 4 := by
          refine Nat.le_trans (flatMap_len (f := clsF pegs) (n := 2) (fun s => Nat.le_refl 2) _) ?_
          rw [List.length_take]
          show 2 * min i 2 ≤ 4
          omega
        have hlc : (colF s pegs).length < 1000000 := by
          unfold colF
          rw [List.length_map]
          omega
        have h3 := colF_three s pegs
        refine s_app 1 rfl (e_mod (e_len (l_new (e_lcF (xs := colF s pegs) (f := .int) (p := fun x => decide (x < 2)) (e_v 3 rfl) hlc fun x _ => ⟨_, c_n, t_test (e_lt (e_v 6 rfl) e_int), fun _ => e_v 6 rfl⟩))) e_int (by decide)) (by rw [List.length_map]; omega) ?_
        refine r_app 1 rfl (e_mod (e_len (l_new (e_lcF (xs := colF s pegs) (f := .int) (p := fun x => decide (0 < x)) (e_v 3 rfl) hlc fun x _ => ⟨_, c_n, t_test (e_gt (e_v 6 rfl) e_int), fun _ => e_v 6 rfl⟩))) e_int (by decide)) (by rw [List.length_append, List.length_map]; show _ + 1 < _; omega) ?_
        refine ⟨.py (.int s), .py (isD (colF s pegs)), s5, s6, s7, ?_⟩
        rw [flatMap_take ec, List.length_map, List.length_map, count_lo h3, count_hi h3]
        rw [List.map_append]
        simp only [List.append_assoc]
        rfl
    · rintro γ1 ⟨s3, s4, s5, s6, s7, rfl⟩
      rfl
  · rintro γ1 h1
    refine r_ret (e_tuple (l_own 1 h1)) ?_
    rfl

abbrev s__law_weights_by : Stmt := topS 42
abbrev nm__law_weights_by : List Str := ["cell", "cells", "most", "less", "k"]
theorem sc__law_weights_by : FnScope nm__law_weights_by ["cell", "cells"] (defScope s__law_weights_by) := ⟨rfl, rfl, rfl, by decide +kernel, rfl, by decide +kernel, by decide +kernel⟩
def wbTab : List Cell := [(2, 0), (5, 1), (41, 10), (2001, 1000)]
def wbC (c : Int) : Cell := wbTab.getD (mixF c 30 4).toNat (1, 0)
def wbF (c : Int) (n : Nat) : List Int := (List.range n).map fun k => mixF c (2 * k) (wbC c).1 - (wbC c).2
theorem wbC_pos (c : Int) : 0 < (wbC c).1 ∧ (wbC c).1 ≤ 2001 ∧ 0 ≤ (wbC c).2 ∧ (wbC c).2 ≤ 1000 ∧ (wbC c).1 - (wbC c).2 ≤ 1001 := by
  have hb := mixF_bd c 30 (show (0 : Int) < 4 by decide)
  unfold wbC
  have : (mixF c 30 4).toNat = 0 ∨ (mixF c 30 4).toNat = 1 ∨ (mixF c 30 4).toNat = 2 ∨ (mixF c 30 4).toNat = 3 := by omega
  rcases this with e | e | e | e <;> rw [e] <;> decide
theorem wbF_len (c : Int) (n : Nat) : (wbF c n).length = n := by
  unfold wbF
  rw [List.length_map, List.length_range]
theorem wbF_bd (c : Int) (n : Nat) : ∀ x, x ∈ wbF c n → -1000 ≤ x ∧ x ≤ 1000 := fun x hx => by
  obtain ⟨k, _, rfl⟩ := List.mem_map.mp hx
  have h := wbC_pos c
  have h1 := mixF_bd c (2 * k) h.1
  omega
abbrev T__law_weights_by := {x : Int × List Cell // x.2.length ≤ 1000}
def a__law_weights_by (_ : Ad) (x : T__law_weights_by) : List Sl := [.py (.int x.1.1), .py (csD x.1.2)]
def o__law_weights_by (_ : Ad) (x : T__law_weights_by) : Out := .ret (.own (.lst ((wbF x.1.1 x.1.2.length).map .int)))
theorem ok__law_weights_by {f : Addr} {fd : FuncData} (T : Txt Z P w mg) {f__law_mix : Addr} {fd__law_mix : FuncData} (G__law_mix : Df P w Z.K mg base "_law_mix" ["cell", "k", "many"] 1 (spO Z.C (a__law_mix Z) (o__law_mix Z)) f__law_mix fd__law_mix) (F : L2.Fun Z.K "_law_weights_by" "_law_weights_by" s__law_weights_by f fd) : FnOk P w Z.K mg base (L2.CX P w) 2 f fd ["cell", "cells"] (spO Z.C (a__law_weights_by Z) (o__law_weights_by Z)) := by
  refine fn_ok F sc__law_weights_by (fun _ => rfl) fun cdv A outer s H E hr => ⟨_, (pss_cons (ps_asg (pe_ix ix_list (pe_lst (pa_cons (pe_tup (pa_cons pe_int (pa_cons pe_int pa_nil))) (pa_cons (pe_tup (pa_cons pe_int (pa_cons pe_int pa_nil))) (pa_cons (pe_tup (pa_cons pe_int (pa_cons pe_int pa_nil))) (pa_cons (pe_tup (pa_cons pe_int (pa_cons pe_int pa_nil))) pa_nil))))) (pe_callS G__law_mix.ok (hr.mono (by decide)) (by rfl) G__law_mix.g G__law_mix.kp G__law_mix.b (fun σ => passAt (takes_of rfl rfl rfl rfl) σ) (pa_cons (pv 0) (pa_cons pe_int (pa_cons pe_int pa_nil)))) (fun _ _ => rfl)) (pg_tup (n := 2) (by rfl) (pgs_cons (pg_name (i := 2) sc__law_weights_by.nd rfl (by first | exact Or.inl rfl | exact Or.inr rfl)) (pgs_cons (pg_name (i := 3) sc__law_weights_by.nd rfl (by first | exact Or.inl rfl | exact Or.inr rfl)) pgs_nil))))
      (pss_one (ps_ret (pe_lc (own := [("k", 4)]) (by rfl) sc__law_weights_by.nd (pi_range1 (by rfl) T.range (pa_cons (pe_callB c_len (by rfl) T.len (by decide +kernel) (pa_cons (pv 1) pa_nil)) pa_nil)) (blkOk_by (own := [("k", 4)]) (N := nm__law_weights_by) (sc := defScope s__law_weights_by) (by decide +kernel)) (fun _ _ _ _ _ => (pg_name (i := 4) sc__law_weights_by.nd rfl (by first | exact Or.inl rfl | exact Or.inr rfl))) (fun _ _ _ _ _ => pts_nil) (fun _ _ _ _ _ => (pe_op op_sub (pe_call G__law_mix.ok (hr.mono (by decide)) (by rfl) G__law_mix.g G__law_mix.kp G__law_mix.b .nil passL (pa_cons (pv 0) (pa_cons (pe_op op_mul pe_int (pv 4)) (pa_cons (pv 2) pa_nil)))) (pv 3))))))), ?_⟩
  rintro ⟨⟨c, cs⟩, hz⟩ G hE
  have hz' : cs.length ≤ 1000 := hz
  have hb := mixF_bd c 30 (show (0 : Int) < 4 by decide)
  have hn : (((mixF c 30 4).toNat : Nat) : Int) = mixF c 30 4 := Int.toNat_of_nonneg hb.1
  have hl : (mixF c 30 4).toNat < wbTab.length := by show _ < 4; omega
  have hat : wbTab[(mixF c 30 4).toNat]? = some (wbC c) := by
    unfold wbC
    rw [List.getD_eq_getElem?_getD, List.getElem?_eq_getElem hl]
    rfl
  have hp := wbC_pos c
  show Run Z.C G H [.py (.int c), .py (csD cs), .no, .no, .no] _ _
  have t2 : ∀ {γ : Env} {a b : Int}, EvS Z.C γ (tTup (tCons (tC (.int a)) (tCons (tC (.int b)) tNil))) (.py (cD (a, b))) := fun {γ a b} => e_tup (p_cons e_int (p_cons e_int p_nil))
  refine s_asg2 (d := cD (wbC c)) (e_ixL (l_new (e_lst (ds := wbTab.map cD) (p_cons t2 (p_cons t2 (p_cons t2 (p_cons t2 p_nil)))) (by simp [wbTab]))) (e_callS (mx c 30 4 (by decide) (by decide)) (a_cons (e_v 0 rfl) (a_cons e_int (a_cons e_int a_nil))) rfl) (at_m (mixF c 30 4).toNat hn.symm hat)) g_2 ?_
  refine r_ret ((e_lcR (lo := 0) (n := cs.length) (p := fun _ => true) (h := fun k => .int (mixF c (2 * k) (wbC c).1 - (wbC c).2)) (fun G0 H0 G' H' σ R x q => w_r1 (n := (cs.length : Int)) (p_cons ((e_len (l_v 1 rfl)).to (by rw [List.length_map])) p_nil) (by omega) G' H' σ R x fun G2 H2 g => by
      rw [Int.toNat_natCast]
      exact q G2 H2 g) (by omega) fun i hi => ⟨_, c_n, t_yes, fun _ => e_sub (e_call (mx c (2 * i) (wbC c).1 (by omega) hp.1) (a_cons (e_v 0 rfl) (a_cons ((e_mul e_int (e_v 4 rfl) (.inl (by decide))).to (by rw [Int.zero_add]; rfl)) (a_cons (e_v 2 rfl) a_nil))) rfl) (e_v 3 rfl)⟩).to (by rw [List.filter_eq_self.mpr (fun _ _ => rfl)])) ?_
  show Out.ret _ = Out.ret _
  unfold wbF
  rw [List.map_map]
  rfl

abbrev s__law_raised : Stmt := topS 43
abbrev nm__law_raised : List Str := ["cells", "weights", "found", "turn", "one", "two", "a", "b", "c"]
theorem sc__law_raised : FnScope nm__law_raised ["cells", "weights"] (defScope s__law_raised) := ⟨rfl, rfl, rfl, by decide +kernel, rfl, by decide +kernel, by decide +kernel⟩
def stepR (cs : List Cell) (f : List Int) (l : Leap) : List Int := if wAt cs f l.1 + wAt cs f (betw l) < wAt cs f l.2 then f.set (idxC cs l.2) (wAt cs f l.1 + wAt cs f (betw l)) else f
def turnR (cs : List Cell) (f : List Int) : List Int := (leapsF cs).foldl (stepR cs) f
def raisedF (cs : List Cell) (ws : List Int) : List Int := (List.range cs.length).foldl (fun f _ => turnR cs f) ws
theorem stepR_len (cs : List Cell) (f : List Int) (l : Leap) : (stepR cs f l).length = f.length := by
  unfold stepR
  split
  · exact List.length_set
  · rfl
theorem foldR_len (cs : List Cell) : ∀ (ls : List Leap) (f : List Int), (ls.foldl (stepR cs) f).length = f.length
  | [], _ => rfl
  | l :: ls, f => (foldR_len cs ls (stepR cs f l)).trans (stepR_len cs f l)
theorem turnsR_len (cs : List Cell) : ∀ (r : List Nat) (ws : List Int), (r.foldl (fun f _ => turnR cs f) ws).length = ws.length
  | [], _ => rfl
  | _ :: r, ws => (turnsR_len cs r (turnR cs ws)).trans (foldR_len cs _ ws)
theorem raisedF_len (cs : List Cell) (ws : List Int) : (raisedF cs ws).length = ws.length := turnsR_len cs _ ws
abbrev T__law_raised := {x : List Cell × List Int // x.1.length ≤ 100 ∧ risingF x.1 = true ∧ x.2.length = x.1.length}
def a__law_raised (_ : Ad) (x : T__law_raised) : List Sl := [.py (csD x.1.1), .py (isD x.1.2)]
def o__law_raised (_ : Ad) (x : T__law_raised) : Out := .ret (.own (.lst ((raisedF x.1.1 x.1.2).map .int)))
theorem ok__law_raised {f : Addr} {fd : FuncData} (T : Txt Z P w mg) {f__law_leaps : Addr} {fd__law_leaps : FuncData} (G__law_leaps : Df P w Z.K mg base "_law_leaps" ["cells"] 2 (spO Z.C (a__law_leaps Z) (o__law_leaps Z)) f__law_leaps fd__law_leaps) {f__law_between : Addr} {fd__law_between : FuncData} (G__law_between : Df P w Z.K mg base "_law_between" ["leap"] 1 (spO Z.C (a__law_between Z) (o__law_between Z)) f__law_between fd__law_between) (F : L2.Fun Z.K "_law_raised" "_law_raised" s__law_raised f fd) : FnOk P w Z.K mg base (L2.CX P w) 3 f fd ["cells", "weights"] (spO Z.C (a__law_raised Z) (o__law_raised Z)) := by
  refine fn_ok F sc__law_raised (fun _ => rfl) fun cdv A outer s H E hr => ⟨_, (pss_cons (ps_set (i := 2) sc__law_raised.nd rfl (by first | exact Or.inl rfl | exact Or.inr rfl) (pe_callTy c_list (by rfl) T.list (by decide +kernel) (pa_cons (pv 1) pa_nil)))
      (pss_cons (ps_for (passes_of rfl) rfl (pi_range1 (by rfl) T.range (pa_cons (pe_callB c_len (by rfl) T.len (by decide +kernel) (pa_cons (pv 0) pa_nil)) pa_nil)) (pg_name (i := 3) sc__law_raised.nd rfl (by first | exact Or.inl rfl | exact Or.inr rfl))
        (pss_one (ps_for (passes_of rfl) rfl (pi_list (pe_callS G__law_leaps.ok (hr.mono (by decide)) (by rfl) G__law_leaps.g G__law_leaps.kp G__law_leaps.b (fun σ => passAt (takes_of rfl rfl rfl rfl) σ) (pa_cons (pv 0) pa_nil))) (pg_tup (n := 2) (by rfl) (pgs_cons (pg_name (i := 4) sc__law_raised.nd rfl (by first | exact Or.inl rfl | exact Or.inr rfl)) (pgs_cons (pg_name (i := 5) sc__law_raised.nd rfl (by first | exact Or.inl rfl | exact Or.inr rfl)) pgs_nil)))
          (pss_cons (ps_par3 (i := 6) (j := 7) (l := 8) (by rfl) sc__law_raised.nd rfl rfl rfl (by decide) (by decide) (by decide) rfl rfl rfl (pa_cons (pe_bm PySem.F.plainAttrs_list PySem.F.slot_list_index PySem.F.type_list_index (mt_indexD (hu65 hr)) (pv 0) (pa_cons (pv 4) pa_nil)) (pa_cons (pe_bm PySem.F.plainAttrs_list PySem.F.slot_list_index PySem.F.type_list_index (mt_indexD (hu65 hr)) (pv 0) (pa_cons (pe_callS G__law_between.ok (hr.mono (by decide)) (by rfl) G__law_between.g G__law_between.kp G__law_between.b (fun σ => passAt (takes_of rfl rfl rfl rfl) σ) (pa_cons (pe_tup (pa_cons (pv 4) (pa_cons (pv 5) pa_nil))) pa_nil)) pa_nil)) (pa_cons (pe_bm PySem.F.plainAttrs_list PySem.F.slot_list_index PySem.F.type_list_index (mt_indexD (hu65 hr)) (pv 0) (pa_cons (pv 5) pa_nil)) pa_nil))) (by rfl))
          (pss_one (ps_if (pt_cmpR op_lt (pe_op op_add (pe_ix ix_list (pv 2) (pv 6) (fun _ _ => rfl)) (pe_ix ix_list (pv 2) (pv 7) (fun _ _ => rfl))) (pe_ix ix_list (pv 2) (pv 8) (fun _ _ => rfl)) (nomark _))
            (pss_one (ps_asg (pe_op op_add (pe_ix ix_list (pv 2) (pv 6) (fun _ _ => rfl)) (pe_ix ix_list (pv 2) (pv 7) (fun _ _ => rfl))) (pg_sub (pv 2) (pv 8) set_list)))
            pss_nil))))))
      (pss_one (ps_ret (pv 2))))), ?_⟩
  rintro ⟨⟨cs, ws⟩, hz, hr', hlw⟩ G hE
  have hz' : cs.length ≤ 100 := hz
  have hlw' : ws.length = cs.length := hlw
  show Run Z.C G H [.py (csD cs), .py (isD ws), .no, .no, .no, .no, .no, .no, .no] _ _
  refine s_asg (.own (.lst (ws.map .int))) (e_list (l_v 1 rfl)) ?_
  refine r_seq (r_forR (lo := 0) (n := cs.length) (fun G' H' σ R x q => w_r1 (n := (cs.length : Int)) (p_cons ((e_len (l_v 0 rfl)).to (by rw [List.length_map])) p_nil) (by omega) G' H' σ R x fun G2 H2 g => by
      rw [Int.toNat_natCast]
      exact q G2 H2 g)
    (fun i γ => ∃ s3 s4 s5 s6 s7 s8, γ = [.py (csD cs), .py (isD ws), .own (.lst (((List.range i).foldl (fun f _ => turnR cs f) ws).map .int)), s3, s4, s5, s6, s7, s8]) ⟨_, _, _, _, _, _, rfl⟩ ?_ ?_)
  · rintro i γ1 hi ⟨s3, s4, s5, s6, s7, s8, rfl⟩
    refine ⟨_, g_n, ?_⟩
    have hfl := (turnsR_len cs (List.range i) ws).trans hlw'
    rw [List.range_succ, List.foldl_append]
    generalize (List.range i).foldl (fun f _ => turnR cs f) ws = f at hfl
    show Run Z.C G H _ _ { nx := fun γ => ∃ s3 s4 s5 s6 s7 s8, γ = [.py (csD cs), .py (isD ws), .own (.lst ((turnR cs f).map .int)), s3, s4, s5, s6, s7, s8], rt := _, bk := _, ct := _ }
    refine r_for (ds := (leapsF cs).map lD) (e_frz (e_callS (⟨cs, hz, hr'⟩ : T__law_leaps) (a_cons (e_v 0 rfl) a_nil) rfl)) (fun j γ => ∃ s3 s4 s5 s6 s7 s8, γ = [.py (csD cs), .py (isD ws), .own (.lst ((((leapsF cs).take j).foldl (stepR cs) f).map .int)), s3, s4, s5, s6, s7, s8]) ⟨_, _, _, _, _, _, rfl⟩ ?_ ?_
    · rintro j d γ1 hd ⟨s3, s4, s5, s6, s7, s8, rfl⟩
      rw [List.getElem?_map] at hd
      cases el : (leapsF cs)[j]? with
      | none =>
        rw [el] at hd
        cases hd
      | some l =>
        rw [el] at hd
        cases hd
        have hm := isLeapF_iff.mp (leapsF_mem.mp (List.mem_of_getElem? el))
        refine ⟨_, g_2, ?_⟩
        have hgl := (foldR_len cs ((leapsF cs).take j) f).trans hfl
        have hstep : ((leapsF cs).take (j + 1)).foldl (stepR cs) f = stepR cs (((leapsF cs).take j).foldl (stepR cs) f) l := by
          rw [List.take_add_one, el, Option.toList_some, List.foldl_append]
          rfl
        rw [hstep]
        generalize ((leapsF cs).take j).foldl (stepR cs) f = g at hgl
        have bt : EvS Z.C [.py (csD cs), .py (isD ws), .own (.lst (g.map .int)), s3, .py (cD l.1), .py (cD l.2), s6, s7, s8] (tCallS (spO Z.C (a__law_between Z) (o__law_between Z)) (WE fun cls d _ H => E cls d H) (tCons (tTup (tCons (tVar 4) (tCons (tVar 5) tNil))) tNil)) (.py (cD (betw l))) := e_callS (l : T__law_between) (a_cons (e_tup (p_cons (e_v 4 rfl) (p_cons (e_v 5 rfl) p_nil))) a_nil) rfl
        refine s_par3 (.int ((idxC cs l.1 : Nat) : Int)) (.int ((idxC cs (betw l) : Nat) : Int)) (.int ((idxC cs l.2 : Nat) : Int)) (p_cons (e_index q_c (l_v 0 rfl) (e_v 4 rfl) hm.2.1) (p_cons (e_index q_c (l_v 0 rfl) bt hm.2.2.2) (p_cons (e_index q_c (l_v 0 rfl) (e_v 5 rfl) hm.2.2.1) p_nil))) ?_
        refine r_if (t_test (e_lt (e_add (e_ixL (l_own 2 rfl) (e_v 6 rfl) (at_m (idxC cs l.1) rfl (wAt_get hm.2.1 hgl))) (e_ixL (l_own 2 rfl) (e_v 7 rfl) (at_m (idxC cs (betw l)) rfl (wAt_get hm.2.2.2 hgl)))) (e_ixL (l_own 2 rfl) (e_v 8 rfl) (at_m (idxC cs l.2) rfl (wAt_get hm.2.2.1 hgl))))) (fun hb => ?_) (fun hb => ?_)
        · refine r_put 2 rfl (e_add (e_ixL (l_own 2 rfl) (e_v 6 rfl) (at_m (idxC cs l.1) rfl (wAt_get hm.2.1 hgl))) (e_ixL (l_own 2 rfl) (e_v 7 rfl) (at_m (idxC cs (betw l)) rfl (wAt_get hm.2.2.2 hgl)))) (e_v 8 rfl) rfl (by rw [List.length_map, hgl]; exact idxC_lt hm.2.2.1) ⟨s3, .py (cD l.1), .py (cD l.2), .py (.int ((idxC cs l.1 : Nat) : Int)), .py (.int ((idxC cs (betw l) : Nat) : Int)), .py (.int ((idxC cs l.2 : Nat) : Int)), ?_⟩
          unfold stepR
          rw [if_pos (of_decide_eq_true hb), List.map_set]
          rfl
        · refine r_next ⟨s3, .py (cD l.1), .py (cD l.2), .py (.int ((idxC cs l.1 : Nat) : Int)), .py (.int ((idxC cs (betw l) : Nat) : Int)), .py (.int ((idxC cs l.2 : Nat) : Int)), ?_⟩
          unfold stepR
          rw [if_neg (of_decide_eq_false hb)]
          rfl
    · rintro γ1 ⟨s3, s4, s5, s6, s7, s8, rfl⟩
      refine ⟨s3, s4, s5, s6, s7, s8, ?_⟩
      rw [List.length_map, List.take_length]
      rfl
  · rintro γ1 ⟨s3, s4, s5, s6, s7, s8, rfl⟩
    exact r_retO 2 rfl rfl

abbrev s__law_fair : Stmt := topS 44
abbrev nm__law_fair : List Str := ["cells", "weights", "one", "two", "left"]
theorem sc__law_fair : FnScope nm__law_fair ["cells", "weights"] (defScope s__law_fair) := ⟨rfl, rfl, rfl, by decide +kernel, rfl, by decide +kernel, by decide +kernel⟩
abbrev T__law_fair := {x : List Cell × List Int // x.1.length ≤ 100 ∧ risingF x.1 = true ∧ x.2.length = x.1.length}
def a__law_fair (_ : Ad) (x : T__law_fair) : List Sl := [.py (csD x.1.1), .py (isD x.1.2)]
def o__law_fair (_ : Ad) (x : T__law_fair) : Out := .ret (.py (.bool (fairF x.1.1 x.1.2)))
theorem ok__law_fair {f : Addr} {fd : FuncData} (T : Txt Z P w mg) {f__law_leaps : Addr} {fd__law_leaps : FuncData} (G__law_leaps : Df P w Z.K mg base "_law_leaps" ["cells"] 2 (spO Z.C (a__law_leaps Z) (o__law_leaps Z)) f__law_leaps fd__law_leaps) {f__law_between : Addr} {fd__law_between : FuncData} (G__law_between : Df P w Z.K mg base "_law_between" ["leap"] 1 (spO Z.C (a__law_between Z) (o__law_between Z)) f__law_between fd__law_between) (F : L2.Fun Z.K "_law_fair" "_law_fair" s__law_fair f fd) : FnOk P w Z.K mg base (L2.CX P w) 3 f fd ["cells", "weights"] (spO Z.C (a__law_fair Z) (o__law_fair Z)) := by
  refine fn_ok F sc__law_fair (fun _ => rfl) fun cdv A outer s H E hr => ⟨_, (pss_cons (ps_for (passes_of rfl) rfl (pi_list (pe_callS G__law_leaps.ok (hr.mono (by decide)) (by rfl) G__law_leaps.g G__law_leaps.kp G__law_leaps.b (fun σ => passAt (takes_of rfl rfl rfl rfl) σ) (pa_cons (pv 0) pa_nil))) (pg_tup (n := 2) (by rfl) (pgs_cons (pg_name (i := 2) sc__law_fair.nd rfl (by first | exact Or.inl rfl | exact Or.inr rfl)) (pgs_cons (pg_name (i := 3) sc__law_fair.nd rfl (by first | exact Or.inl rfl | exact Or.inr rfl)) pgs_nil)))
        (pss_cons (ps_set (i := 4) sc__law_fair.nd rfl (by first | exact Or.inl rfl | exact Or.inr rfl) (pe_op op_add (pe_ix ix_list (pv 1) (pe_bm PySem.F.plainAttrs_list PySem.F.slot_list_index PySem.F.type_list_index (mt_indexD (hu65 hr)) (pv 0) (pa_cons (pv 2) pa_nil)) (fun _ _ => rfl)) (pe_ix ix_list (pv 1) (pe_bm PySem.F.plainAttrs_list PySem.F.slot_list_index PySem.F.type_list_index (mt_indexD (hu65 hr)) (pv 0) (pa_cons (pe_callS G__law_between.ok (hr.mono (by decide)) (by rfl) G__law_between.g G__law_between.kp G__law_between.b (fun σ => passAt (takes_of rfl rfl rfl rfl) σ) (pa_cons (pe_tup (pa_cons (pv 2) (pa_cons (pv 3) pa_nil))) pa_nil)) pa_nil)) (fun _ _ => rfl))))
        (pss_one (ps_if (pt_cmpR op_lt (pv 4) (pe_ix ix_list (pv 1) (pe_bm PySem.F.plainAttrs_list PySem.F.slot_list_index PySem.F.type_list_index (mt_indexD (hu65 hr)) (pv 0) (pa_cons (pv 3) pa_nil)) (fun _ _ => rfl)) (nomark _))
          (pss_one (ps_ret pe_bl))
          pss_nil))))
      (pss_one (ps_ret pe_bl))), ?_⟩
  rintro ⟨⟨cs, ws⟩, hz, hr', hlw⟩ G hE
  have hlw' : ws.length = cs.length := hlw
  show Run Z.C G H [.py (csD cs), .py (isD ws), .no, .no, .no] _ _
  refine r_seq (r_for (ds := (leapsF cs).map lD) (e_frz (e_callS (⟨cs, hz, hr'⟩ : T__law_leaps) (a_cons (e_v 0 rfl) a_nil) rfl)) (fun i γ => (∃ s2 s3 s4, γ = [.py (csD cs), .py (isD ws), s2, s3, s4]) ∧ ((leapsF cs).take i).all (fairL cs ws) = true) ⟨⟨_, _, _, rfl⟩, rfl⟩ ?_ ?_)
  · rintro i d γ1 hd ⟨⟨s2, s3, s4, rfl⟩, hp⟩
    rw [List.getElem?_map] at hd
    cases el : (leapsF cs)[i]? with
    | none =>
      rw [el] at hd
      cases hd
    | some l =>
      rw [el] at hd
      cases hd
      have hm := isLeapF_iff.mp (leapsF_mem.mp (List.mem_of_getElem? el))
      refine ⟨_, g_2, ?_⟩
      refine s_asg (.py (.int (wAt cs ws l.1 + wAt cs ws (betw l)))) (e_add (e_ixL (l_v 1 rfl) (e_index q_c (l_v 0 rfl) (e_v 2 rfl) hm.2.1) (at_m (idxC cs l.1) rfl (wAt_get hm.2.1 hlw'))) (e_ixL (l_v 1 rfl) (e_index q_c (l_v 0 rfl) (e_callS (l : T__law_between) (a_cons (e_tup (p_cons (e_v 2 rfl) (p_cons (e_v 3 rfl) p_nil))) a_nil) rfl) hm.2.2.2) (at_m (idxC cs (betw l)) rfl (wAt_get hm.2.2.2 hlw')))) ?_
      refine r_if (b := !fairL cs ws l) ((t_test (e_lt (e_v 4 rfl) (e_ixL (l_v 1 rfl) (e_index q_c (l_v 0 rfl) (e_v 3 rfl) hm.2.2.1) (at_m (idxC cs l.2) rfl (wAt_get hm.2.2.1 hlw'))))).to (by unfold fairL; rw [Bool.not_not])) (fun hb => ?_) (fun hb => ?_)
      · refine r_ret e_bl ?_
        show Out.ret _ = Out.ret _
        have : fairF cs ws = false := List.all_eq_false.mpr ⟨l, List.mem_of_getElem? el, by rw [nb_t hb]; exact Bool.false_ne_true⟩
        rw [this]
      · refine r_next ⟨⟨.py (cD l.1), .py (cD l.2), _, rfl⟩, ?_⟩
        rw [List.take_add_one, el, Option.toList_some, List.all_append, hp, List.all_cons, nb_f hb]
        rfl
  · rintro γ1 ⟨⟨s2, s3, s4, rfl⟩, hp⟩
    rw [List.length_map, List.take_length] at hp
    refine r_ret e_bl ?_
    show Out.ret _ = Out.ret _
    rw [show fairF cs ws = true from hp]

abbrev s__law_weight : Stmt := topS 45
abbrev nm__law_weight : List Str := ["cells", "weights", "pegs", "one"]
theorem sc__law_weight : FnScope nm__law_weight ["cells", "weights", "pegs"] (defScope s__law_weight) := ⟨rfl, rfl, rfl, by decide +kernel, rfl, by decide +kernel, by decide +kernel⟩
abbrev T__law_weight := {x : (List Cell × List Int) × List Cell // x.1.2.length = x.1.1.length ∧ x.2.length ≤ 1000 ∧ ∀ c, c ∈ x.2 → c ∈ x.1.1}
def a__law_weight (_ : Ad) (x : T__law_weight) : List Sl := [.py (csD x.1.1.1), .py (isD x.1.1.2), .py (csD x.1.2)]
def o__law_weight (_ : Ad) (x : T__law_weight) : Out := .ret (.py (.int (weightF x.1.1.1 x.1.1.2 x.1.2)))
theorem ok__law_weight {f : Addr} {fd : FuncData} (T : Txt Z P w mg)  (F : L2.Fun Z.K "_law_weight" "_law_weight" s__law_weight f fd) : FnOk P w Z.K mg base (L2.CX P w) 1 f fd ["cells", "weights", "pegs"] (spO Z.C (a__law_weight Z) (o__law_weight Z)) := by
  refine fn_ok F sc__law_weight (fun _ => rfl) fun cdv A outer s H E hr => ⟨_, (pss_one (ps_ret (pe_callB (cr_sum rfl) (by rfl) T.sum (by decide +kernel) (pa_cons (pe_lc (own := [("one", 3)]) (by rfl) sc__law_weight.nd (pi_list (pv 2)) (blkOk_by (own := [("one", 3)]) (N := nm__law_weight) (sc := defScope s__law_weight) (by decide +kernel)) (fun _ _ _ _ _ => (pg_name (i := 3) sc__law_weight.nd rfl (by first | exact Or.inl rfl | exact Or.inr rfl))) (fun _ _ _ _ _ => pts_nil) (fun _ _ _ _ _ => (pe_ix (ix_listK (K := Z.K) rfl) (pv 1) (pe_bmK (K := Z.K) rfl PySem.F.plainAttrs_list PySem.F.slot_list_index PySem.F.type_list_index (mt_indexDK (K := Z.K) rfl (hu65 hr)) (pv 0) (pa_cons (pv 3) pa_nil)) (fun _ _ => rfl)))) pa_nil)))), ?_⟩
  rintro ⟨⟨⟨cs, ws⟩, pegs⟩, hl, hz, hm⟩ G hE
  have hz' : pegs.length ≤ 1000 := hz
  show Run Z.C G H [.py (csD cs), .py (isD ws), .py (csD pegs), .no] _ _
  refine r_ret (e_sumP (xs := pegs) (p := wAt cs ws) (l_new (e_lc1 (xs := pegs) (f := cD) (e_v 2 rfl) (by omega) fun c hc => ⟨_, c_n, e_ixL (l_v 1 rfl) (e_index q_c (l_v 0 rfl) (e_v 3 rfl) (hm c hc)) (at_m (idxC cs c) rfl (wAt_get (hm c hc) hl))⟩))) ?_
  rfl

abbrev s__law_reach : Stmt := topS 40
abbrev nm__law_reach : List Str := ["cells", "pegs", "found", "at", "leap", "behind"]
theorem sc__law_reach : FnScope nm__law_reach ["cells", "pegs"] (defScope s__law_reach) := ⟨rfl, rfl, rfl, by decide +kernel, rfl, by decide +kernel, by decide +kernel⟩
abbrev T__law_reach := {x : List Cell × List Cell // x.1.length ≤ 12 ∧ risingF x.1 = true ∧ standF x.1 x.2 = true}
def a__law_reach (_ : Ad) (x : T__law_reach) : List Sl := [.py (csD x.1.1), .py (csD x.1.2)]
def o__law_reach (_ : Ad) (x : T__law_reach) : Out := .ret (.own (.lst ((reachL x.1.1 x.1.2).map csD)))
theorem ok__law_reach {f : Addr} {fd : FuncData} (T : Txt Z P w mg) {f__law_open : Addr} {fd__law_open : FuncData} (G__law_open : Df P w Z.K mg base "_law_open" ["cells", "pegs"] 3 (spO Z.C (a__law_open Z) (o__law_open Z)) f__law_open fd__law_open) {f__law_behind : Addr} {fd__law_behind : FuncData} (G__law_behind : Df P w Z.K mg base "_law_behind" ["pegs", "leap"] 2 (spO Z.C (a__law_behind Z) (o__law_behind Z)) f__law_behind fd__law_behind) (F : L2.Fun Z.K "_law_reach" "_law_reach" s__law_reach f fd) : FnOk P w Z.K mg base (L2.CX P w) 4 f fd ["cells", "pegs"] (spO Z.C (a__law_reach Z) (o__law_reach Z)) := by
  refine fn_ok F sc__law_reach (fun _ => rfl) fun cdv A outer s H E hr => ⟨_, (pss_cons (ps_set (i := 2) sc__law_reach.nd rfl (by first | exact Or.inl rfl | exact Or.inr rfl) (pe_lst (pa_cons (pe_callTy c_list (by rfl) T.list (by decide +kernel) (pa_cons (pv 1) pa_nil)) pa_nil)))
      (pss_cons (ps_set (i := 3) sc__law_reach.nd rfl (by first | exact Or.inl rfl | exact Or.inr rfl) pe_int)
      (pss_cons (ps_while (passes_of rfl) (pt_cmpR op_lt (pv 3) (pe_callB c_len (by rfl) T.len (by decide +kernel) (pa_cons (pv 2) pa_nil)) (nomark _))
        (pss_cons (ps_for (passes_of rfl) rfl (pi_list (pe_callS G__law_open.ok (hr.mono (by decide)) (by rfl) G__law_open.g G__law_open.kp G__law_open.b (fun σ => passAt (takes_of rfl rfl rfl rfl) σ) (pa_cons (pv 0) (pa_cons (pe_ix ix_list (pv 2) (pv 3) (fun _ _ => rfl)) pa_nil)))) (pg_name (i := 4) sc__law_reach.nd rfl (by first | exact Or.inl rfl | exact Or.inr rfl))
          (pss_cons (ps_set (i := 5) sc__law_reach.nd rfl (by first | exact Or.inl rfl | exact Or.inr rfl) (pe_callS G__law_behind.ok (hr.mono (by decide)) (by rfl) G__law_behind.g G__law_behind.kp G__law_behind.b (fun σ => passAt (takes_of rfl rfl rfl rfl) σ) (pa_cons (pe_ix ix_list (pv 2) (pv 3) (fun _ _ => rfl)) (pa_cons (pv 4) pa_nil))))
          (pss_one (ps_if (pt_cmpR (op_notInD (hu65 hr)) (pv 5) (pv 2) (by rfl))
            (pss_one (ps_expr (pe_bm PySem.F.plainAttrs_list PySem.F.slot_list_append PySem.F.type_list_append mt_append (pv 2) (pa_cons (pv 5) pa_nil))))
            pss_nil))))
        (pss_one (ps_set (i := 3) sc__law_reach.nd rfl (by first | exact Or.inl rfl | exact Or.inr rfl) (pe_op op_add (pv 3) pe_int)))))
      (pss_one (ps_ret (pv 2)))))), ?_⟩
  rintro ⟨⟨cs, pegs⟩, h12, hr, hst⟩ G hE
  have h12' : cs.length ≤ 12 := h12
  have hr' : risingF cs = true := hr
  have hst' : standF cs pegs = true := hst
  have hp12 := pow_12 h12'
  show Run Z.C G H [.py (csD cs), .py (csD pegs), .no, .no, .no, .no] _ _
  refine s_asg (.own (.lst ([pegs].map csD))) (e_lst (p_cons (e_frz (e_list (l_v 1 rfl))) p_nil)) ?_
  refine s_asg (.py (.int ((0 : Nat) : Int))) e_int ?_
  refine s_cutI (fun γ => γ[2]? = some (.own (.lst ((reachL cs pegs).map csD)))) ?_ ?_
  · refine r_while (fun m γ => ∃ (found : List (List Cell)) (i : Nat) (s4 s5 : Sl), γ = [.py (csD cs), .py (csD pegs), .own (.lst (found.map csD)), .py (.int (i : Int)), s4, s5] ∧ BfsOk cs pegs found i ∧ bfs cs m found i = reachL cs pegs ∧ 2 ^ cs.length + 1 ≤ m + i) (2 ^ cs.length + 1) ⟨[pegs], 0, _, _, rfl, bfsOk_one cs pegs, rfl, by omega⟩ ?_
    rintro m γ1 ⟨found, i, s4, s5, rfl, hb, hF, hm⟩
    have hcount := hb.count hr' hst'
    have hle := hb.le
    refine ⟨_, t_test (e_lt (e_v 3 rfl) ((e_len (l_own 2 rfl)).to (by rw [List.length_map]))), fun q => ?_, fun q => ?_⟩
    · have hi : i < found.length := by
        have := of_decide_eq_true q
        omega
      obtain ⟨n, rfl⟩ : ∃ n, m = n + 1 := by
        cases m with
        | zero => omega
        | succ n => exact ⟨n, rfl⟩
      obtain ⟨s, hs⟩ : ∃ s, found[i]? = some s := ⟨_, List.getElem?_eq_getElem hi⟩
      have hss := hb.stand hst' s (List.mem_of_getElem? hs)
      have hsl := stand_len hss
      have hstep := hb.step hi
      have hsc := hstep.count hr' hst'
      have eS : bfsS cs found i = (behindL cs s).foldl addK found := by
        unfold bfsS
        rw [List.getD_eq_getElem?_getD, hs]
        rfl
      refine s_cutI (fun γ => ∃ s4 s5, γ = [.py (csD cs), .py (csD pegs), .own (.lst ((bfsS cs found i).map csD)), .py (.int (i : Int)), s4, s5]) ?_ ?_
      · refine r_for (ds := (openF cs s).map lD) (e_frz (e_callS (⟨(cs, s), by dsimp only; omega, hr⟩ : T__law_open) (a_cons (e_v 0 rfl) (a_cons (e_ixL (l_own 2 rfl) (e_v 3 rfl) (at_m i rfl hs)) a_nil)) rfl)) (fun j γ => ∃ s4 s5, γ = [.py (csD cs), .py (csD pegs), .own (.lst ((((behindL cs s).take j).foldl addK found).map csD)), .py (.int (i : Int)), s4, s5]) ⟨_, _, rfl⟩ ?_ ?_
        · rintro j d γ1 hd ⟨s4, s5, rfl⟩
          rw [List.getElem?_map] at hd
          cases el : (openF cs s)[j]? with
          | none =>
            rw [el] at hd
            cases hd
          | some l =>
            rw [el] at hd
            cases hd
            have eb : (behindL cs s)[j]? = some (doneF s l) := by
              unfold behindL
              rw [List.getElem?_map, el]
              rfl
            have hs2 : (((behindL cs s).take j).foldl addK found)[i]? = some s := by rw [foldK_get _ hi, hs]
            have en : ((behindL cs s).take (j + 1)).foldl addK found = addK (((behindL cs s).take j).foldl addK found) (doneF s l) := by
              rw [List.take_add_one, eb, Option.toList_some, List.foldl_append]
              rfl
            have hlen : (((behindL cs s).take j).foldl addK found).length ≤ 4096 := by
              have h1 := foldK_len ((behindL cs s).drop j) (xs := ((behindL cs s).take j).foldl addK found)
              rw [← List.foldl_append, List.take_append_drop, ← eS] at h1
              omega
            refine ⟨_, g_n, ?_⟩
            rw [en]
            generalize ((behindL cs s).take j).foldl addK found = fj at hs2 hlen
            refine s_asg (.py (csD (doneF s l))) (e_frz (e_callS (⟨(s, l), by dsimp only; omega⟩ : T__law_behind) (a_cons (e_ixL (l_own 2 rfl) (e_v 3 rfl) (at_m i rfl hs2)) (a_cons (e_v 4 rfl) a_nil)) rfl)) ?_
            refine r_if (t_test (e_nin q_cs (e_v 5 rfl) (l_own 2 rfl))) (fun hb => ?_) (fun hb => ?_)
            · refine r_app 2 rfl (e_v 5 rfl) (by rw [List.length_map]; omega) ⟨.py (lD l), .py (csD (doneF s l)), ?_⟩
              unfold addK
              rw [if_neg (memB_no.mp (nb_t hb)), List.map_append]
              rfl
            · refine r_next ⟨.py (lD l), .py (csD (doneF s l)), ?_⟩
              unfold addK
              rw [if_pos (memB_iff.mp (nb_f hb))]
              rfl
        · rintro γ1 ⟨s4, s5, rfl⟩
          refine ⟨s4, s5, ?_⟩
          have e1 : ((openF cs s).map lD).length = (behindL cs s).length := by
            unfold behindL
            rw [List.length_map, List.length_map]
          rw [e1, List.take_length, eS]
      · rintro γ1 ⟨s4, s5, rfl⟩
        refine r_asg (e_add (e_v 3 rfl) e_int) ⟨n, Nat.lt_succ_self n, bfsS cs found i, i + 1, s4, s5, rfl, hstep, ?_, by omega⟩
        rw [← hF]
        exact (if_pos hi).symm
    · have hi : ¬ i < found.length := by
        have := of_decide_eq_false q
        omega
      have e : bfs cs m found i = found := by
        cases m with
        | zero => rfl
        | succ m => exact if_neg hi
      show _ = _
      rw [← hF, e]
      rfl
  · rintro γ1 h2
    exact r_retO 2 h2 rfl

abbrev s__law_holds : Stmt := topS 46
abbrev nm__law_holds : List Str := ["cells", "pegs", "others", "paper", "standing", "one", "leap", "numbers"]
theorem sc__law_holds : FnScope nm__law_holds ["cells", "pegs", "others", "paper"] (defScope s__law_holds) := ⟨rfl, rfl, rfl, by decide +kernel, rfl, by decide +kernel, by decide +kernel⟩
abbrev T__law_holds := {x : List Cell × List Cell × List Cell × Ppr // (1 ≤ x.1.length ∧ x.1.length ≤ 100 ∧ risingF x.1 = true) ∧ standF x.1 x.2.1 = true ∧ standF x.1 x.2.2.1 = true ∧ pprOk x.2.2.2}
def a__law_holds (_ : Ad) (x : T__law_holds) : List Sl := [.py (csD x.1.1), .py (csD x.1.2.1), .py (csD x.1.2.2.1), .py (pprD x.1.2.2.2)]
def o__law_holds (_ : Ad) (x : T__law_holds) : Out := .ret (.py (.bool (holdsF x.1.1 x.1.2.1 x.1.2.2.1 x.1.2.2.2)))
theorem ok__law_holds {f : Addr} {fd : FuncData} (T : Txt Z P w mg) {f__law_fair : Addr} {fd__law_fair : FuncData} (G__law_fair : Df P w Z.K mg base "_law_fair" ["cells", "weights"] 3 (spO Z.C (a__law_fair Z) (o__law_fair Z)) f__law_fair fd__law_fair) {f__law_weight : Addr} {fd__law_weight : FuncData} (G__law_weight : Df P w Z.K mg base "_law_weight" ["cells", "weights", "pegs"] 1 (spO Z.C (a__law_weight Z) (o__law_weight Z)) f__law_weight fd__law_weight) {f__law_class : Addr} {fd__law_class : FuncData} (G__law_class : Df P w Z.K mg base "_law_class" ["pegs"] 1 (spO Z.C (a__law_class Z) (o__law_class Z)) f__law_class fd__law_class) {f__law_open : Addr} {fd__law_open : FuncData} (G__law_open : Df P w Z.K mg base "_law_open" ["cells", "pegs"] 3 (spO Z.C (a__law_open Z) (o__law_open Z)) f__law_open fd__law_open) {f__law_behind : Addr} {fd__law_behind : FuncData} (G__law_behind : Df P w Z.K mg base "_law_behind" ["pegs", "leap"] 2 (spO Z.C (a__law_behind Z) (o__law_behind Z)) f__law_behind fd__law_behind) (F : L2.Fun Z.K "_law_holds" "_law_holds" s__law_holds f fd) : FnOk P w Z.K mg base (L2.CX P w) 4 f fd ["cells", "pegs", "others", "paper"] (spO Z.C (a__law_holds Z) (o__law_holds Z)) := by
  refine fn_ok F sc__law_holds (fun _ => rfl) fun cdv A outer s H E hr => ⟨_, (pss_cons (ps_if (pt_cmpR op_eq (pe_ix ix_tup (pv 3) pe_int (fun _ _ => rfl)) pe_str (nomark _))
        (pss_one (ps_ret (pe_cmpR (op_neD hr.units) (pe_callS G__law_class.ok (hr.mono (by decide)) (by rfl) G__law_class.g G__law_class.kp G__law_class.b (fun σ => passAt (takes_of rfl rfl rfl rfl) σ) (pa_cons (pv 1) pa_nil)) (pe_callS G__law_class.ok (hr.mono (by decide)) (by rfl) G__law_class.g G__law_class.kp G__law_class.b (fun σ => passAt (takes_of rfl rfl rfl rfl) σ) (pa_cons (pv 2) pa_nil)) (nomark _))))
        pss_nil)
      (pss_cons (ps_if (pt_cmpR op_eq (pe_ix ix_tup (pv 3) pe_int (fun _ _ => rfl)) pe_str (nomark _))
        (pss_cons (ps_if (PW.pt (pw_or (pt_cmpR (op_notInD (hu65 hr)) (pv 1) (pe_ix ix_tup (pv 3) pe_int (fun _ _ => rfl)) (by rfl)) (pw_or1 (pt_cmpR (op_inD (hu65 hr)) (pv 2) (pe_ix ix_tup (pv 3) pe_int (fun _ _ => rfl)) (by rfl)))))
          (pss_one (ps_ret pe_bl))
          pss_nil)
        (pss_cons (ps_for (passes_of rfl) rfl (pi_list (pe_ix ix_tup (pv 3) pe_int (fun _ _ => rfl))) (pg_name (i := 4) sc__law_holds.nd rfl (by first | exact Or.inl rfl | exact Or.inr rfl))
          (pss_cons (ps_if (pt_cmpR (op_neD hr.units) (pv 4) (pe_lc (own := [("one", 5)]) (by rfl) sc__law_holds.nd (pi_list (pv 0)) (blkOk_by (own := [("one", 5)]) (N := nm__law_holds) (sc := defScope s__law_holds) (by decide +kernel)) (fun _ _ _ _ _ => (pg_name (i := 5) sc__law_holds.nd rfl (by first | exact Or.inl rfl | exact Or.inr rfl))) (fun _ _ _ _ _ => (pts_one (pt_cmpR (op_inDK (K := Z.K) rfl (hu65 hr)) (pv 5) (pv 4) (by rfl)))) (fun _ _ _ _ _ => (pv 5))) (nomark _))
            (pss_one (ps_ret pe_bl))
            pss_nil)
          (pss_one (ps_for (passes_of rfl) rfl (pi_list (pe_callS G__law_open.ok (hr.mono (by decide)) (by rfl) G__law_open.g G__law_open.kp G__law_open.b (fun σ => passAt (takes_of rfl rfl rfl rfl) σ) (pa_cons (pv 0) (pa_cons (pv 4) pa_nil)))) (pg_name (i := 6) sc__law_holds.nd rfl (by first | exact Or.inl rfl | exact Or.inr rfl))
            (pss_one (ps_if (pt_cmpR (op_notInD (hu65 hr)) (pe_callS G__law_behind.ok (hr.mono (by decide)) (by rfl) G__law_behind.g G__law_behind.kp G__law_behind.b (fun σ => passAt (takes_of rfl rfl rfl rfl) σ) (pa_cons (pv 4) (pa_cons (pv 6) pa_nil))) (pe_ix ix_tup (pv 3) pe_int (fun _ _ => rfl)) (by rfl))
              (pss_one (ps_ret pe_bl))
              pss_nil))))))
        (pss_one (ps_ret pe_bl))))
        pss_nil)
      (pss_cons (ps_set (i := 7) sc__law_holds.nd rfl (by first | exact Or.inl rfl | exact Or.inr rfl) (pe_ix ix_tup (pv 3) pe_int (fun _ _ => rfl)))
      (pss_cons (ps_if (PW.pt (pw_or (pt_cmpR op_ne (pe_callB c_len (by rfl) T.len (by decide +kernel) (pa_cons (pv 7) pa_nil)) (pe_callB c_len (by rfl) T.len (by decide +kernel) (pa_cons (pv 0) pa_nil)) (nomark _)) (pw_or (pt_cmpR op_lt (pe_callB (cr_min rfl) (by rfl) T.min (by decide +kernel) (pa_cons (pv 7) pa_nil)) (pe_un un_neg pe_int) (nomark _)) (pw_or1 (pt_cmpR op_gt (pe_callB (cr_max rfl) (by rfl) T.max (by decide +kernel) (pa_cons (pv 7) pa_nil)) pe_int (nomark _))))))
        (pss_one (ps_ret pe_bl))
        pss_nil)
      (pss_cons (ps_if (pt_not (pt_val (pe_callS G__law_fair.ok (hr.mono (by decide)) (by rfl) G__law_fair.g G__law_fair.kp G__law_fair.b (fun σ => passAt (takes_of rfl rfl rfl rfl) σ) (pa_cons (pv 0) (pa_cons (pv 7) pa_nil)))))
        (pss_one (ps_ret pe_bl))
        pss_nil)
      (pss_one (ps_ret (pe_cmpR op_lt (pe_callS G__law_weight.ok (hr.mono (by decide)) (by rfl) G__law_weight.g G__law_weight.kp G__law_weight.b (fun σ => passAt (takes_of rfl rfl rfl rfl) σ) (pa_cons (pv 0) (pa_cons (pv 7) (pa_cons (pv 1) pa_nil)))) (pe_callS G__law_weight.ok (hr.mono (by decide)) (by rfl) G__law_weight.g G__law_weight.kp G__law_weight.b (fun σ => passAt (takes_of rfl rfl rfl rfl) σ) (pa_cons (pv 0) (pa_cons (pv 7) (pa_cons (pv 2) pa_nil)))) (nomark _))))))))), ?_⟩
  rintro ⟨⟨cs, pegs, others, pp⟩, ⟨h1, hz, hr⟩, hst, hso, hp⟩ G hE
  have h1' : 1 ≤ cs.length := h1
  have hz' : cs.length ≤ 100 := hz
  have hr' : risingF cs = true := hr
  have hst' : standF cs pegs = true := hst
  have hso' : standF cs others = true := hso
  have hp' : pprOk pp := hp
  have hpl := stand_len hst'
  have hol := stand_len hso'
  show Run Z.C G H [.py (csD cs), .py (csD pegs), .py (csD others), .py (pprD pp), .no, .no, .no, .no] _ { nx := fun _ => Out.ret (.py (.bool (holdsF cs pegs others pp))) = .ret (.py .none), rt := fun s => Out.ret (.py (.bool (holdsF cs pegs others pp))) = .ret s }
  cases pp with
  | cls =>
    refine s_if (b := true) ((t_test (e_eqS (x := "class") (y := "class") (e_ix0 (e_v 3 rfl)) e_str)).to rfl) (fun _ => ?_) (fun z => by cases z)
    refine r_ret (e_ne (x := classF pegs) (y := classF others) q_it (e_callS (⟨pegs, by omega⟩ : T__law_class) (a_cons (e_v 1 rfl) a_nil) rfl) (e_callS (⟨others, by omega⟩ : T__law_class) (a_cons (e_v 2 rfl) a_nil) rfl)) ?_
    rfl
  | clo ss =>
    have hs1 : ss.length ≤ 100000 := hp'.1
    have hs2 : ∀ s, s ∈ ss → s.length ≤ 500 := hp'.2
    refine s_if (b := false) ((t_test (e_eqS (x := "closed") (y := "class") (e_ix0 (e_v 3 rfl)) e_str)).to (by decide)) (fun z => by cases z) (fun _ => r_next ?_)
    refine s_if (b := true) ((t_test (e_eqS (x := "closed") (y := "closed") (e_ix0 (e_v 3 rfl)) e_str)).to rfl) (fun _ => ?_) (fun z => by cases z)
    show Run Z.C G H [.py (csD cs), .py (csD pegs), .py (csD others), .py (.tuple [.str "closed", ssD ss]), .no, .no, .no, .no] _ { nx := _, rt := fun s => Out.ret (.py (.bool (closedF cs pegs others ss))) = .ret s }
    refine s_if (t_or (t_test (e_nin q_cs (e_v 1 rfl) (l_py (e_ix1 (e_v 3 rfl))))) fun _ => t_test (e_in q_cs (e_v 2 rfl) (l_py (e_ix1 (e_v 3 rfl))))) (fun hb => ?_) (fun hb => r_next ?_)
    · refine r_ret e_bl ?_
      have h2 : closedF cs pegs others ss = false := by
        unfold closedF
        rw [Bool.and_eq_false_iff]
        refine .inl ?_
        rcases (Bool.or_eq_true _ _).mp hb with z | z
        · rw [nb_t z]
          rfl
        · rw [z]
          simp
      show Out.ret _ = Out.ret _
      rw [h2]
    · obtain ⟨b1, b2⟩ := Bool.or_eq_false_iff.mp hb
      have hpre : (memB pegs ss && !memB others ss) = true := by
        rw [nb_f b1, b2]
        rfl
      have hc : closedF cs pegs others ss = ss.all fun s => standF cs s && closeS cs ss s := by
        unfold closedF
        rw [hpre, Bool.true_and]
      rw [hc]
      refine r_seq (r_for (ds := ss.map csD) (e_ix1 (e_v 3 rfl)) (fun i γ => (∃ s4 s6, γ = [.py (csD cs), .py (csD pegs), .py (csD others), .py (.tuple [.str "closed", ssD ss]), s4, .no, s6, .no]) ∧ (ss.take i).all (fun s => standF cs s && closeS cs ss s) = true) ⟨⟨_, _, rfl⟩, rfl⟩ ?_ ?_)
      · rintro i d γ1 hd ⟨⟨s4, s6, rfl⟩, hq⟩
        rw [List.getElem?_map] at hd
        cases es : ss[i]? with
        | none =>
          rw [es] at hd
          cases hd
        | some s =>
          rw [es] at hd
          cases hd
          have hsm := List.mem_of_getElem? es
          have hsl := hs2 s hsm
          refine ⟨_, g_n, ?_⟩
          refine s_if (b := !standF cs s) ((t_test (e_ne (x := s) (y := cs.filter fun c => memB c s) q_cs (e_v 4 rfl) (e_frz (e_lcF (xs := cs) (f := cD) (p := fun c => memB c s) (e_v 0 rfl) (by omega) fun x _ => ⟨_, c_n, t_test (e_in q_c (e_v 5 rfl) (l_v 4 rfl)), fun _ => e_v 5 rfl⟩)))).to (by rw [stand_filter hr'])) (fun hb => ?_) (fun hb => r_next ?_)
          · refine r_ret e_bl ?_
            have h2 : ss.all (fun s => standF cs s && closeS cs ss s) = false := List.all_eq_false.mpr ⟨s, hsm, fun z => by
              have := ((Bool.and_eq_true _ _).mp z).1
              rw [nb_t hb] at this
              cases this⟩
            show Out.ret _ = Out.ret _
            rw [h2]
          · have hss : standF cs s = true := nb_f hb
            refine r_for (ds := (openF cs s).map lD) (e_frz (e_callS (⟨(cs, s), by dsimp only; omega, hr⟩ : T__law_open) (a_cons (e_v 0 rfl) (a_cons (e_v 4 rfl) a_nil)) rfl)) (fun j γ => (∃ s6, γ = [.py (csD cs), .py (csD pegs), .py (csD others), .py (.tuple [.str "closed", ssD ss]), .py (csD s), .no, s6, .no]) ∧ ((openF cs s).take j).all (fun l => memB (doneF s l) ss) = true) ⟨⟨_, rfl⟩, rfl⟩ ?_ ?_
            · rintro j d γ1 hd ⟨⟨s6, rfl⟩, hq⟩
              rw [List.getElem?_map] at hd
              cases el : (openF cs s)[j]? with
              | none =>
                rw [el] at hd
                cases hd
              | some l =>
                rw [el] at hd
                cases hd
                refine ⟨_, g_n, ?_⟩
                refine r_if (t_test (e_nin q_cs (e_frz (e_callS (⟨(s, l), by dsimp only; omega⟩ : T__law_behind) (a_cons (e_v 4 rfl) (a_cons (e_v 6 rfl) a_nil)) rfl)) (l_py (e_ix1 (e_v 3 rfl))))) (fun hb => ?_) (fun hb => ?_)
                · refine r_ret e_bl ?_
                  have h2 : ss.all (fun s => standF cs s && closeS cs ss s) = false := List.all_eq_false.mpr ⟨s, hsm, fun z => by
                    have := List.all_eq_true.mp ((Bool.and_eq_true _ _).mp z).2 l (List.mem_of_getElem? el)
                    rw [nb_t hb] at this
                    cases this⟩
                  show Out.ret _ = Out.ret _
                  rw [h2]
                · refine r_next ⟨⟨_, rfl⟩, ?_⟩
                  rw [List.take_add_one, el, Option.toList_some, List.all_append, hq, List.all_cons, nb_f hb]
                  rfl
            · rintro γ1 ⟨⟨s6, rfl⟩, hq2⟩
              rw [List.length_map, List.take_length] at hq2
              refine ⟨⟨_, _, rfl⟩, ?_⟩
              rw [List.take_add_one, es, Option.toList_some, List.all_append, hq, List.all_cons, hss, show closeS cs ss s = true from hq2]
              rfl
      · rintro γ1 ⟨⟨s4, s6, rfl⟩, hq⟩
        rw [List.length_map, List.take_length] at hq
        refine r_ret e_bl ?_
        show Out.ret _ = Out.ret _
        rw [hq]
  | wts ws =>
    have hw : ws.length ≤ 1000 := hp'
    refine s_if (b := false) ((t_test (e_eqS (x := "weights") (y := "class") (e_ix0 (e_v 3 rfl)) e_str)).to (by decide)) (fun z => by cases z) (fun _ => r_next ?_)
    refine s_if (b := false) ((t_test (e_eqS (x := "weights") (y := "closed") (e_ix0 (e_v 3 rfl)) e_str)).to (by decide)) (fun z => by cases z) (fun _ => r_next ?_)
    show Run Z.C G H [.py (csD cs), .py (csD pegs), .py (csD others), .py (.tuple [.str "weights", isD ws]), .no, .no, .no, .no] _ { nx := _, rt := fun s => Out.ret (.py (.bool ((areW cs ws && fairF cs ws) && decide (weightF cs ws pegs < weightF cs ws others)))) = .ret s }
    refine s_asg (.py (isD ws)) (e_ix1 (e_v 3 rfl)) ?_
    have lenN : ¬ ws.length = cs.length → areW cs ws = false := fun n => by
      unfold areW
      rw [decide_eq_false n]
      rfl
    have hne : ws.length = cs.length → ws ≠ [] := fun e z => by
      rw [z] at e
      have : (0 : Nat) = cs.length := e
      omega
    refine s_if (b := !areW cs ws) ?_ (fun hb => ?_) (fun hb => r_next ?_)
    · by_cases hl : ws.length = cs.length
      · refine (t_or (a := false) ((t_test (e_neI (e_len (l_v 7 rfl)) (e_len (l_v 0 rfl)))).to (by rw [List.length_map, List.length_map, hl, decide_eq_true rfl]; rfl)) fun _ => t_or (t_test (e_lt (e_min (l_v 7 rfl) (hne hl)) (e_neg e_int))) fun _ => t_test (e_gt (e_max (l_v 7 rfl) (hne hl)) e_int)).to ?_
        rw [areW_minmax hl (hne hl), Bool.not_not]
        rfl
      · refine (t_or (a := true) (b := true) ((t_test (e_neI (e_len (l_v 7 rfl)) (e_len (l_v 0 rfl)))).to (by rw [List.length_map, List.length_map, decide_eq_false (by omega)]; rfl)) fun z => by cases z).to ?_
        rw [lenN hl]
        rfl
    · refine r_ret e_bl ?_
      show Out.ret _ = Out.ret _
      rw [nb_t hb]
      rfl
    · have hA := nb_f hb
      have hl := areW_len hA
      refine s_if (t_not (t_B (e_callS (⟨(cs, ws), by dsimp only; omega, hr, hl⟩ : T__law_fair) (a_cons (e_v 0 rfl) (a_cons (e_v 7 rfl) a_nil)) rfl))) (fun hb => ?_) (fun hb => r_next ?_)
      · refine r_ret e_bl ?_
        show Out.ret _ = Out.ret _
        rw [hA, show fairF cs ws = false from nb_t hb]
        rfl
      · refine r_ret (e_lt (e_callS (⟨((cs, ws), pegs), hl, by dsimp only; omega, (standF_iff.mp hst').2⟩ : T__law_weight) (a_cons (e_v 0 rfl) (a_cons (e_v 7 rfl) (a_cons (e_v 1 rfl) a_nil))) rfl) (e_callS (⟨((cs, ws), others), hl, by dsimp only; omega, (standF_iff.mp hso').2⟩ : T__law_weight) (a_cons (e_v 0 rfl) (a_cons (e_v 7 rfl) (a_cons (e_v 2 rfl) a_nil))) rfl)) ?_
        show Out.ret _ = Out.ret _
        rw [hA, show fairF cs ws = true from nb_f hb]
        rfl

abbrev s__law_paper_by : Stmt := topS 47
abbrev nm__law_paper_by : List Str := ["script", "cells", "pegs", "others", "cell", "numbers", "some", "at", "way", "third", "k", "one"]
theorem sc__law_paper_by : FnScope nm__law_paper_by ["script", "cells", "pegs", "others"] (defScope s__law_paper_by) := ⟨rfl, rfl, rfl, by decide +kernel, rfl, by decide +kernel, by decide +kernel⟩
theorem wAt_bd {cs : List Cell} {f : List Int} {M : Nat} (h : ∀ x, x ∈ f → x.natAbs ≤ M) (c : Cell) : (wAt cs f c).natAbs ≤ M := by
  unfold wAt
  rw [List.getD_eq_getElem?_getD]
  cases e : f[idxC cs c]? with
  | none => exact Nat.zero_le M
  | some x => exact h x (List.mem_of_getElem? e)
theorem stepR_bd {cs : List Cell} {f : List Int} {M : Nat} (h : ∀ x, x ∈ f → x.natAbs ≤ M) (l : Leap) : ∀ x, x ∈ stepR cs f l → x.natAbs ≤ 2 * M := by
  intro x hx
  have h1 := wAt_bd (cs := cs) h l.1
  have h2 := wAt_bd (cs := cs) h (betw l)
  unfold stepR at hx
  split at hx
  · rcases List.mem_or_eq_of_mem_set hx with e | e
    · have := h x e
      omega
    · rw [e]
      omega
  · have := h x hx
    omega
theorem foldR_bd (cs : List Cell) : ∀ (ls : List Leap) {f : List Int} {M : Nat}, (∀ x, x ∈ f → x.natAbs ≤ M) → ∀ x, x ∈ ls.foldl (stepR cs) f → x.natAbs ≤ 2 ^ ls.length * M
  | [], f, M, h, x, hx => by
    have := h x hx
    rw [List.length_nil, Nat.pow_zero, Nat.one_mul]
    exact this
  | l :: ls, f, M, h, x, hx => by
    have := foldR_bd cs ls (stepR_bd h l) x hx
    rw [List.length_cons, Nat.pow_succ, Nat.mul_assoc]
    exact this
theorem turnsR_bd {cs : List Cell} (hz : cs.length ≤ 10) : ∀ (r : List Nat) {ws : List Int} {M : Nat}, (∀ x, x ∈ ws → x.natAbs ≤ M) → ∀ x, x ∈ r.foldl (fun f _ => turnR cs f) ws → x.natAbs ≤ (2 ^ 40) ^ r.length * M
  | [], ws, M, h, x, hx => by
    have := h x hx
    rw [List.length_nil, Nat.pow_zero, Nat.one_mul]
    exact this
  | _ :: r, ws, M, h, x, hx => by
    have hl := leapsF_len cs
    have h1 : ∀ y, y ∈ turnR cs ws → y.natAbs ≤ 2 ^ 40 * M := fun y hy =>
      Nat.le_trans (foldR_bd cs (leapsF cs) h y hy) (Nat.mul_le_mul_right M (Nat.pow_le_pow_right (by decide) (by omega)))
    have := turnsR_bd hz r h1 x hx
    rw [List.length_cons, Nat.pow_succ, Nat.mul_assoc]
    exact this
theorem raisedF_bd {cs : List Cell} (hz : cs.length ≤ 10) {ws : List Int} (h : ∀ x, x ∈ ws → x.natAbs ≤ 1000) : ∀ x, x ∈ raisedF cs ws → x.natAbs < 2 ^ 420 := fun x hx => by
  have h1 := turnsR_bd hz (List.range cs.length) h x hx
  rw [List.length_range] at h1
  have h2 : (2 ^ 40) ^ cs.length ≤ (2 ^ 40) ^ 10 := Nat.pow_le_pow_right (by decide) hz
  have h3 := Nat.mul_le_mul_right 1000 h2
  have h4 : (2 ^ 40) ^ 10 * 1000 < 2 ^ 420 := by decide
  omega
def thiN (c : Int) (z : Nat × Cell) : Bool := decide (mixF c z.1 2 = 0)
def thiF (c : Int) (cs : List Cell) : List Cell := ((numb cs).filter (thiN c)).map fun z => z.2
theorem thiF_stand (c : Int) {cs : List Cell} (hr : risingF cs = true) : standF cs (thiF c cs) = true := by
  refine standF_sub ?_ hr
  have h := (List.filter_sublist (l := numb cs) (p := thiN c)).map fun z => z.2
  rw [numb_snd] at h
  exact h
structure OkS (way : Int) (a n m : Nat) (ss : List (List Cell)) : Prop where
  ln : ss.length ≤ n
  el : ∀ s, s ∈ ss → s.length ≤ m ∧ ∀ c, c ∈ s → smC c
  at_ : way = 1 ∨ a < ss.length
theorem OkS.mono {way : Int} {a n m n' m' : Nat} {ss : List (List Cell)} (h : OkS way a n m ss) (hn : n ≤ n') (hm : m ≤ m') : OkS way a n' m' ss :=
  ⟨Nat.le_trans h.ln hn, fun s hs => ⟨Nat.le_trans (h.el s hs).1 hm, (h.el s hs).2⟩, h.at_⟩
theorem OkS.get {way : Int} {a n m : Nat} {ss : List (List Cell)} (h : OkS way a n m ss) (hw : ¬ way = 1) : ∃ s, ss[a]? = some s ∧ s ∈ ss ∧ a < ss.length := by
  have ha : a < ss.length := h.at_.resolve_left hw
  exact ⟨ss[a], List.getElem?_eq_getElem ha, List.getElem_mem ha, ha⟩
def exP (cs : List Cell) : Sl := exA (ppB cs) pprD
abbrev T__law_paper_by := {x : List Int × List Cell × List Cell × List Cell // x.2.1.length ≤ 10 ∧ boardF x.2.1 = true ∧ standF x.2.1 x.2.2.1 = true ∧ standF x.2.1 x.2.2.2 = true}
def a__law_paper_by (Z : Ad) (x : T__law_paper_by) : List Sl := [scr Z.K x.1.1, .py (csD x.1.2.1), .py (csD x.1.2.2.1), .py (csD x.1.2.2.2)]
def o__law_paper_by (_ : Ad) (x : T__law_paper_by) : Out := .ret (exP x.1.2.1)
theorem ok__law_paper_by {f : Addr} {fd : FuncData} (T : Txt Z P w mg) {f__law_cell_at : Addr} {fd__law_cell_at : FuncData} (G__law_cell_at : Df P w Z.K mg base "_law_cell_at" ["script", "k"] 1 (spO Z.C (a__law_cell_at Z) (o__law_cell_at Z)) f__law_cell_at fd__law_cell_at) {f__law_reach : Addr} {fd__law_reach : FuncData} (G__law_reach : Df P w Z.K mg base "_law_reach" ["cells", "pegs"] 4 (spO Z.C (a__law_reach Z) (o__law_reach Z)) f__law_reach fd__law_reach) {f__law_weights_by : Addr} {fd__law_weights_by : FuncData} (G__law_weights_by : Df P w Z.K mg base "_law_weights_by" ["cell", "cells"] 2 (spO Z.C (a__law_weights_by Z) (o__law_weights_by Z)) f__law_weights_by fd__law_weights_by) {f__law_raised : Addr} {fd__law_raised : FuncData} (G__law_raised : Df P w Z.K mg base "_law_raised" ["cells", "weights"] 3 (spO Z.C (a__law_raised Z) (o__law_raised Z)) f__law_raised fd__law_raised) {f__law_mix : Addr} {fd__law_mix : FuncData} (G__law_mix : Df P w Z.K mg base "_law_mix" ["cell", "k", "many"] 1 (spO Z.C (a__law_mix Z) (o__law_mix Z)) f__law_mix fd__law_mix) (F : L2.Fun Z.K "_law_paper_by" "_law_paper_by" s__law_paper_by f fd) : FnOk P w Z.K mg base (L2.CX P w) 5 f fd ["script", "cells", "pegs", "others"] (spO Z.C (a__law_paper_by Z) (o__law_paper_by Z)) := by
  refine fn_ok F sc__law_paper_by (fun _ => rfl) fun cdv A outer s H E hr => ⟨_, (pss_cons (ps_set (i := 4) sc__law_paper_by.nd rfl (by first | exact Or.inl rfl | exact Or.inr rfl) (pe_callS G__law_cell_at.ok (hr.mono (by decide)) (by rfl) G__law_cell_at.g G__law_cell_at.kp G__law_cell_at.b (fun σ => passAt (takes_of rfl rfl rfl rfl) σ) (pa_cons (pv 0) (pa_cons pe_int pa_nil))))
      (pss_cons (ps_if (pt_cmpR op_eq (pe_op op_mod (pv 4) pe_int) pe_int (nomark _))
        (pss_one (ps_ret (pe_tup (pa_cons pe_str pa_nil))))
        pss_nil)
      (pss_cons (ps_if (pt_cmpR op_lt (pe_op op_mod (pv 4) pe_int) pe_int (nomark _))
        (pss_cons (ps_set (i := 5) sc__law_paper_by.nd rfl (by first | exact Or.inl rfl | exact Or.inr rfl) (pe_callS G__law_weights_by.ok (hr.mono (by decide)) (by rfl) G__law_weights_by.g G__law_weights_by.kp G__law_weights_by.b (fun σ => passAt (takes_of rfl rfl rfl rfl) σ) (pa_cons (pe_callS G__law_cell_at.ok (hr.mono (by decide)) (by rfl) G__law_cell_at.g G__law_cell_at.kp G__law_cell_at.b (fun σ => passAt (takes_of rfl rfl rfl rfl) σ) (pa_cons (pv 0) (pa_cons pe_int pa_nil))) (pa_cons (pv 1) pa_nil))))
        (pss_cons (ps_if (pt_cmpR op_gt (pe_op op_mod (pe_op op_fdiv (pv 4) pe_int) pe_int) pe_int (nomark _))
          (pss_one (ps_set (i := 5) sc__law_paper_by.nd rfl (by first | exact Or.inl rfl | exact Or.inr rfl) (pe_callS G__law_raised.ok (hr.mono (by decide)) (by rfl) G__law_raised.g G__law_raised.kp G__law_raised.b (fun σ => passAt (takes_of rfl rfl rfl rfl) σ) (pa_cons (pv 1) (pa_cons (pv 5) pa_nil)))))
          pss_nil)
        (pss_cons (ps_if (pt_cmpR op_eq (pe_op op_mod (pe_op op_fdiv (pv 4) pe_int) pe_int) pe_int (nomark _))
          (pss_one (ps_set (i := 5) sc__law_paper_by.nd rfl (by first | exact Or.inl rfl | exact Or.inr rfl) (pe_ix ix_list (pe_lst (pa_cons (pe_op op_cat (pv 5) (pe_lst (pa_cons pe_int pa_nil))) (pa_cons (pe_op op_cat (pe_slice sl_list (pv 5) (po_some pe_int) po_none) (pe_lst (pa_cons pe_int pa_nil))) (pa_cons (pe_op op_rep (pe_slice sl_list (pv 5) po_none (po_some pe_int)) (pe_op op_add (pe_callB c_len (by rfl) T.len (by decide +kernel) (pa_cons (pv 5) pa_nil)) pe_int)) pa_nil)))) (pe_op op_mod (pe_op op_fdiv (pv 4) pe_int) pe_int) (fun _ _ => rfl))))
          pss_nil)
        (pss_one (ps_ret (pe_tup (pa_cons pe_str (pa_cons (pv 5) pa_nil))))))))
        pss_nil)
      (pss_cons (ps_set (i := 6) sc__law_paper_by.nd rfl (by first | exact Or.inl rfl | exact Or.inr rfl) (pe_callS G__law_reach.ok (hr.mono (by decide)) (by rfl) G__law_reach.g G__law_reach.kp G__law_reach.b (fun σ => passAt (takes_of rfl rfl rfl rfl) σ) (pa_cons (pv 1) (pa_cons (pe_ix ix_list (pe_lst (pa_cons (pv 2) (pa_cons (pv 3) pa_nil))) (pe_callTy c_int (by rfl) T.int (by decide +kernel) (pa_cons (pe_cmpR op_eq (pe_op op_mod (pe_op op_fdiv (pv 4) pe_int) pe_int) pe_int (nomark _)) pa_nil)) (fun _ _ => rfl)) pa_nil))))
      (pss_cons (ps_set (i := 7) sc__law_paper_by.nd rfl (by first | exact Or.inl rfl | exact Or.inr rfl) (pe_op op_mod (pe_op op_fdiv (pv 4) pe_int) (pe_callB c_len (by rfl) T.len (by decide +kernel) (pa_cons (pv 6) pa_nil))))
      (pss_cons (ps_set (i := 8) sc__law_paper_by.nd rfl (by first | exact Or.inl rfl | exact Or.inr rfl) (pe_op op_mod (pe_op op_fdiv (pv 4) pe_int) pe_int))
      (pss_cons (ps_if (pt_cmpR op_eq (pv 8) pe_int (nomark _))
        (pss_one (ps_set (i := 6) sc__law_paper_by.nd rfl (by first | exact Or.inl rfl | exact Or.inr rfl) (pe_op op_cat (pe_slice sl_list (pv 6) po_none (po_some (pv 7))) (pe_slice sl_list (pv 6) (po_some (pe_op op_add (pv 7) pe_int)) po_none))))
        pss_nil)
      (pss_cons (ps_if (pt_cmpR op_eq (pv 8) pe_int (nomark _))
        (pss_one (ps_set (i := 6) sc__law_paper_by.nd rfl (by first | exact Or.inl rfl | exact Or.inr rfl) (pe_op op_cat (pv 6) (pe_lst (pa_cons (pv 3) pa_nil)))))
        pss_nil)
      (pss_cons (ps_if (pt_cmpR op_eq (pv 8) pe_int (nomark _))
        (pss_one (ps_asg (pe_revL (pe_ix ix_list (pv 6) (pv 7) (fun _ _ => rfl))) (pg_sub (pv 6) (pv 7) set_list)))
        pss_nil)
      (pss_cons (ps_if (pt_cmpR op_eq (pv 8) pe_int (nomark _))
        (pss_one (ps_asg (pe_op op_cat (pe_ix ix_list (pv 6) (pv 7) (fun _ _ => rfl)) (pe_lst (pa_cons (pe_tup (pa_cons pe_int (pa_cons pe_int pa_nil))) pa_nil))) (pg_sub (pv 6) (pv 7) set_list)))
        pss_nil)
      (pss_cons (ps_if (pt_cmpR op_eq (pv 8) pe_int (nomark _))
        (pss_one (ps_set (i := 6) sc__law_paper_by.nd rfl (by first | exact Or.inl rfl | exact Or.inr rfl) (pe_op op_cat (pv 6) (pe_lst (pa_cons (pe_callTy c_list (by rfl) T.list (by decide +kernel) (pa_cons (pe_ix ix_list (pv 6) (pv 7) (fun _ _ => rfl)) pa_nil)) pa_nil)))))
        pss_nil)
      (pss_cons (ps_setLc (i := 9) (own := [("k", 10), ("one", 11)]) (by rfl) sc__law_paper_by.nd rfl rfl (sw_true rfl rfl rfl (by decide +kernel)) (pi_enum (by rfl) T.enumerate (pa_cons (pv 1) pa_nil)) (blkOk_by (own := [("k", 10), ("one", 11)]) (N := nm__law_paper_by) (sc := defScope s__law_paper_by) (by decide +kernel)) (fun _ _ _ _ _ => (pg_tupK (K := Z.K) rfl (n := 2) (by rfl) (pgs_cons (pg_name (i := 10) sc__law_paper_by.nd rfl (by first | exact Or.inl rfl | exact Or.inr rfl)) (pgs_cons (pg_name (i := 11) sc__law_paper_by.nd rfl (by first | exact Or.inl rfl | exact Or.inr rfl)) pgs_nil)))) (fun _ _ _ _ _ => (pts_one (pt_cmpR op_eq (pe_call G__law_mix.ok (hr.mono (by decide)) (by rfl) G__law_mix.g G__law_mix.kp G__law_mix.b .nil passL (pa_cons (pe_call G__law_cell_at.ok (hr.mono (by decide)) (by rfl) G__law_cell_at.g G__law_cell_at.kp G__law_cell_at.b .nil passL (pa_cons (pv 0) (pa_cons pe_int pa_nil))) (pa_cons (pv 10) (pa_cons pe_int pa_nil)))) pe_int (nomark _)))) (fun _ _ _ _ _ => (pv 11)))
      (pss_cons (ps_if (pt_cmpR op_eq (pv 8) pe_int (nomark _))
        (pss_one (ps_set (i := 6) sc__law_paper_by.nd rfl (by first | exact Or.inl rfl | exact Or.inr rfl) (pe_op op_cat (pv 6) (pe_lc (own := [("one", 11)]) (by rfl) sc__law_paper_by.nd (pi_list (pe_callS G__law_reach.ok (hr.mono (by decide)) (by rfl) G__law_reach.g G__law_reach.kp G__law_reach.b (fun σ => passAt (takes_of rfl rfl rfl rfl) σ) (pa_cons (pv 1) (pa_cons (pv 9) pa_nil)))) (blkOk_by (own := [("one", 11)]) (N := nm__law_paper_by) (sc := defScope s__law_paper_by) (by decide +kernel)) (fun _ _ _ _ _ => (pg_name (i := 11) sc__law_paper_by.nd rfl (by first | exact Or.inl rfl | exact Or.inr rfl))) (fun _ _ _ _ _ => (pts_one (pt_cmpR (op_notInDK (K := Z.K) rfl (hu65 hr)) (pv 11) (pv 6) (by rfl)))) (fun _ _ _ _ _ => (pv 11))))))
        pss_nil)
      (pss_cons (ps_if (pt_cmpR op_eq (pv 8) pe_int (nomark _))
        (pss_one (ps_set (i := 6) sc__law_paper_by.nd rfl (by first | exact Or.inl rfl | exact Or.inr rfl) (pe_op op_cat (pe_lst (pa_cons (pv 9) pa_nil)) (pv 6))))
        pss_nil)
      (pss_one (ps_ret (pe_tup (pa_cons pe_str (pa_cons (pv 6) pa_nil))))))))))))))))))), ?_⟩
  rintro ⟨⟨ns, cs, pegs, others⟩, hz, hb, hst, hso⟩ G hE
  have hz' : cs.length ≤ 10 := hz
  have hb' : boardF cs = true := hb
  have hst' : standF cs pegs = true := hst
  have hso' : standF cs others = true := hso
  have hr := boardF_rising hb'
  have hcl := (boardF_len hb').1
  have sm : ∀ {s : List Cell}, standF cs s = true → s.length ≤ 10 ∧ ∀ c, c ∈ s → smC c := fun {s} hs => ⟨Nat.le_trans (stand_len hs) hz', fun c hc => smC_in (boardF_in hb' ((standF_iff.mp hs).2 c hc))⟩
  show Run Z.C G H [scr Z.K ns, .py (csD cs), .py (csD pegs), .py (csD others), .no, .no, .no, .no, .no, .no, .no, .no] _ { nx := fun _ => Out.ret (exP cs) = .ret (.py .none), rt := fun s => Out.ret (exP cs) = .ret s }
  have at3 : ∀ {γ : Env} {k : Nat} {E : L2.St → XK}, γ[0]? = some (scr Z.K ns) → EvS Z.C γ (tCallS (spO Z.C (a__law_cell_at Z) (o__law_cell_at Z)) E (tCons (tVar 0) (tCons (tC (.int (k : Int))) tNil))) (.py (.int (cellAt ns k))) := fun {γ k E} h => e_callS ((ns, k) : T__law_cell_at) (a_pr (e_pr 0 h) (a_cons e_int a_nil)) rfl
  refine s_asg (.py (.int (cellAt ns 4))) (at3 (k := 4) rfl) ?_
  generalize cellAt ns 4 = cell
  refine s_if (t_test (e_eqI (e_mod (j := 5) (e_v 4 rfl) e_int (by decide)) e_int)) (fun _ => ?_) (fun _ => r_next ?_)
  · exact r_ret (e_exA (f := pprD) (Φ := ppB cs) (t := Ppr.cls) (e_tup (p_cons e_str p_nil)) trivial) rfl
  refine s_if (t_test (e_lt (e_mod (j := 5) (e_v 4 rfl) e_int (by decide)) e_int)) (fun _ => ?_) (fun _ => r_next ?_)
  · refine s_asg (.py (isD (wbF (cellAt ns 5) cs.length))) (e_frz (e_callS (⟨(cellAt ns 5, cs), by dsimp only; omega⟩ : T__law_weights_by) (a_cons (at3 (k := 5) rfl) (a_cons (e_v 1 rfl) a_nil)) rfl)) ?_
    have hwl := wbF_len (cellAt ns 5) cs.length
    have hwb : ∀ x, x ∈ wbF (cellAt ns 5) cs.length → x.natAbs ≤ 1000 := fun x hx => by
      have := wbF_bd _ _ x hx
      omega
    generalize wbF (cellAt ns 5) cs.length = ws0 at hwl hwb
    have big : 1001 < 2 ^ 420 := by decide
    refine s_cutI (fun γ => ∃ ws : List Int, ws.length = cs.length ∧ (∀ x, x ∈ ws → x.natAbs < 2 ^ 420) ∧ γ = [scr Z.K ns, .py (csD cs), .py (csD pegs), .py (csD others), .py (.int cell), .py (isD ws), .no, .no, .no, .no, .no, .no]) ?_ ?_
    · refine r_if (t_test (e_gt (e_mod (j := 4) (e_div (j := 5) (e_v 4 rfl) e_int (by decide)) e_int (by decide)) e_int)) (fun _ => ?_) (fun _ => r_next ⟨ws0, hwl, fun x hx => by have := hwb x hx; omega, rfl⟩)
      exact r_asg (e_frz (e_callS (⟨(cs, ws0), by dsimp only; omega, hr, hwl⟩ : T__law_raised) (a_cons (e_v 1 rfl) (a_cons (e_v 5 rfl) a_nil)) rfl)) ⟨raisedF cs ws0, by rw [raisedF_len]; exact hwl, raisedF_bd hz' hwb, rfl⟩
    · rintro γ1 ⟨ws, hl, hbd, rfl⟩
      refine s_cutI (fun γ => ∃ ws : List Int, ppB cs (.wts ws) ∧ γ[5]? = some (.py (isD ws))) ?_ ?_
      · refine r_if (t_test (e_eqI (e_mod (j := 8) (e_div (j := 20) (e_v 4 rfl) e_int (by decide)) e_int (by decide)) e_int)) (fun _ => ?_) (fun _ => r_next ⟨ws, ⟨by omega, hbd⟩, rfl⟩)
        have hlm : (ws.map PyData.int).length = ws.length := List.length_map ..
        have hmin : min 1 ws.length = 1 := by omega
        have tab : ∃ (j : Nat) (u : List Int), cell / 160 % 3 = (j : Int) ∧ [ws ++ [0], ws.drop 1 ++ [1001], (List.replicate (cs.length + 1) (ws.take 1)).flatten][j]? = some u ∧ ppB cs (.wts u) := by
          have : cell / 160 % 3 = 0 ∨ cell / 160 % 3 = 1 ∨ cell / 160 % 3 = 2 := by omega
          rcases this with e | e | e
          · refine ⟨0, _, e, rfl, ?_, fun x hx => ?_⟩
            · rw [List.length_append, List.length_singleton]
              omega
            · rcases List.mem_append.mp hx with h | h
              · exact hbd x h
              · rw [List.mem_singleton.mp h]
                omega
          · refine ⟨1, _, e, rfl, ?_, fun x hx => ?_⟩
            · rw [List.length_append, List.length_singleton, List.length_drop]
              omega
            · rcases List.mem_append.mp hx with h | h
              · exact hbd x (List.mem_of_mem_drop h)
              · rw [List.mem_singleton.mp h]
                omega
          · refine ⟨2, _, e, rfl, ?_, fun x hx => ?_⟩
            · rw [List.length_flatten, List.map_replicate, List.sum_replicate_nat, List.length_take]
              have e1 : min 1 ws.length = 1 := by omega
              rw [e1]
              omega
            · obtain ⟨l, hl1, hl2⟩ := List.mem_flatten.mp hx
              rw [List.eq_of_mem_replicate hl1] at hl2
              exact hbd x (List.mem_of_mem_take hl2)
        obtain ⟨j, u, hj, hu, hok⟩ := tab
        refine r_asg (s := .py (isD u)) (e_ixL (l_new (e_lst (ds := [ws ++ [0], ws.drop 1 ++ [1001], (List.replicate (cs.length + 1) (ws.take 1)).flatten].map isD) (p_cons (e_frz ((e_cat (l_v 5 rfl) (l_new (e_lst (ds := [PyData.int 0]) (p_cons e_int p_nil))) (by rw [hlm, List.length_singleton]; omega)).to (s' := .own (.lst ((ws ++ [0]).map .int))) (by rw [List.map_append]; rfl))) (p_cons (e_frz ((e_cat (l_new (e_cutFrom (n := 1) (l_v 5 rfl) e_int rfl)) (l_new (e_lst (ds := [PyData.int 1001]) (p_cons e_int p_nil))) (by rw [List.length_drop, hlm, List.length_singleton]; omega)).to (s' := .own (.lst ((ws.drop 1 ++ [1001]).map .int))) (by rw [List.map_append, List.map_drop]; rfl))) (p_cons (e_frz ((e_rep (n := cs.length + 1) (e_cutTo (n := 1) (l_v 5 rfl) e_int rfl) (e_add (e_len (l_v 5 rfl)) e_int) (by rw [hlm, hl]; rfl) (by rw [List.length_take, hlm, hmin]; omega) (by omega)).to (s' := .own (.lst (((List.replicate (cs.length + 1) (ws.take 1)).flatten).map .int))) (by rw [List.map_flatten, List.map_replicate, List.map_take]))) p_nil))) (by simp))) (e_mod (j := 3) (e_div (j := 160) (e_v 4 rfl) e_int (by decide)) e_int (by decide)) (at_m j hj hu)) ⟨u, hok, rfl⟩
      · rintro γ1 ⟨u, hok, h5⟩
        exact r_ret (e_exA (f := pprD) (Φ := ppB cs) (t := Ppr.wts u) (e_tup (p_cons e_str (p_cons (e_v 5 h5) p_nil))) hok) rfl
  have hpick : ∃ (j : Nat) (p0 : List Cell), (if decide (cell / 5 % 4 = 1) then (1 : Int) else 0) = (j : Int) ∧ [pegs, others][j]? = some p0 ∧ standF cs p0 = true := by
    by_cases e : cell / 5 % 4 = 1
    · exact ⟨1, others, by rw [decide_eq_true e]; rfl, rfl, hso'⟩
    · exact ⟨0, pegs, by rw [decide_eq_false e]; rfl, rfl, hst'⟩
  obtain ⟨j0, p0, hj0, hp0, hsp⟩ := hpick
  refine s_asg (.own (.lst ((reachL cs p0).map csD))) (e_callS (⟨(cs, p0), by dsimp only; omega, hr, hsp⟩ : T__law_reach) (a_cons (e_v 1 rfl) (a_cons (e_ixL (l_new (e_lst (ds := [pegs, others].map csD) (p_cons (e_v 2 rfl) (p_cons (e_v 3 rfl) p_nil)) (by simp))) (e_intB (e_eqI (e_mod (j := 4) (e_div (j := 5) (e_v 4 rfl) e_int (by decide)) e_int (by decide)) e_int)) (at_m j0 hj0 hp0)) a_nil)) rfl) ?_
  have pow10 : 2 ^ cs.length ≤ 1024 := Nat.le_trans (Nat.pow_le_pow_right (by decide) hz') (by decide)
  have rOk := reachL_ok hr hsp
  have rLen := Nat.le_trans (rOk.count hr hsp) pow10
  have rSt := rOk.stand hsp
  have rPos : 0 < (reachL cs p0).length := List.length_pos_of_mem rOk.start
  generalize reachL cs p0 = ss0 at rOk rLen rSt rPos
  have hmod := Int.emod_nonneg (cell / 320) (show (ss0.length : Int) ≠ 0 by omega)
  have hmod2 := Int.emod_lt_of_pos (cell / 320) (show (0 : Int) < (ss0.length : Int) by omega)
  obtain ⟨a, ha⟩ : ∃ a : Nat, cell / 320 % (ss0.length : Int) = (a : Int) := ⟨(cell / 320 % (ss0.length : Int)).toNat, (Int.toNat_of_nonneg hmod).symm⟩
  refine s_asg (.py (.int (a : Int))) ((e_mod (j := (ss0.length : Int)) (e_div (j := 320) (e_v 4 rfl) e_int (by decide)) ((e_len (l_own 6 rfl)).to (by rw [List.length_map])) (by omega)).to (by rw [ha])) ?_
  refine s_asg (.py (.int (cell / 20 % 8))) (e_mod (j := 8) (e_div (j := 20) (e_v 4 rfl) e_int (by decide)) e_int (by decide)) ?_
  generalize cell / 20 % 8 = way
  have ok0 : OkS way a 1024 10 ss0 := ⟨rLen, fun s hs => sm (rSt s hs), .inr (by omega)⟩
  clear rOk rLen rSt rPos hmod hmod2 ha
  -- one left out
  refine s_cutI (fun γ => ∃ ss, OkS way a 1024 10 ss ∧ γ = [scr Z.K ns, .py (csD cs), .py (csD pegs), .py (csD others), .py (.int cell), .no, .own (.lst (ss.map csD)), .py (.int (a : Int)), .py (.int way), .no, .no, .no]) ?_ ?_
  · refine r_if (t_test (e_eqI (e_v 8 rfl) e_int)) (fun hw => ?_) (fun _ => r_next ⟨ss0, ok0, rfl⟩)
    have hlm : (ss0.map csD).length = ss0.length := List.length_map ..
    have h0 := ok0.ln
    refine r_asg ((e_cat (l_new (e_cutTo (n := a) (l_own 6 rfl) (e_v 7 rfl) rfl)) (l_new (e_cutFrom (n := a + 1) (l_own 6 rfl) (e_add (e_v 7 rfl) e_int) (by omega))) (by rw [List.length_take, List.length_drop, hlm]; omega)).to (s' := .own (.lst ((ss0.take a ++ ss0.drop (a + 1)).map csD))) (by rw [List.map_append, List.map_take, List.map_drop])) ⟨_, ⟨?_, fun s hs => ?_, .inl (of_decide_eq_true hw)⟩, rfl⟩
    · rw [List.length_append, List.length_take, List.length_drop]
      omega
    · rcases List.mem_append.mp hs with h | h
      · exact ok0.el s (List.mem_of_mem_take h)
      · exact ok0.el s (List.mem_of_mem_drop h)
  rintro γ1 ⟨ss1, ok1, rfl⟩
  clear ok0
  -- the second standing put in
  refine s_cutI (fun γ => ∃ ss, OkS way a 1025 10 ss ∧ γ = [scr Z.K ns, .py (csD cs), .py (csD pegs), .py (csD others), .py (.int cell), .no, .own (.lst (ss.map csD)), .py (.int (a : Int)), .py (.int way), .no, .no, .no]) ?_ ?_
  · refine r_if (t_test (e_eqI (e_v 8 rfl) e_int)) (fun hw => ?_) (fun _ => r_next ⟨ss1, ok1.mono (by decide) (Nat.le_refl _), rfl⟩)
    have h0 := ok1.ln
    refine r_asg ((e_cat (l_own 6 rfl) (l_new (e_lst (ds := [csD others]) (p_cons (e_v 3 rfl) p_nil))) (by rw [List.length_map, List.length_singleton]; omega)).to (s' := .own (.lst ((ss1 ++ [others]).map csD))) (by rw [List.map_append]; rfl)) ⟨_, ⟨?_, fun s hs => ?_, ?_⟩, rfl⟩
    · rw [List.length_append, List.length_singleton]
      omega
    · rcases List.mem_append.mp hs with h | h
      · exact ok1.el s h
      · rw [List.mem_singleton.mp h]
        exact sm hso'
    · rw [List.length_append]
      exact ok1.at_.imp id fun h => by omega
  rintro γ1 ⟨ss2, ok2, rfl⟩
  clear ok1
  -- one the other way round
  refine s_cutI (fun γ => ∃ ss, OkS way a 1025 10 ss ∧ γ = [scr Z.K ns, .py (csD cs), .py (csD pegs), .py (csD others), .py (.int cell), .no, .own (.lst (ss.map csD)), .py (.int (a : Int)), .py (.int way), .no, .no, .no]) ?_ ?_
  · refine r_if (t_test (e_eqI (e_v 8 rfl) e_int)) (fun hw => ?_) (fun _ => r_next ⟨ss2, ok2, rfl⟩)
    have hw := of_decide_eq_true hw
    obtain ⟨s, hs, hm, hl⟩ := ok2.get (by omega)
    refine r_put (n := a) 6 rfl ((e_frz (e_rev (l_py (e_ixL (l_own 6 rfl) (e_v 7 rfl) (at_m (f := csD) a rfl hs))))).to (s' := .py (csD s.reverse)) (by unfold csD; rw [List.map_reverse])) (e_v 7 rfl) rfl (by rw [List.length_map]; exact hl) ⟨ss2.set a s.reverse, ⟨?_, fun t ht => ?_, ?_⟩, by rw [List.map_set]; rfl⟩
    · rw [List.length_set]
      exact ok2.ln
    · rcases List.mem_or_eq_of_mem_set ht with e | e
      · exact ok2.el t e
      · rw [e, List.length_reverse]
        exact ⟨(ok2.el s hm).1, fun c hc => (ok2.el s hm).2 c (List.mem_reverse.mp hc)⟩
    · rw [List.length_set]
      exact ok2.at_
  rintro γ1 ⟨ss3, ok3, rfl⟩
  clear ok2
  -- a cell put in
  refine s_cutI (fun γ => ∃ ss, OkS way a 1025 11 ss ∧ γ = [scr Z.K ns, .py (csD cs), .py (csD pegs), .py (csD others), .py (.int cell), .no, .own (.lst (ss.map csD)), .py (.int (a : Int)), .py (.int way), .no, .no, .no]) ?_ ?_
  · refine r_if (t_test (e_eqI (e_v 8 rfl) e_int)) (fun hw => ?_) (fun _ => r_next ⟨ss3, ok3.mono (Nat.le_refl _) (by decide), rfl⟩)
    have hw := of_decide_eq_true hw
    obtain ⟨s, hs, hm, hl⟩ := ok3.get (by omega)
    have hsl := (ok3.el s hm).1
    refine r_put (n := a) 6 rfl ((e_frz (e_cat (l_py (e_ixL (l_own 6 rfl) (e_v 7 rfl) (at_m (f := csD) a rfl hs))) (l_new (e_lst (ds := [cD (7, 7)]) (p_cons (e_tup (p_cons e_int (p_cons e_int p_nil))) p_nil))) (by rw [List.length_map, List.length_singleton]; omega))).to (s' := .py (csD (s ++ [(7, 7)]))) (by unfold csD; rw [List.map_append]; rfl)) (e_v 7 rfl) rfl (by rw [List.length_map]; exact hl) ⟨ss3.set a (s ++ [(7, 7)]), ⟨?_, fun t ht => ?_, ?_⟩, by rw [List.map_set]; rfl⟩
    · rw [List.length_set]
      exact ok3.ln
    · rcases List.mem_or_eq_of_mem_set ht with e | e
      · exact ⟨Nat.le_trans (ok3.el t e).1 (by decide), (ok3.el t e).2⟩
      · rw [e, List.length_append, List.length_singleton]
        refine ⟨by omega, fun c hc => ?_⟩
        rcases List.mem_append.mp hc with h | h
        · exact (ok3.el s hm).2 c h
        · rw [List.mem_singleton.mp h]
          exact ⟨by decide, by decide⟩
    · rw [List.length_set]
      exact ok3.at_
  rintro γ1 ⟨ss4, ok4, rfl⟩
  clear ok3
  -- one told twice
  refine s_cutI (fun γ => ∃ ss, OkS way a 1026 11 ss ∧ γ = [scr Z.K ns, .py (csD cs), .py (csD pegs), .py (csD others), .py (.int cell), .no, .own (.lst (ss.map csD)), .py (.int (a : Int)), .py (.int way), .no, .no, .no]) ?_ ?_
  · refine r_if (t_test (e_eqI (e_v 8 rfl) e_int)) (fun hw => ?_) (fun _ => r_next ⟨ss4, ok4.mono (by decide) (Nat.le_refl _), rfl⟩)
    have hw := of_decide_eq_true hw
    obtain ⟨s, hs, hm, hl⟩ := ok4.get (by omega)
    have h0 := ok4.ln
    refine r_asg ((e_cat (l_own 6 rfl) (l_new (e_lst (ds := [csD s]) (p_cons (e_frz (e_list (l_py (e_ixL (l_own 6 rfl) (e_v 7 rfl) (at_m (f := csD) a rfl hs))))) p_nil))) (by rw [List.length_map, List.length_singleton]; omega)).to (s' := .own (.lst ((ss4 ++ [s]).map csD))) (by rw [List.map_append]; rfl)) ⟨_, ⟨?_, fun t ht => ?_, ?_⟩, rfl⟩
    · rw [List.length_append, List.length_singleton]
      omega
    · rcases List.mem_append.mp ht with h | h
      · exact ok4.el t h
      · rw [List.mem_singleton.mp h]
        exact ok4.el s hm
    · rw [List.length_append]
      exact ok4.at_.imp id fun h => by omega
  rintro γ1 ⟨ss5, ok5, rfl⟩
  clear ok4
  refine s_asg (.py (csD (thiF (cellAt ns 6) cs))) (e_frz ((e_lcE (xs := cs) (f := cD) (p := thiN (cellAt ns 6)) (h := fun z => cD z.2) (e_v 1 rfl) (by omega) fun j x hx => ⟨_, c_2 (by decide), ?_, fun _ => e_v 11 rfl⟩).to (s' := .own (.lst ((thiF (cellAt ns 6) cs).map cD))) (by unfold thiF; rw [List.map_map]; rfl))) ?_
  · have hj : j < cs.length := (List.getElem?_eq_some_iff.mp hx).1
    exact t_test (e_eqI (e_call (mx (cellAt ns 6) j 2 (by omega) (by decide)) (a_cons (e_call ((ns, 6) : T__law_cell_at) (a_pr (e_pr 0 rfl) (a_cons e_int a_nil)) rfl) (a_cons (e_v 10 rfl) (a_cons e_int a_nil))) rfl) e_int)
  have hth := thiF_stand (cellAt ns 6) hr
  generalize thiF (cellAt ns 6) cs = third at hth
  have tOk := reachL_ok hr hth
  have tLen := Nat.le_trans (tOk.count hr hth) pow10
  have tSt := tOk.stand hth
  -- all that comes of another one
  refine s_cutI (fun γ => ∃ ss, OkS 1 0 2050 11 ss ∧ γ = [scr Z.K ns, .py (csD cs), .py (csD pegs), .py (csD others), .py (.int cell), .no, .own (.lst (ss.map csD)), .py (.int (a : Int)), .py (.int way), .py (csD third), .no, .no]) ?_ ?_
  · refine r_if (t_test (e_eqI (e_v 8 rfl) e_int)) (fun hw => ?_) (fun _ => r_next ⟨ss5, ⟨Nat.le_trans ok5.ln (by decide), ok5.el, .inl rfl⟩, rfl⟩)
    have h0 := ok5.ln
    have hf := List.length_filter_le (fun t => !memB t ss5) (reachL cs third)
    refine r_asg ((e_cat (l_own 6 rfl) (l_new (e_lcF (xs := reachL cs third) (f := csD) (p := fun t => !memB t ss5) (e_frz (e_callS (⟨(cs, third), by dsimp only; omega, hr, hth⟩ : T__law_reach) (a_cons (e_v 1 rfl) (a_cons (e_v 9 rfl) a_nil)) rfl)) (by omega) fun t _ => ⟨_, c_n, t_test (e_nin (x := t) (xs := ss5) q_cs (e_v 11 rfl) (l_own 6 rfl)), fun _ => e_v 11 rfl⟩)) (by rw [List.length_map, List.length_map]; omega)).to (s' := .own (.lst ((ss5 ++ (reachL cs third).filter fun t => !memB t ss5).map csD))) (by rw [List.map_append])) ⟨_, ⟨?_, fun t ht => ?_, .inl rfl⟩, rfl⟩
    · rw [List.length_append]
      omega
    · rcases List.mem_append.mp ht with h | h
      · exact ok5.el t h
      · have := sm (tSt t (List.mem_filter.mp h).1)
        exact ⟨by omega, this.2⟩
  rintro γ1 ⟨ss6, ok6, rfl⟩
  clear ok5 tOk tLen tSt
  -- another one
  refine s_cutI (fun γ => ∃ ss, ppB cs (.clo ss) ∧ γ[6]? = some (.own (.lst (ss.map csD)))) ?_ ?_
  · have h0 := ok6.ln
    refine r_if (t_test (e_eqI (e_v 8 rfl) e_int)) (fun hw => ?_) (fun _ => r_next ⟨ss6, ⟨by omega, ok6.el⟩, rfl⟩)
    refine r_asg ((e_cat (l_new (e_lst (ds := [csD third]) (p_cons (e_v 9 rfl) p_nil))) (l_own 6 rfl) (by rw [List.length_map, List.length_singleton]; omega)).to (s' := .own (.lst ((third :: ss6).map csD))) rfl) ⟨_, ⟨?_, fun t ht => ?_⟩, rfl⟩
    · rw [List.length_cons]
      omega
    · rcases List.mem_cons.mp ht with h | h
      · rw [h]
        have := sm hth
        exact ⟨by omega, this.2⟩
      · exact ok6.el t h
  · rintro γ1 ⟨ss, hok, h6⟩
    have h6l : 6 < γ1.length := (List.getElem?_eq_some_iff.mp h6).1
    refine r_frz 6 h6 (r_ret (e_exA (f := pprD) (Φ := ppB cs) (t := Ppr.clo ss) (e_tup (p_cons e_str (p_cons (e_v 6 (List.getElem?_set_self h6l)) p_nil))) hok) rfl)

abbrev s_law : Stmt := topS 48
abbrev nm_law : List Str := ["script", "cells", "board", "pegs", "others", "paper", "kept"]
theorem sc_law : FnScope nm_law ["script"] (defScope s_law) := ⟨rfl, rfl, rfl, by decide +kernel, rfl, by decide +kernel, by decide +kernel⟩
abbrev T_law := {ns : List Int // ns.length ≤ 63}
def a_law (Z : Ad) (x : T_law) : List Sl := [scr Z.K x.1]
def o_law (_ : Ad) (_ : T_law) : Out := .ret (.py (.bool true))
theorem ok_law {f : Addr} {fd : FuncData} (T : Txt Z P w mg) {f__law_cells_by : Addr} {fd__law_cells_by : FuncData} (G__law_cells_by : Df P w Z.K mg base "_law_cells_by" ["script", "most"] 2 (spO Z.C (a__law_cells_by Z) (o__law_cells_by Z)) f__law_cells_by fd__law_cells_by) {fd_Board : FuncData} (G_Board : Dm P w Z.K mg base ["self", "cells"] 2 (sp_Board Z) Z.fi fd_Board) {f__law_pegs_by : Addr} {fd__law_pegs_by : FuncData} (G__law_pegs_by : Df P w Z.K mg base "_law_pegs_by" ["cell", "cells"] 2 (spO Z.C (a__law_pegs_by Z) (o__law_pegs_by Z)) f__law_pegs_by fd__law_pegs_by) {f__law_paper_by : Addr} {fd__law_paper_by : FuncData} (G__law_paper_by : Df P w Z.K mg base "_law_paper_by" ["script", "cells", "pegs", "others"] 5 (spO Z.C (a__law_paper_by Z) (o__law_paper_by Z)) f__law_paper_by fd__law_paper_by) {f__law_cell_at : Addr} {fd__law_cell_at : FuncData} (G__law_cell_at : Df P w Z.K mg base "_law_cell_at" ["script", "k"] 1 (spO Z.C (a__law_cell_at Z) (o__law_cell_at Z)) f__law_cell_at fd__law_cell_at) {f__law_told : Addr} {fd__law_told : FuncData} (G__law_told : Df P w Z.K mg base "_law_told" ["found", "due"] 1 (spO Z.C (a__law_told Z) (o__law_told Z)) f__law_told fd__law_told) {f_holds : Addr} {fd_holds : FuncData} (G_holds : Df P w Z.K mg base "holds" ["board", "pegs", "others", "paper"] 6 (spO Z.C (a_holds Z) (o_holds Z)) f_holds fd_holds) {f__law_holds : Addr} {fd__law_holds : FuncData} (G__law_holds : Df P w Z.K mg base "_law_holds" ["cells", "pegs", "others", "paper"] 4 (spO Z.C (a__law_holds Z) (o__law_holds Z)) f__law_holds fd__law_holds) (F : L2.Fun Z.K "law" "law" s_law f fd) : FnG P w Z.K mg base 7 f fd ["script"] (spO Z.C (a_law Z) (o_law Z)) := by
  refine fn_okG F sc_law (fun _ => rfl) fun cdv A outer s H E hg hr => ⟨_, (pss_cons (ps_set (i := 1) sc_law.nd rfl (by first | exact Or.inl rfl | exact Or.inr rfl) (pe_callS G__law_cells_by.ok (hr.mono (by decide)) (by rfl) G__law_cells_by.g G__law_cells_by.kp G__law_cells_by.b (fun σ => passAt (takes_of rfl rfl rfl rfl) σ) (pa_cons (pv 0) (pa_cons pe_int pa_nil))))
      (pss_cons (ps_set (i := 2) sc_law.nd rfl (by first | exact Or.inl rfl | exact Or.inr rfl) (pe_makeS T.mkC G_Board.ok (hr.mono (by decide)) (by rfl) T.g_C G_Board.b (takes_of rfl rfl rfl rfl) (pa_cons (pe_callTy c_list (by rfl) T.list (by decide +kernel) (pa_cons (pv 1) pa_nil)) pa_nil)))
      (pss_cons (ps_set (i := 3) sc_law.nd rfl (by first | exact Or.inl rfl | exact Or.inr rfl) (pe_callS G__law_pegs_by.ok (hr.mono (by decide)) (by rfl) G__law_pegs_by.g G__law_pegs_by.kp G__law_pegs_by.b (fun σ => passAt (takes_of rfl rfl rfl rfl) σ) (pa_cons (pe_callS G__law_cell_at.ok (hr.mono (by decide)) (by rfl) G__law_cell_at.g G__law_cell_at.kp G__law_cell_at.b (fun σ => passAt (takes_of rfl rfl rfl rfl) σ) (pa_cons (pv 0) (pa_cons pe_int pa_nil))) (pa_cons (pv 1) pa_nil))))
      (pss_cons (ps_set (i := 4) sc_law.nd rfl (by first | exact Or.inl rfl | exact Or.inr rfl) (pe_callS G__law_pegs_by.ok (hr.mono (by decide)) (by rfl) G__law_pegs_by.g G__law_pegs_by.kp G__law_pegs_by.b (fun σ => passAt (takes_of rfl rfl rfl rfl) σ) (pa_cons (pe_callS G__law_cell_at.ok (hr.mono (by decide)) (by rfl) G__law_cell_at.g G__law_cell_at.kp G__law_cell_at.b (fun σ => passAt (takes_of rfl rfl rfl rfl) σ) (pa_cons (pv 0) (pa_cons pe_int pa_nil))) (pa_cons (pv 1) pa_nil))))
      (pss_cons (ps_set (i := 5) sc_law.nd rfl (by first | exact Or.inl rfl | exact Or.inr rfl) (pe_callS G__law_paper_by.ok (hr.mono (by decide)) (by rfl) G__law_paper_by.g G__law_paper_by.kp G__law_paper_by.b (fun σ => passAt (takes_of rfl rfl rfl rfl) σ) (pa_cons (pv 0) (pa_cons (pv 1) (pa_cons (pv 3) (pa_cons (pv 4) pa_nil))))))
      (pss_cons (ps_set (i := 6) sc_law.nd rfl (by first | exact Or.inl rfl | exact Or.inr rfl) (pe_callB (c_reprD (by exact hg) (hu65 hr)) (by rfl) T.repr (by decide +kernel) (pa_cons (pe_tup (pa_cons (pv 3) (pa_cons (pv 4) (pa_cons (pv 5) pa_nil)))) pa_nil)))
      (pss_cons (ps_if (pt_not (pt_val (pe_callS G__law_told.ok (hr.mono (by decide)) (by rfl) G__law_told.g G__law_told.kp G__law_told.b (fun σ => passAt (takes_of rfl rfl rfl rfl) σ) (pa_cons (pe_callS G_holds.ok (hr.mono (by decide)) (by rfl) G_holds.g G_holds.kp G_holds.b (fun σ => passAt (takes_of rfl rfl rfl rfl) σ) (pa_cons (pv 2) (pa_cons (pv 3) (pa_cons (pv 4) (pa_cons (pv 5) pa_nil))))) (pa_cons (pe_callS G__law_holds.ok (hr.mono (by decide)) (by rfl) G__law_holds.g G__law_holds.kp G__law_holds.b (fun σ => passAt (takes_of rfl rfl rfl rfl) σ) (pa_cons (pv 1) (pa_cons (pv 3) (pa_cons (pv 4) (pa_cons (pv 5) pa_nil))))) pa_nil)))))
        (pss_one (ps_ret pe_bl))
        pss_nil)
      (pss_one (ps_ret (pe_and (pe_cmpR op_eq (pe_callB (c_reprD (by exact hg) (hu65 hr)) (by rfl) T.repr (by decide +kernel) (pa_cons (pe_tup (pa_cons (pv 3) (pa_cons (pv 4) (pa_cons (pv 5) pa_nil)))) pa_nil)) (pv 6) (nomark _)) (pe_one (pe_cmpR (op_eqD hr.units) (pe_fld (pv 2) (by rfl)) (pv 1) (nomark _))))))))))))), ?_⟩
  rintro ⟨ns, hns⟩ G hE
  show Run Z.C G H [scr Z.K ns, .no, .no, .no, .no, .no, .no] _ _
  have at3 : ∀ {γ : Env} {k : Nat} {E : L2.St → XK}, γ[0]? = some (scr Z.K ns) → EvS Z.C γ (tCallS (spO Z.C (a__law_cell_at Z) (o__law_cell_at Z)) E (tCons (tVar 0) (tCons (tC (.int (k : Int))) tNil))) (.py (.int (cellAt ns k))) := fun {γ k E} h => e_callS ((ns, k) : T__law_cell_at) (a_pr (e_pr 0 h) (a_cons e_int a_nil)) rfl
  have hb := cellsF_board ns (most := 10) (by decide) (by decide)
  have hcl := cellsF_len ns 10
  refine s_asg (.py (csD (cellsF ns 10))) (e_frz (e_callS ((⟨(ns, 10), by dsimp only; omega⟩ : T__law_cells_by)) (a_pr (e_pr 0 rfl) (a_cons e_int a_nil)) rfl)) ?_
  generalize cellsF ns 10 = cs at hb hcl
  obtain ⟨h1, h2⟩ := boardF_len hb
  have hr := boardF_rising hb
  refine s_asg (.brd cs) (e_make (l_new (e_list (l_v 1 rfl))) (by omega) hb) ?_
  have hst : standF cs (pegsF (cellAt ns 2) cs) = true := pegsF_stand _ hr
  refine s_asg (.py (csD (pegsF (cellAt ns 2) cs))) (e_frz (e_callS (⟨(cellAt ns 2, cs), h1, by dsimp only; omega⟩ : T__law_pegs_by) (a_cons (at3 (k := 2) rfl) (a_cons (e_v 1 rfl) a_nil)) rfl)) ?_
  generalize pegsF (cellAt ns 2) cs = pegs at hst
  have hso : standF cs (pegsF (cellAt ns 3) cs) = true := pegsF_stand _ hr
  refine s_asg (.py (csD (pegsF (cellAt ns 3) cs))) (e_frz (e_callS (⟨(cellAt ns 3, cs), h1, by dsimp only; omega⟩ : T__law_pegs_by) (a_cons (at3 (k := 3) rfl) (a_cons (e_v 1 rfl) a_nil)) rfl)) ?_
  generalize pegsF (cellAt ns 3) cs = others at hso
  refine s_asg (exP cs) (e_callS (⟨(ns, cs, pegs, others), hcl, hb, hst, hso⟩ : T__law_paper_by) (a_pr (e_pr 0 rfl) (a_cons (e_v 1 rfl) (a_cons (e_v 3 rfl) (a_cons (e_v 4 rfl) a_nil)))) rfl) ?_
  refine r_exA (Φ := ppB cs) (f := pprD) 5 rfl fun pp hpp => ?_
  have hok := ppB_ok hpp
  have hsh := ppB_shw (fun c hc => boardF_in hb hc) hcl hst hso hpp
  show Run Z.C G H [scr Z.K ns, .py (csD cs), .brd cs, .py (csD pegs), .py (csD others), .py (pprD pp), .no] _ _
  refine s_asg (.py (.str (PyData.shown (.tuple [csD pegs, csD others, pprD pp])))) (e_reprD (e_tup (p_cons (e_v 3 rfl) (p_cons (e_v 4 rfl) (p_cons (e_v 5 rfl) p_nil)))) hsh) ?_
  refine s_if (b := false) ((t_not (t_B (e_callS ((holdsF cs pegs others pp, holdsF cs pegs others pp) : T__law_told) (a_cons (e_callS (⟨(cs, pegs, others, pp), by dsimp only; omega, hst, hso, hok⟩ : T_holds) (a_brd (e_b 2 rfl) (a_cons (e_v 3 rfl) (a_cons (e_v 4 rfl) (a_cons (e_v 5 rfl) a_nil)))) rfl) (a_cons (e_callS (⟨(cs, pegs, others, pp), ⟨h1, by dsimp only; omega, hr⟩, hst, hso, hok⟩ : T__law_holds) (a_cons (e_v 1 rfl) (a_cons (e_v 3 rfl) (a_cons (e_v 4 rfl) (a_cons (e_v 5 rfl) a_nil)))) rfl) a_nil)) rfl))).to (by dsimp only; rw [decide_eq_true rfl]; rfl)) (fun z => by cases z) (fun _ => r_next ?_)
  generalize hshown : PyData.shown (.tuple [csD pegs, csD others, pprD pp]) = tx
  refine r_ret (e_and (a := true) (b := true) ((e_eqS (x := tx) (y := tx) ((e_reprD (e_tup (p_cons (e_v 3 rfl) (p_cons (e_v 4 rfl) (p_cons (e_v 5 rfl) p_nil)))) hsh).to (by rw [hshown])) (e_v 6 rfl)).to (by rw [decide_eq_true rfl])) fun _ => (e_eq (x := cs) (y := cs) q_cs (e_cells T.cl T.nC (e_b 2 rfl)) (e_v 1 rfl)).to (by rw [decide_eq_true rfl])) rfl
end
theorem all_mk {P : Program} {w : World} {K : PySem.W.Frag} {h : Heap} {mg : Str → Option Value} {fa : Addr} (X : K.In h) (G : h.Ns mainGlobals mg) (hfa : mg "law" = some (.ref fa))
    {C fi pe bb bp bw : Addr}
    {t1 t2 t3 : Tok}
    {f_rising : Addr}
    {od_rising an_rising : Option Addr} {sl_rising : Array (Option Value)} {oc_rising kV_rising dc_rising pm_rising cd_rising ct_rising : Value}
    {od_Board an_Board : Option Addr} {sl_Board : Array (Option Value)} {oc_Board kV_Board dc_Board pm_Board cd_Board ct_Board : Value}
    {f_between : Addr}
    {od_between an_between : Option Addr} {sl_between : Array (Option Value)} {oc_between kV_between dc_between pm_between cd_between ct_between : Value}
    {f_is_leap : Addr}
    {od_is_leap an_is_leap : Option Addr} {sl_is_leap : Array (Option Value)} {oc_is_leap kV_is_leap dc_is_leap pm_is_leap cd_is_leap ct_is_leap : Value}
    {f_leaps : Addr}
    {od_leaps an_leaps : Option Addr} {sl_leaps : Array (Option Value)} {oc_leaps kV_leaps dc_leaps pm_leaps cd_leaps ct_leaps : Value}
    {f_is_standing : Addr}
    {od_is_standing an_is_standing : Option Addr} {sl_is_standing : Array (Option Value)} {oc_is_standing kV_is_standing dc_is_standing pm_is_standing cd_is_standing ct_is_standing : Value}
    {f_check_pegs : Addr}
    {od_check_pegs an_check_pegs : Option Addr} {sl_check_pegs : Array (Option Value)} {oc_check_pegs kV_check_pegs dc_check_pegs pm_check_pegs cd_check_pegs ct_check_pegs : Value}
    {f_can : Addr}
    {od_can an_can : Option Addr} {sl_can : Array (Option Value)} {oc_can kV_can dc_can pm_can cd_can ct_can : Value}
    {f_done : Addr}
    {od_done an_done : Option Addr} {sl_done : Array (Option Value)} {oc_done kV_done dc_done pm_done cd_done ct_done : Value}
    {f_open_leaps : Addr}
    {od_open_leaps an_open_leaps : Option Addr} {sl_open_leaps : Array (Option Value)} {oc_open_leaps kV_open_leaps dc_open_leaps pm_open_leaps cd_open_leaps ct_open_leaps : Value}
    {f_class_of : Addr}
    {od_class_of an_class_of : Option Addr} {sl_class_of : Array (Option Value)} {oc_class_of kV_class_of dc_class_of pm_class_of cd_class_of ct_class_of : Value}
    {f_are_weights : Addr}
    {od_are_weights an_are_weights : Option Addr} {sl_are_weights : Array (Option Value)} {oc_are_weights kV_are_weights dc_are_weights pm_are_weights cd_are_weights ct_are_weights : Value}
    {f_check_weights : Addr}
    {od_check_weights an_check_weights : Option Addr} {sl_check_weights : Array (Option Value)} {oc_check_weights kV_check_weights dc_check_weights pm_check_weights cd_check_weights ct_check_weights : Value}
    {f_weight_at : Addr}
    {od_weight_at an_weight_at : Option Addr} {sl_weight_at : Array (Option Value)} {oc_weight_at kV_weight_at dc_weight_at pm_weight_at cd_weight_at ct_weight_at : Value}
    {f_fair : Addr}
    {od_fair an_fair : Option Addr} {sl_fair : Array (Option Value)} {oc_fair kV_fair dc_fair pm_fair cd_fair ct_fair : Value}
    {f_weight : Addr}
    {od_weight an_weight : Option Addr} {sl_weight : Array (Option Value)} {oc_weight kV_weight dc_weight pm_weight cd_weight ct_weight : Value}
    {f_closed_holds : Addr}
    {od_closed_holds an_closed_holds : Option Addr} {sl_closed_holds : Array (Option Value)} {oc_closed_holds kV_closed_holds dc_closed_holds pm_closed_holds cd_closed_holds ct_closed_holds : Value}
    {f_holds : Addr}
    {od_holds an_holds : Option Addr} {sl_holds : Array (Option Value)} {oc_holds kV_holds dc_holds pm_holds cd_holds ct_holds : Value}
    {f__law_cell_at : Addr}
    {od__law_cell_at an__law_cell_at : Option Addr} {sl__law_cell_at : Array (Option Value)} {oc__law_cell_at kV__law_cell_at dc__law_cell_at pm__law_cell_at cd__law_cell_at ct__law_cell_at : Value}
    {f__law_mix : Addr}
    {od__law_mix an__law_mix : Option Addr} {sl__law_mix : Array (Option Value)} {oc__law_mix kV__law_mix dc__law_mix pm__law_mix cd__law_mix ct__law_mix : Value}
    {f__law_told : Addr}
    {od__law_told an__law_told : Option Addr} {sl__law_told : Array (Option Value)} {oc__law_told kV__law_told dc__law_told pm__law_told cd__law_told ct__law_told : Value}
    {f__law_cells_by : Addr}
    {od__law_cells_by an__law_cells_by : Option Addr} {sl__law_cells_by : Array (Option Value)} {oc__law_cells_by kV__law_cells_by dc__law_cells_by pm__law_cells_by cd__law_cells_by ct__law_cells_by : Value}
    {f__law_pegs_by : Addr}
    {od__law_pegs_by an__law_pegs_by : Option Addr} {sl__law_pegs_by : Array (Option Value)} {oc__law_pegs_by kV__law_pegs_by dc__law_pegs_by pm__law_pegs_by cd__law_pegs_by ct__law_pegs_by : Value}
    {f__law_between : Addr}
    {od__law_between an__law_between : Option Addr} {sl__law_between : Array (Option Value)} {oc__law_between kV__law_between dc__law_between pm__law_between cd__law_between ct__law_between : Value}
    {f__law_leaps : Addr}
    {od__law_leaps an__law_leaps : Option Addr} {sl__law_leaps : Array (Option Value)} {oc__law_leaps kV__law_leaps dc__law_leaps pm__law_leaps cd__law_leaps ct__law_leaps : Value}
    {f__law_open : Addr}
    {od__law_open an__law_open : Option Addr} {sl__law_open : Array (Option Value)} {oc__law_open kV__law_open dc__law_open pm__law_open cd__law_open ct__law_open : Value}
    {f__law_behind : Addr}
    {od__law_behind an__law_behind : Option Addr} {sl__law_behind : Array (Option Value)} {oc__law_behind kV__law_behind dc__law_behind pm__law_behind cd__law_behind ct__law_behind : Value}
    {f__law_reach : Addr}
    {od__law_reach an__law_reach : Option Addr} {sl__law_reach : Array (Option Value)} {oc__law_reach kV__law_reach dc__law_reach pm__law_reach cd__law_reach ct__law_reach : Value}
    {f__law_class : Addr}
    {od__law_class an__law_class : Option Addr} {sl__law_class : Array (Option Value)} {oc__law_class kV__law_class dc__law_class pm__law_class cd__law_class ct__law_class : Value}
    {f__law_weights_by : Addr}
    {od__law_weights_by an__law_weights_by : Option Addr} {sl__law_weights_by : Array (Option Value)} {oc__law_weights_by kV__law_weights_by dc__law_weights_by pm__law_weights_by cd__law_weights_by ct__law_weights_by : Value}
    {f__law_raised : Addr}
    {od__law_raised an__law_raised : Option Addr} {sl__law_raised : Array (Option Value)} {oc__law_raised kV__law_raised dc__law_raised pm__law_raised cd__law_raised ct__law_raised : Value}
    {f__law_fair : Addr}
    {od__law_fair an__law_fair : Option Addr} {sl__law_fair : Array (Option Value)} {oc__law_fair kV__law_fair dc__law_fair pm__law_fair cd__law_fair ct__law_fair : Value}
    {f__law_weight : Addr}
    {od__law_weight an__law_weight : Option Addr} {sl__law_weight : Array (Option Value)} {oc__law_weight kV__law_weight dc__law_weight pm__law_weight cd__law_weight ct__law_weight : Value}
    {f__law_holds : Addr}
    {od__law_holds an__law_holds : Option Addr} {sl__law_holds : Array (Option Value)} {oc__law_holds kV__law_holds dc__law_holds pm__law_holds cd__law_holds ct__law_holds : Value}
    {f__law_paper_by : Addr}
    {od__law_paper_by an__law_paper_by : Option Addr} {sl__law_paper_by : Array (Option Value)} {oc__law_paper_by kV__law_paper_by dc__law_paper_by pm__law_paper_by cd__law_paper_by ct__law_paper_by : Value}
    {f_law : Addr}
    {od_law an_law : Option Addr} {sl_law : Array (Option Value)} {oc_law kV_law dc_law pm_law cd_law ct_law : Value}
    (r_g_C_ : PySem.W.nsIn K mainGlobals "Board" = some (some (.ref C)))
    (r_g_pe_ : PySem.W.nsIn K mainGlobals "PegError" = some (some (.ref pe)))
    (r_g_bb_ : PySem.W.nsIn K mainGlobals "BadBoard" = some (some (.ref bb)))
    (r_g_bp_ : PySem.W.nsIn K mainGlobals "BadPegs" = some (some (.ref bp)))
    (r_g_bw_ : PySem.W.nsIn K mainGlobals "BadWeights" = some (some (.ref bw)))
    (z_range_ : PySem.W.nsIn K mainGlobals "range" = some none)
    (z_len_ : PySem.W.nsIn K mainGlobals "len" = some none)
    (z_all_ : PySem.W.nsIn K mainGlobals "all" = some none)
    (z_abs_ : PySem.W.nsIn K mainGlobals "abs" = some none)
    (z_list_ : PySem.W.nsIn K mainGlobals "list" = some none)
    (z_tuple_ : PySem.W.nsIn K mainGlobals "tuple" = some none)
    (z_sorted_ : PySem.W.nsIn K mainGlobals "sorted" = some none)
    (z_enumerate_ : PySem.W.nsIn K mainGlobals "enumerate" = some none)
    (z_sum_ : PySem.W.nsIn K mainGlobals "sum" = some none)
    (z_isinstance_ : PySem.W.nsIn K mainGlobals "isinstance" = some none)
    (z_min_ : PySem.W.nsIn K mainGlobals "min" = some none)
    (z_max_ : PySem.W.nsIn K mainGlobals "max" = some none)
    (z_repr_ : PySem.W.nsIn K mainGlobals "repr" = some none)
    (z_int_ : PySem.W.nsIn K mainGlobals "int" = some none)
    (z_str_ : PySem.W.nsIn K mainGlobals "str" = some none)
    (z_bool_ : PySem.W.nsIn K mainGlobals "bool" = some none)
    (z_ValueError_ : PySem.W.nsIn K mainGlobals "ValueError" = some none)
    (v_c_SIDE_ : PySem.W.nsIn K mainGlobals "SIDE" = some (some (.int 8 t1)))
    (v_c_MOST_ : PySem.W.nsIn K mainGlobals "MOST" = some (some (.int 24 t2)))
    (v_c_BOUND_ : PySem.W.nsIn K mainGlobals "BOUND" = some (some (.int 1000 t3)))
    (q_nC_ : PySem.W.findIn K (.ref C) "cells" = some none)
    (q_x_pe_ : PySem.W.excIn K pe [.type "ValueError", .type "Exception", .type "BaseException", .type "object"] "ValueError.__new__" = true)
    (q_k_pe_ : PySem.W.keepIn K (.ref pe) = true)
    (q_b_pe_ : PySem.W.subIn K (.ref pe) (.type "BaseException") = some true)
    (q_t_pe_ : PySem.W.typeIn K (.ref pe) = some (.type "type"))
    (q_x_bb_ : PySem.W.excIn K bb [.type "ValueError", .type "Exception", .type "BaseException", .type "object"] "ValueError.__new__" = true)
    (q_k_bb_ : PySem.W.keepIn K (.ref bb) = true)
    (q_b_bb_ : PySem.W.subIn K (.ref bb) (.type "BaseException") = some true)
    (q_t_bb_ : PySem.W.typeIn K (.ref bb) = some (.type "type"))
    (q_x_bp_ : PySem.W.excIn K bp [.type "ValueError", .type "Exception", .type "BaseException", .type "object"] "ValueError.__new__" = true)
    (q_k_bp_ : PySem.W.keepIn K (.ref bp) = true)
    (q_b_bp_ : PySem.W.subIn K (.ref bp) (.type "BaseException") = some true)
    (q_t_bp_ : PySem.W.typeIn K (.ref bp) = some (.type "type"))
    (q_x_bw_ : PySem.W.excIn K bw [.type "ValueError", .type "Exception", .type "BaseException", .type "object"] "ValueError.__new__" = true)
    (q_k_bw_ : PySem.W.keepIn K (.ref bw) = true)
    (q_b_bw_ : PySem.W.subIn K (.ref bw) (.type "BaseException") = some true)
    (q_t_bw_ : PySem.W.typeIn K (.ref bw) = some (.type "type"))
    (pg_ : PySem.W.plainGet K C Str.empty = true)
    (hd_ : PySem.W.hasDictIn K C = true)
    (po_ : PySem.W.plainOver K C = true)
    (sa_ : PySem.W.findIn K (.ref C) "__setattr__" = some (some (.builtin "object.__setattr__")))
    (ini_ : PySem.W.findIn K (.ref C) "__init__" = some (some (.ref fi)))
    (isf_ : PySem.W.isFn K (.ref fi) = true)
    (mks_ : PySem.W.makesIn K C = true)
    (kc_ : PySem.W.keepIn K (.ref C) = true)
    (a_rising_ : PySem.W.nsIn K mainGlobals "rising" = some (some (.ref f_rising)))
    (l_rising_ : K.lookup f_rising = some ⟨oc_rising, od_rising, .func (PySem.W.fnOf "rising" "rising" (defArgs s_rising) (defBody s_rising) (defScope s_rising) .none kV_rising dc_rising pm_rising an_rising cd_rising ct_rising), sl_rising⟩)
    (c_rising_ : PySem.W.codeIn K cd_rising "rising" = true)
    (k_rising_ : PySem.W.keepIn K (.ref f_rising) = true)
    (l_Board_ : K.lookup fi = some ⟨oc_Board, od_Board, .func (PySem.W.fnOf "__init__" "Board.__init__" (defArgs s_Board) (defBody s_Board) (defScope s_Board) .none kV_Board dc_Board pm_Board an_Board cd_Board ct_Board), sl_Board⟩)
    (c_Board_ : PySem.W.codeIn K cd_Board "Board.__init__" = true)
    (k_Board_ : PySem.W.keepIn K (.ref fi) = true)
    (a_between_ : PySem.W.nsIn K mainGlobals "between" = some (some (.ref f_between)))
    (l_between_ : K.lookup f_between = some ⟨oc_between, od_between, .func (PySem.W.fnOf "between" "between" (defArgs s_between) (defBody s_between) (defScope s_between) .none kV_between dc_between pm_between an_between cd_between ct_between), sl_between⟩)
    (c_between_ : PySem.W.codeIn K cd_between "between" = true)
    (k_between_ : PySem.W.keepIn K (.ref f_between) = true)
    (a_is_leap_ : PySem.W.nsIn K mainGlobals "is_leap" = some (some (.ref f_is_leap)))
    (l_is_leap_ : K.lookup f_is_leap = some ⟨oc_is_leap, od_is_leap, .func (PySem.W.fnOf "is_leap" "is_leap" (defArgs s_is_leap) (defBody s_is_leap) (defScope s_is_leap) .none kV_is_leap dc_is_leap pm_is_leap an_is_leap cd_is_leap ct_is_leap), sl_is_leap⟩)
    (c_is_leap_ : PySem.W.codeIn K cd_is_leap "is_leap" = true)
    (k_is_leap_ : PySem.W.keepIn K (.ref f_is_leap) = true)
    (a_leaps_ : PySem.W.nsIn K mainGlobals "leaps" = some (some (.ref f_leaps)))
    (l_leaps_ : K.lookup f_leaps = some ⟨oc_leaps, od_leaps, .func (PySem.W.fnOf "leaps" "leaps" (defArgs s_leaps) (defBody s_leaps) (defScope s_leaps) .none kV_leaps dc_leaps pm_leaps an_leaps cd_leaps ct_leaps), sl_leaps⟩)
    (c_leaps_ : PySem.W.codeIn K cd_leaps "leaps" = true)
    (k_leaps_ : PySem.W.keepIn K (.ref f_leaps) = true)
    (a_is_standing_ : PySem.W.nsIn K mainGlobals "is_standing" = some (some (.ref f_is_standing)))
    (l_is_standing_ : K.lookup f_is_standing = some ⟨oc_is_standing, od_is_standing, .func (PySem.W.fnOf "is_standing" "is_standing" (defArgs s_is_standing) (defBody s_is_standing) (defScope s_is_standing) .none kV_is_standing dc_is_standing pm_is_standing an_is_standing cd_is_standing ct_is_standing), sl_is_standing⟩)
    (c_is_standing_ : PySem.W.codeIn K cd_is_standing "is_standing" = true)
    (k_is_standing_ : PySem.W.keepIn K (.ref f_is_standing) = true)
    (a_check_pegs_ : PySem.W.nsIn K mainGlobals "check_pegs" = some (some (.ref f_check_pegs)))
    (l_check_pegs_ : K.lookup f_check_pegs = some ⟨oc_check_pegs, od_check_pegs, .func (PySem.W.fnOf "check_pegs" "check_pegs" (defArgs s_check_pegs) (defBody s_check_pegs) (defScope s_check_pegs) .none kV_check_pegs dc_check_pegs pm_check_pegs an_check_pegs cd_check_pegs ct_check_pegs), sl_check_pegs⟩)
    (c_check_pegs_ : PySem.W.codeIn K cd_check_pegs "check_pegs" = true)
    (k_check_pegs_ : PySem.W.keepIn K (.ref f_check_pegs) = true)
    (a_can_ : PySem.W.nsIn K mainGlobals "can" = some (some (.ref f_can)))
    (l_can_ : K.lookup f_can = some ⟨oc_can, od_can, .func (PySem.W.fnOf "can" "can" (defArgs s_can) (defBody s_can) (defScope s_can) .none kV_can dc_can pm_can an_can cd_can ct_can), sl_can⟩)
    (c_can_ : PySem.W.codeIn K cd_can "can" = true)
    (k_can_ : PySem.W.keepIn K (.ref f_can) = true)
    (a_done_ : PySem.W.nsIn K mainGlobals "done" = some (some (.ref f_done)))
    (l_done_ : K.lookup f_done = some ⟨oc_done, od_done, .func (PySem.W.fnOf "done" "done" (defArgs s_done) (defBody s_done) (defScope s_done) .none kV_done dc_done pm_done an_done cd_done ct_done), sl_done⟩)
    (c_done_ : PySem.W.codeIn K cd_done "done" = true)
    (k_done_ : PySem.W.keepIn K (.ref f_done) = true)
    (a_open_leaps_ : PySem.W.nsIn K mainGlobals "open_leaps" = some (some (.ref f_open_leaps)))
    (l_open_leaps_ : K.lookup f_open_leaps = some ⟨oc_open_leaps, od_open_leaps, .func (PySem.W.fnOf "open_leaps" "open_leaps" (defArgs s_open_leaps) (defBody s_open_leaps) (defScope s_open_leaps) .none kV_open_leaps dc_open_leaps pm_open_leaps an_open_leaps cd_open_leaps ct_open_leaps), sl_open_leaps⟩)
    (c_open_leaps_ : PySem.W.codeIn K cd_open_leaps "open_leaps" = true)
    (k_open_leaps_ : PySem.W.keepIn K (.ref f_open_leaps) = true)
    (a_class_of_ : PySem.W.nsIn K mainGlobals "class_of" = some (some (.ref f_class_of)))
    (l_class_of_ : K.lookup f_class_of = some ⟨oc_class_of, od_class_of, .func (PySem.W.fnOf "class_of" "class_of" (defArgs s_class_of) (defBody s_class_of) (defScope s_class_of) .none kV_class_of dc_class_of pm_class_of an_class_of cd_class_of ct_class_of), sl_class_of⟩)
    (c_class_of_ : PySem.W.codeIn K cd_class_of "class_of" = true)
    (k_class_of_ : PySem.W.keepIn K (.ref f_class_of) = true)
    (a_are_weights_ : PySem.W.nsIn K mainGlobals "are_weights" = some (some (.ref f_are_weights)))
    (l_are_weights_ : K.lookup f_are_weights = some ⟨oc_are_weights, od_are_weights, .func (PySem.W.fnOf "are_weights" "are_weights" (defArgs s_are_weights) (defBody s_are_weights) (defScope s_are_weights) .none kV_are_weights dc_are_weights pm_are_weights an_are_weights cd_are_weights ct_are_weights), sl_are_weights⟩)
    (c_are_weights_ : PySem.W.codeIn K cd_are_weights "are_weights" = true)
    (k_are_weights_ : PySem.W.keepIn K (.ref f_are_weights) = true)
    (a_check_weights_ : PySem.W.nsIn K mainGlobals "check_weights" = some (some (.ref f_check_weights)))
    (l_check_weights_ : K.lookup f_check_weights = some ⟨oc_check_weights, od_check_weights, .func (PySem.W.fnOf "check_weights" "check_weights" (defArgs s_check_weights) (defBody s_check_weights) (defScope s_check_weights) .none kV_check_weights dc_check_weights pm_check_weights an_check_weights cd_check_weights ct_check_weights), sl_check_weights⟩)
    (c_check_weights_ : PySem.W.codeIn K cd_check_weights "check_weights" = true)
    (k_check_weights_ : PySem.W.keepIn K (.ref f_check_weights) = true)
    (a_weight_at_ : PySem.W.nsIn K mainGlobals "weight_at" = some (some (.ref f_weight_at)))
    (l_weight_at_ : K.lookup f_weight_at = some ⟨oc_weight_at, od_weight_at, .func (PySem.W.fnOf "weight_at" "weight_at" (defArgs s_weight_at) (defBody s_weight_at) (defScope s_weight_at) .none kV_weight_at dc_weight_at pm_weight_at an_weight_at cd_weight_at ct_weight_at), sl_weight_at⟩)
    (c_weight_at_ : PySem.W.codeIn K cd_weight_at "weight_at" = true)
    (k_weight_at_ : PySem.W.keepIn K (.ref f_weight_at) = true)
    (a_fair_ : PySem.W.nsIn K mainGlobals "fair" = some (some (.ref f_fair)))
    (l_fair_ : K.lookup f_fair = some ⟨oc_fair, od_fair, .func (PySem.W.fnOf "fair" "fair" (defArgs s_fair) (defBody s_fair) (defScope s_fair) .none kV_fair dc_fair pm_fair an_fair cd_fair ct_fair), sl_fair⟩)
    (c_fair_ : PySem.W.codeIn K cd_fair "fair" = true)
    (k_fair_ : PySem.W.keepIn K (.ref f_fair) = true)
    (a_weight_ : PySem.W.nsIn K mainGlobals "weight" = some (some (.ref f_weight)))
    (l_weight_ : K.lookup f_weight = some ⟨oc_weight, od_weight, .func (PySem.W.fnOf "weight" "weight" (defArgs s_weight) (defBody s_weight) (defScope s_weight) .none kV_weight dc_weight pm_weight an_weight cd_weight ct_weight), sl_weight⟩)
    (c_weight_ : PySem.W.codeIn K cd_weight "weight" = true)
    (k_weight_ : PySem.W.keepIn K (.ref f_weight) = true)
    (a_closed_holds_ : PySem.W.nsIn K mainGlobals "closed_holds" = some (some (.ref f_closed_holds)))
    (l_closed_holds_ : K.lookup f_closed_holds = some ⟨oc_closed_holds, od_closed_holds, .func (PySem.W.fnOf "closed_holds" "closed_holds" (defArgs s_closed_holds) (defBody s_closed_holds) (defScope s_closed_holds) .none kV_closed_holds dc_closed_holds pm_closed_holds an_closed_holds cd_closed_holds ct_closed_holds), sl_closed_holds⟩)
    (c_closed_holds_ : PySem.W.codeIn K cd_closed_holds "closed_holds" = true)
    (k_closed_holds_ : PySem.W.keepIn K (.ref f_closed_holds) = true)
    (a_holds_ : PySem.W.nsIn K mainGlobals "holds" = some (some (.ref f_holds)))
    (l_holds_ : K.lookup f_holds = some ⟨oc_holds, od_holds, .func (PySem.W.fnOf "holds" "holds" (defArgs s_holds) (defBody s_holds) (defScope s_holds) .none kV_holds dc_holds pm_holds an_holds cd_holds ct_holds), sl_holds⟩)
    (c_holds_ : PySem.W.codeIn K cd_holds "holds" = true)
    (k_holds_ : PySem.W.keepIn K (.ref f_holds) = true)
    (a__law_cell_at_ : PySem.W.nsIn K mainGlobals "_law_cell_at" = some (some (.ref f__law_cell_at)))
    (l__law_cell_at_ : K.lookup f__law_cell_at = some ⟨oc__law_cell_at, od__law_cell_at, .func (PySem.W.fnOf "_law_cell_at" "_law_cell_at" (defArgs s__law_cell_at) (defBody s__law_cell_at) (defScope s__law_cell_at) .none kV__law_cell_at dc__law_cell_at pm__law_cell_at an__law_cell_at cd__law_cell_at ct__law_cell_at), sl__law_cell_at⟩)
    (c__law_cell_at_ : PySem.W.codeIn K cd__law_cell_at "_law_cell_at" = true)
    (k__law_cell_at_ : PySem.W.keepIn K (.ref f__law_cell_at) = true)
    (a__law_mix_ : PySem.W.nsIn K mainGlobals "_law_mix" = some (some (.ref f__law_mix)))
    (l__law_mix_ : K.lookup f__law_mix = some ⟨oc__law_mix, od__law_mix, .func (PySem.W.fnOf "_law_mix" "_law_mix" (defArgs s__law_mix) (defBody s__law_mix) (defScope s__law_mix) .none kV__law_mix dc__law_mix pm__law_mix an__law_mix cd__law_mix ct__law_mix), sl__law_mix⟩)
    (c__law_mix_ : PySem.W.codeIn K cd__law_mix "_law_mix" = true)
    (k__law_mix_ : PySem.W.keepIn K (.ref f__law_mix) = true)
    (a__law_told_ : PySem.W.nsIn K mainGlobals "_law_told" = some (some (.ref f__law_told)))
    (l__law_told_ : K.lookup f__law_told = some ⟨oc__law_told, od__law_told, .func (PySem.W.fnOf "_law_told" "_law_told" (defArgs s__law_told) (defBody s__law_told) (defScope s__law_told) .none kV__law_told dc__law_told pm__law_told an__law_told cd__law_told ct__law_told), sl__law_told⟩)
    (c__law_told_ : PySem.W.codeIn K cd__law_told "_law_told" = true)
    (k__law_told_ : PySem.W.keepIn K (.ref f__law_told) = true)
    (a__law_cells_by_ : PySem.W.nsIn K mainGlobals "_law_cells_by" = some (some (.ref f__law_cells_by)))
    (l__law_cells_by_ : K.lookup f__law_cells_by = some ⟨oc__law_cells_by, od__law_cells_by, .func (PySem.W.fnOf "_law_cells_by" "_law_cells_by" (defArgs s__law_cells_by) (defBody s__law_cells_by) (defScope s__law_cells_by) .none kV__law_cells_by dc__law_cells_by pm__law_cells_by an__law_cells_by cd__law_cells_by ct__law_cells_by), sl__law_cells_by⟩)
    (c__law_cells_by_ : PySem.W.codeIn K cd__law_cells_by "_law_cells_by" = true)
    (k__law_cells_by_ : PySem.W.keepIn K (.ref f__law_cells_by) = true)
    (a__law_pegs_by_ : PySem.W.nsIn K mainGlobals "_law_pegs_by" = some (some (.ref f__law_pegs_by)))
    (l__law_pegs_by_ : K.lookup f__law_pegs_by = some ⟨oc__law_pegs_by, od__law_pegs_by, .func (PySem.W.fnOf "_law_pegs_by" "_law_pegs_by" (defArgs s__law_pegs_by) (defBody s__law_pegs_by) (defScope s__law_pegs_by) .none kV__law_pegs_by dc__law_pegs_by pm__law_pegs_by an__law_pegs_by cd__law_pegs_by ct__law_pegs_by), sl__law_pegs_by⟩)
    (c__law_pegs_by_ : PySem.W.codeIn K cd__law_pegs_by "_law_pegs_by" = true)
    (k__law_pegs_by_ : PySem.W.keepIn K (.ref f__law_pegs_by) = true)
    (a__law_between_ : PySem.W.nsIn K mainGlobals "_law_between" = some (some (.ref f__law_between)))
    (l__law_between_ : K.lookup f__law_between = some ⟨oc__law_between, od__law_between, .func (PySem.W.fnOf "_law_between" "_law_between" (defArgs s__law_between) (defBody s__law_between) (defScope s__law_between) .none kV__law_between dc__law_between pm__law_between an__law_between cd__law_between ct__law_between), sl__law_between⟩)
    (c__law_between_ : PySem.W.codeIn K cd__law_between "_law_between" = true)
    (k__law_between_ : PySem.W.keepIn K (.ref f__law_between) = true)
    (a__law_leaps_ : PySem.W.nsIn K mainGlobals "_law_leaps" = some (some (.ref f__law_leaps)))
    (l__law_leaps_ : K.lookup f__law_leaps = some ⟨oc__law_leaps, od__law_leaps, .func (PySem.W.fnOf "_law_leaps" "_law_leaps" (defArgs s__law_leaps) (defBody s__law_leaps) (defScope s__law_leaps) .none kV__law_leaps dc__law_leaps pm__law_leaps an__law_leaps cd__law_leaps ct__law_leaps), sl__law_leaps⟩)
    (c__law_leaps_ : PySem.W.codeIn K cd__law_leaps "_law_leaps" = true)
    (k__law_leaps_ : PySem.W.keepIn K (.ref f__law_leaps) = true)
    (a__law_open_ : PySem.W.nsIn K mainGlobals "_law_open" = some (some (.ref f__law_open)))
    (l__law_open_ : K.lookup f__law_open = some ⟨oc__law_open, od__law_open, .func (PySem.W.fnOf "_law_open" "_law_open" (defArgs s__law_open) (defBody s__law_open) (defScope s__law_open) .none kV__law_open dc__law_open pm__law_open an__law_open cd__law_open ct__law_open), sl__law_open⟩)
    (c__law_open_ : PySem.W.codeIn K cd__law_open "_law_open" = true)
    (k__law_open_ : PySem.W.keepIn K (.ref f__law_open) = true)
    (a__law_behind_ : PySem.W.nsIn K mainGlobals "_law_behind" = some (some (.ref f__law_behind)))
    (l__law_behind_ : K.lookup f__law_behind = some ⟨oc__law_behind, od__law_behind, .func (PySem.W.fnOf "_law_behind" "_law_behind" (defArgs s__law_behind) (defBody s__law_behind) (defScope s__law_behind) .none kV__law_behind dc__law_behind pm__law_behind an__law_behind cd__law_behind ct__law_behind), sl__law_behind⟩)
    (c__law_behind_ : PySem.W.codeIn K cd__law_behind "_law_behind" = true)
    (k__law_behind_ : PySem.W.keepIn K (.ref f__law_behind) = true)
    (a__law_reach_ : PySem.W.nsIn K mainGlobals "_law_reach" = some (some (.ref f__law_reach)))
    (l__law_reach_ : K.lookup f__law_reach = some ⟨oc__law_reach, od__law_reach, .func (PySem.W.fnOf "_law_reach" "_law_reach" (defArgs s__law_reach) (defBody s__law_reach) (defScope s__law_reach) .none kV__law_reach dc__law_reach pm__law_reach an__law_reach cd__law_reach ct__law_reach), sl__law_reach⟩)
    (c__law_reach_ : PySem.W.codeIn K cd__law_reach "_law_reach" = true)
    (k__law_reach_ : PySem.W.keepIn K (.ref f__law_reach) = true)
    (a__law_class_ : PySem.W.nsIn K mainGlobals "_law_class" = some (some (.ref f__law_class)))
    (l__law_class_ : K.lookup f__law_class = some ⟨oc__law_class, od__law_class, .func (PySem.W.fnOf "_law_class" "_law_class" (defArgs s__law_class) (defBody s__law_class) (defScope s__law_class) .none kV__law_class dc__law_class pm__law_class an__law_class cd__law_class ct__law_class), sl__law_class⟩)
    (c__law_class_ : PySem.W.codeIn K cd__law_class "_law_class" = true)
    (k__law_class_ : PySem.W.keepIn K (.ref f__law_class) = true)
    (a__law_weights_by_ : PySem.W.nsIn K mainGlobals "_law_weights_by" = some (some (.ref f__law_weights_by)))
    (l__law_weights_by_ : K.lookup f__law_weights_by = some ⟨oc__law_weights_by, od__law_weights_by, .func (PySem.W.fnOf "_law_weights_by" "_law_weights_by" (defArgs s__law_weights_by) (defBody s__law_weights_by) (defScope s__law_weights_by) .none kV__law_weights_by dc__law_weights_by pm__law_weights_by an__law_weights_by cd__law_weights_by ct__law_weights_by), sl__law_weights_by⟩)
    (c__law_weights_by_ : PySem.W.codeIn K cd__law_weights_by "_law_weights_by" = true)
    (k__law_weights_by_ : PySem.W.keepIn K (.ref f__law_weights_by) = true)
    (a__law_raised_ : PySem.W.nsIn K mainGlobals "_law_raised" = some (some (.ref f__law_raised)))
    (l__law_raised_ : K.lookup f__law_raised = some ⟨oc__law_raised, od__law_raised, .func (PySem.W.fnOf "_law_raised" "_law_raised" (defArgs s__law_raised) (defBody s__law_raised) (defScope s__law_raised) .none kV__law_raised dc__law_raised pm__law_raised an__law_raised cd__law_raised ct__law_raised), sl__law_raised⟩)
    (c__law_raised_ : PySem.W.codeIn K cd__law_raised "_law_raised" = true)
    (k__law_raised_ : PySem.W.keepIn K (.ref f__law_raised) = true)
    (a__law_fair_ : PySem.W.nsIn K mainGlobals "_law_fair" = some (some (.ref f__law_fair)))
    (l__law_fair_ : K.lookup f__law_fair = some ⟨oc__law_fair, od__law_fair, .func (PySem.W.fnOf "_law_fair" "_law_fair" (defArgs s__law_fair) (defBody s__law_fair) (defScope s__law_fair) .none kV__law_fair dc__law_fair pm__law_fair an__law_fair cd__law_fair ct__law_fair), sl__law_fair⟩)
    (c__law_fair_ : PySem.W.codeIn K cd__law_fair "_law_fair" = true)
    (k__law_fair_ : PySem.W.keepIn K (.ref f__law_fair) = true)
    (a__law_weight_ : PySem.W.nsIn K mainGlobals "_law_weight" = some (some (.ref f__law_weight)))
    (l__law_weight_ : K.lookup f__law_weight = some ⟨oc__law_weight, od__law_weight, .func (PySem.W.fnOf "_law_weight" "_law_weight" (defArgs s__law_weight) (defBody s__law_weight) (defScope s__law_weight) .none kV__law_weight dc__law_weight pm__law_weight an__law_weight cd__law_weight ct__law_weight), sl__law_weight⟩)
    (c__law_weight_ : PySem.W.codeIn K cd__law_weight "_law_weight" = true)
    (k__law_weight_ : PySem.W.keepIn K (.ref f__law_weight) = true)
    (a__law_holds_ : PySem.W.nsIn K mainGlobals "_law_holds" = some (some (.ref f__law_holds)))
    (l__law_holds_ : K.lookup f__law_holds = some ⟨oc__law_holds, od__law_holds, .func (PySem.W.fnOf "_law_holds" "_law_holds" (defArgs s__law_holds) (defBody s__law_holds) (defScope s__law_holds) .none kV__law_holds dc__law_holds pm__law_holds an__law_holds cd__law_holds ct__law_holds), sl__law_holds⟩)
    (c__law_holds_ : PySem.W.codeIn K cd__law_holds "_law_holds" = true)
    (k__law_holds_ : PySem.W.keepIn K (.ref f__law_holds) = true)
    (a__law_paper_by_ : PySem.W.nsIn K mainGlobals "_law_paper_by" = some (some (.ref f__law_paper_by)))
    (l__law_paper_by_ : K.lookup f__law_paper_by = some ⟨oc__law_paper_by, od__law_paper_by, .func (PySem.W.fnOf "_law_paper_by" "_law_paper_by" (defArgs s__law_paper_by) (defBody s__law_paper_by) (defScope s__law_paper_by) .none kV__law_paper_by dc__law_paper_by pm__law_paper_by an__law_paper_by cd__law_paper_by ct__law_paper_by), sl__law_paper_by⟩)
    (c__law_paper_by_ : PySem.W.codeIn K cd__law_paper_by "_law_paper_by" = true)
    (k__law_paper_by_ : PySem.W.keepIn K (.ref f__law_paper_by) = true)
    (a_law_ : PySem.W.nsIn K mainGlobals "law" = some (some (.ref f_law)))
    (l_law_ : K.lookup f_law = some ⟨oc_law, od_law, .func (PySem.W.fnOf "law" "law" (defArgs s_law) (defBody s_law) (defScope s_law) .none kV_law dc_law pm_law an_law cd_law ct_law), sl_law⟩)
    (c_law_ : PySem.W.codeIn K cd_law "law" = true)
    (k_law_ : PySem.W.keepIn K (.ref f_law) = true) :
    ∃ fd : FuncData, (∀ (s : Shared) (v : Value), BindsTo s fd ⟨[v], []⟩ [("script", v)]) ∧ ∀ base : Heap, K.In base → base.Ns mainGlobals mg → FnG P w K mg base 7 fa fd ["script"] (spLaw K) := by
  have e := hfa.symm.trans (PySem.W.mg_of X G a_law_)
  cases e
  have T : Txt (⟨K, C, fi, pe, bb, bp, C, bw, C, t1, t2, t3⟩ : Ad) P w mg := { range := PySem.W.mg_none_of X G z_range_, len := PySem.W.mg_none_of X G z_len_, all := PySem.W.mg_none_of X G z_all_, abs := PySem.W.mg_none_of X G z_abs_, list := PySem.W.mg_none_of X G z_list_, tuple := PySem.W.mg_none_of X G z_tuple_, sorted := PySem.W.mg_none_of X G z_sorted_, enumerate := PySem.W.mg_none_of X G z_enumerate_, sum := PySem.W.mg_none_of X G z_sum_, isinstance := PySem.W.mg_none_of X G z_isinstance_, min := PySem.W.mg_none_of X G z_min_, max := PySem.W.mg_none_of X G z_max_, repr := PySem.W.mg_none_of X G z_repr_, int := PySem.W.mg_none_of X G z_int_, str := PySem.W.mg_none_of X G z_str_, bool := PySem.W.mg_none_of X G z_bool_, ValueError := PySem.W.mg_none_of X G z_ValueError_, c_SIDE := PySem.W.mg_of X G v_c_SIDE_, c_MOST := PySem.W.mg_of X G v_c_MOST_, c_BOUND := PySem.W.mg_of X G v_c_BOUND_, cl := ⟨pg_, hd_, po_, sa_⟩, nC := q_nC_, g_C := PySem.W.mg_of X G r_g_C_, mkC := ⟨mks_, ini_, isf_, kc_⟩, x_pe := q_x_pe_, g_pe := PySem.W.mg_of X G r_g_pe_, k_pe := q_k_pe_, b_pe := q_b_pe_, t_pe := q_t_pe_, x_bb := q_x_bb_, g_bb := PySem.W.mg_of X G r_g_bb_, k_bb := q_k_bb_, b_bb := q_b_bb_, t_bb := q_t_bb_, x_bp := q_x_bp_, g_bp := PySem.W.mg_of X G r_g_bp_, k_bp := q_k_bp_, b_bp := q_b_bp_, t_bp := q_t_bp_, x_bw := q_x_bw_, g_bw := PySem.W.mg_of X G r_g_bw_, k_bw := q_k_bw_, b_bw := q_b_bw_, t_bw := q_t_bw_ }
  have F_rising := L2.fun_mk (st := s_rising) l_rising_ c_rising_ k_rising_
  have b_rising := F_rising.binds (ps := ["cells"]) fun _ _ _ _ _ _ us hl => match us, hl with | [_], _ => rfl
  have F_Board := L2.fun_mk (st := s_Board) l_Board_ c_Board_ k_Board_
  have b_Board := F_Board.binds (ps := ["self", "cells"]) fun _ _ _ _ _ _ us hl => match us, hl with | [_, _], _ => rfl
  have F_between := L2.fun_mk (st := s_between) l_between_ c_between_ k_between_
  have b_between := F_between.binds (ps := ["leap"]) fun _ _ _ _ _ _ us hl => match us, hl with | [_], _ => rfl
  have F_is_leap := L2.fun_mk (st := s_is_leap) l_is_leap_ c_is_leap_ k_is_leap_
  have b_is_leap := F_is_leap.binds (ps := ["board", "leap"]) fun _ _ _ _ _ _ us hl => match us, hl with | [_, _], _ => rfl
  have F_leaps := L2.fun_mk (st := s_leaps) l_leaps_ c_leaps_ k_leaps_
  have b_leaps := F_leaps.binds (ps := ["board"]) fun _ _ _ _ _ _ us hl => match us, hl with | [_], _ => rfl
  have F_is_standing := L2.fun_mk (st := s_is_standing) l_is_standing_ c_is_standing_ k_is_standing_
  have b_is_standing := F_is_standing.binds (ps := ["board", "pegs"]) fun _ _ _ _ _ _ us hl => match us, hl with | [_, _], _ => rfl
  have F_check_pegs := L2.fun_mk (st := s_check_pegs) l_check_pegs_ c_check_pegs_ k_check_pegs_
  have b_check_pegs := F_check_pegs.binds (ps := ["board", "pegs"]) fun _ _ _ _ _ _ us hl => match us, hl with | [_, _], _ => rfl
  have F_can := L2.fun_mk (st := s_can) l_can_ c_can_ k_can_
  have b_can := F_can.binds (ps := ["board", "pegs", "leap"]) fun _ _ _ _ _ _ us hl => match us, hl with | [_, _, _], _ => rfl
  have F_done := L2.fun_mk (st := s_done) l_done_ c_done_ k_done_
  have b_done := F_done.binds (ps := ["pegs", "leap"]) fun _ _ _ _ _ _ us hl => match us, hl with | [_, _], _ => rfl
  have F_open_leaps := L2.fun_mk (st := s_open_leaps) l_open_leaps_ c_open_leaps_ k_open_leaps_
  have b_open_leaps := F_open_leaps.binds (ps := ["board", "pegs"]) fun _ _ _ _ _ _ us hl => match us, hl with | [_, _], _ => rfl
  have F_class_of := L2.fun_mk (st := s_class_of) l_class_of_ c_class_of_ k_class_of_
  have b_class_of := F_class_of.binds (ps := ["board", "pegs"]) fun _ _ _ _ _ _ us hl => match us, hl with | [_, _], _ => rfl
  have F_are_weights := L2.fun_mk (st := s_are_weights) l_are_weights_ c_are_weights_ k_are_weights_
  have b_are_weights := F_are_weights.binds (ps := ["board", "weights"]) fun _ _ _ _ _ _ us hl => match us, hl with | [_, _], _ => rfl
  have F_check_weights := L2.fun_mk (st := s_check_weights) l_check_weights_ c_check_weights_ k_check_weights_
  have b_check_weights := F_check_weights.binds (ps := ["board", "weights"]) fun _ _ _ _ _ _ us hl => match us, hl with | [_, _], _ => rfl
  have F_weight_at := L2.fun_mk (st := s_weight_at) l_weight_at_ c_weight_at_ k_weight_at_
  have b_weight_at := F_weight_at.binds (ps := ["board", "weights", "cell"]) fun _ _ _ _ _ _ us hl => match us, hl with | [_, _, _], _ => rfl
  have F_fair := L2.fun_mk (st := s_fair) l_fair_ c_fair_ k_fair_
  have b_fair := F_fair.binds (ps := ["board", "weights"]) fun _ _ _ _ _ _ us hl => match us, hl with | [_, _], _ => rfl
  have F_weight := L2.fun_mk (st := s_weight) l_weight_ c_weight_ k_weight_
  have b_weight := F_weight.binds (ps := ["board", "weights", "pegs"]) fun _ _ _ _ _ _ us hl => match us, hl with | [_, _, _], _ => rfl
  have F_closed_holds := L2.fun_mk (st := s_closed_holds) l_closed_holds_ c_closed_holds_ k_closed_holds_
  have b_closed_holds := F_closed_holds.binds (ps := ["board", "pegs", "others", "standings"]) fun _ _ _ _ _ _ us hl => match us, hl with | [_, _, _, _], _ => rfl
  have F_holds := L2.fun_mk (st := s_holds) l_holds_ c_holds_ k_holds_
  have b_holds := F_holds.binds (ps := ["board", "pegs", "others", "paper"]) fun _ _ _ _ _ _ us hl => match us, hl with | [_, _, _, _], _ => rfl
  have F__law_cell_at := L2.fun_mk (st := s__law_cell_at) l__law_cell_at_ c__law_cell_at_ k__law_cell_at_
  have b__law_cell_at := F__law_cell_at.binds (ps := ["script", "k"]) fun _ _ _ _ _ _ us hl => match us, hl with | [_, _], _ => rfl
  have F__law_mix := L2.fun_mk (st := s__law_mix) l__law_mix_ c__law_mix_ k__law_mix_
  have b__law_mix := F__law_mix.binds (ps := ["cell", "k", "many"]) fun _ _ _ _ _ _ us hl => match us, hl with | [_, _, _], _ => rfl
  have F__law_told := L2.fun_mk (st := s__law_told) l__law_told_ c__law_told_ k__law_told_
  have b__law_told := F__law_told.binds (ps := ["found", "due"]) fun _ _ _ _ _ _ us hl => match us, hl with | [_, _], _ => rfl
  have F__law_cells_by := L2.fun_mk (st := s__law_cells_by) l__law_cells_by_ c__law_cells_by_ k__law_cells_by_
  have b__law_cells_by := F__law_cells_by.binds (ps := ["script", "most"]) fun _ _ _ _ _ _ us hl => match us, hl with | [_, _], _ => rfl
  have F__law_pegs_by := L2.fun_mk (st := s__law_pegs_by) l__law_pegs_by_ c__law_pegs_by_ k__law_pegs_by_
  have b__law_pegs_by := F__law_pegs_by.binds (ps := ["cell", "cells"]) fun _ _ _ _ _ _ us hl => match us, hl with | [_, _], _ => rfl
  have F__law_between := L2.fun_mk (st := s__law_between) l__law_between_ c__law_between_ k__law_between_
  have b__law_between := F__law_between.binds (ps := ["leap"]) fun _ _ _ _ _ _ us hl => match us, hl with | [_], _ => rfl
  have F__law_leaps := L2.fun_mk (st := s__law_leaps) l__law_leaps_ c__law_leaps_ k__law_leaps_
  have b__law_leaps := F__law_leaps.binds (ps := ["cells"]) fun _ _ _ _ _ _ us hl => match us, hl with | [_], _ => rfl
  have F__law_open := L2.fun_mk (st := s__law_open) l__law_open_ c__law_open_ k__law_open_
  have b__law_open := F__law_open.binds (ps := ["cells", "pegs"]) fun _ _ _ _ _ _ us hl => match us, hl with | [_, _], _ => rfl
  have F__law_behind := L2.fun_mk (st := s__law_behind) l__law_behind_ c__law_behind_ k__law_behind_
  have b__law_behind := F__law_behind.binds (ps := ["pegs", "leap"]) fun _ _ _ _ _ _ us hl => match us, hl with | [_, _], _ => rfl
  have F__law_reach := L2.fun_mk (st := s__law_reach) l__law_reach_ c__law_reach_ k__law_reach_
  have b__law_reach := F__law_reach.binds (ps := ["cells", "pegs"]) fun _ _ _ _ _ _ us hl => match us, hl with | [_, _], _ => rfl
  have F__law_class := L2.fun_mk (st := s__law_class) l__law_class_ c__law_class_ k__law_class_
  have b__law_class := F__law_class.binds (ps := ["pegs"]) fun _ _ _ _ _ _ us hl => match us, hl with | [_], _ => rfl
  have F__law_weights_by := L2.fun_mk (st := s__law_weights_by) l__law_weights_by_ c__law_weights_by_ k__law_weights_by_
  have b__law_weights_by := F__law_weights_by.binds (ps := ["cell", "cells"]) fun _ _ _ _ _ _ us hl => match us, hl with | [_, _], _ => rfl
  have F__law_raised := L2.fun_mk (st := s__law_raised) l__law_raised_ c__law_raised_ k__law_raised_
  have b__law_raised := F__law_raised.binds (ps := ["cells", "weights"]) fun _ _ _ _ _ _ us hl => match us, hl with | [_, _], _ => rfl
  have F__law_fair := L2.fun_mk (st := s__law_fair) l__law_fair_ c__law_fair_ k__law_fair_
  have b__law_fair := F__law_fair.binds (ps := ["cells", "weights"]) fun _ _ _ _ _ _ us hl => match us, hl with | [_, _], _ => rfl
  have F__law_weight := L2.fun_mk (st := s__law_weight) l__law_weight_ c__law_weight_ k__law_weight_
  have b__law_weight := F__law_weight.binds (ps := ["cells", "weights", "pegs"]) fun _ _ _ _ _ _ us hl => match us, hl with | [_, _, _], _ => rfl
  have F__law_holds := L2.fun_mk (st := s__law_holds) l__law_holds_ c__law_holds_ k__law_holds_
  have b__law_holds := F__law_holds.binds (ps := ["cells", "pegs", "others", "paper"]) fun _ _ _ _ _ _ us hl => match us, hl with | [_, _, _, _], _ => rfl
  have F__law_paper_by := L2.fun_mk (st := s__law_paper_by) l__law_paper_by_ c__law_paper_by_ k__law_paper_by_
  have b__law_paper_by := F__law_paper_by.binds (ps := ["script", "cells", "pegs", "others"]) fun _ _ _ _ _ _ us hl => match us, hl with | [_, _, _, _], _ => rfl
  have F_law := L2.fun_mk (st := s_law) l_law_ c_law_ k_law_
  refine ⟨PySem.W.fnOf "law" "law" (defArgs s_law) (defBody s_law) (defScope s_law) .none kV_law dc_law pm_law an_law cd_law ct_law, fun s v => .of_eq rfl, fun base _ _ => ?_⟩
  have G_rising : Df P w K mg base "rising" ["cells"] 1 (spO C (a_rising (⟨K, C, fi, pe, bb, bp, C, bw, C, t1, t2, t3⟩ : Ad)) (o_rising (⟨K, C, fi, pe, bb, bp, C, bw, C, t1, t2, t3⟩ : Ad))) f_rising _ := ⟨PySem.W.mg_of X G a_rising_, k_rising_, b_rising, ok_rising (base := base) T  F_rising⟩
  have G_Board : Dm P w K mg base ["self", "cells"] 2 (sp_Board (⟨K, C, fi, pe, bb, bp, C, bw, C, t1, t2, t3⟩ : Ad)) fi _ := ⟨b_Board, ok_Board (base := base) T G_rising F_Board⟩
  have G_between : Df P w K mg base "between" ["leap"] 1 (spO C (a_between (⟨K, C, fi, pe, bb, bp, C, bw, C, t1, t2, t3⟩ : Ad)) (o_between (⟨K, C, fi, pe, bb, bp, C, bw, C, t1, t2, t3⟩ : Ad))) f_between _ := ⟨PySem.W.mg_of X G a_between_, k_between_, b_between, ok_between (base := base) T  F_between⟩
  have G_is_leap : Df P w K mg base "is_leap" ["board", "leap"] 2 (spO C (a_is_leap (⟨K, C, fi, pe, bb, bp, C, bw, C, t1, t2, t3⟩ : Ad)) (o_is_leap (⟨K, C, fi, pe, bb, bp, C, bw, C, t1, t2, t3⟩ : Ad))) f_is_leap _ := ⟨PySem.W.mg_of X G a_is_leap_, k_is_leap_, b_is_leap, ok_is_leap (base := base) T G_between F_is_leap⟩
  have G_leaps : Df P w K mg base "leaps" ["board"] 3 (spO C (a_leaps (⟨K, C, fi, pe, bb, bp, C, bw, C, t1, t2, t3⟩ : Ad)) (o_leaps (⟨K, C, fi, pe, bb, bp, C, bw, C, t1, t2, t3⟩ : Ad))) f_leaps _ := ⟨PySem.W.mg_of X G a_leaps_, k_leaps_, b_leaps, ok_leaps (base := base) T G_is_leap F_leaps⟩
  have G_is_standing : Df P w K mg base "is_standing" ["board", "pegs"] 2 (spO C (a_is_standing (⟨K, C, fi, pe, bb, bp, C, bw, C, t1, t2, t3⟩ : Ad)) (o_is_standing (⟨K, C, fi, pe, bb, bp, C, bw, C, t1, t2, t3⟩ : Ad))) f_is_standing _ := ⟨PySem.W.mg_of X G a_is_standing_, k_is_standing_, b_is_standing, ok_is_standing (base := base) T G_rising F_is_standing⟩
  have G_check_pegs : Df P w K mg base "check_pegs" ["board", "pegs"] 3 (spO C (a_check_pegs (⟨K, C, fi, pe, bb, bp, C, bw, C, t1, t2, t3⟩ : Ad)) (o_check_pegs (⟨K, C, fi, pe, bb, bp, C, bw, C, t1, t2, t3⟩ : Ad))) f_check_pegs _ := ⟨PySem.W.mg_of X G a_check_pegs_, k_check_pegs_, b_check_pegs, ok_check_pegs (base := base) T G_is_standing F_check_pegs⟩
  have G_can : Df P w K mg base "can" ["board", "pegs", "leap"] 3 (spO C (a_can (⟨K, C, fi, pe, bb, bp, C, bw, C, t1, t2, t3⟩ : Ad)) (o_can (⟨K, C, fi, pe, bb, bp, C, bw, C, t1, t2, t3⟩ : Ad))) f_can _ := ⟨PySem.W.mg_of X G a_can_, k_can_, b_can, ok_can (base := base) T G_is_leap G_between F_can⟩
  have G_done : Df P w K mg base "done" ["pegs", "leap"] 2 (spO C (a_done (⟨K, C, fi, pe, bb, bp, C, bw, C, t1, t2, t3⟩ : Ad)) (o_done (⟨K, C, fi, pe, bb, bp, C, bw, C, t1, t2, t3⟩ : Ad))) f_done _ := ⟨PySem.W.mg_of X G a_done_, k_done_, b_done, ok_done (base := base) T G_between F_done⟩
  have G_open_leaps : Df P w K mg base "open_leaps" ["board", "pegs"] 4 (spO C (a_open_leaps (⟨K, C, fi, pe, bb, bp, C, bw, C, t1, t2, t3⟩ : Ad)) (o_open_leaps (⟨K, C, fi, pe, bb, bp, C, bw, C, t1, t2, t3⟩ : Ad))) f_open_leaps _ := ⟨PySem.W.mg_of X G a_open_leaps_, k_open_leaps_, b_open_leaps, ok_open_leaps (base := base) T G_check_pegs G_leaps G_can F_open_leaps⟩
  have G_class_of : Df P w K mg base "class_of" ["board", "pegs"] 4 (spO C (a_class_of (⟨K, C, fi, pe, bb, bp, C, bw, C, t1, t2, t3⟩ : Ad)) (o_class_of (⟨K, C, fi, pe, bb, bp, C, bw, C, t1, t2, t3⟩ : Ad))) f_class_of _ := ⟨PySem.W.mg_of X G a_class_of_, k_class_of_, b_class_of, ok_class_of (base := base) T G_check_pegs F_class_of⟩
  have G_are_weights : Df P w K mg base "are_weights" ["board", "weights"] 1 (spO C (a_are_weights (⟨K, C, fi, pe, bb, bp, C, bw, C, t1, t2, t3⟩ : Ad)) (o_are_weights (⟨K, C, fi, pe, bb, bp, C, bw, C, t1, t2, t3⟩ : Ad))) f_are_weights _ := ⟨PySem.W.mg_of X G a_are_weights_, k_are_weights_, b_are_weights, ok_are_weights (base := base) T  F_are_weights⟩
  have G_check_weights : Df P w K mg base "check_weights" ["board", "weights"] 2 (spO C (a_check_weights (⟨K, C, fi, pe, bb, bp, C, bw, C, t1, t2, t3⟩ : Ad)) (o_check_weights (⟨K, C, fi, pe, bb, bp, C, bw, C, t1, t2, t3⟩ : Ad))) f_check_weights _ := ⟨PySem.W.mg_of X G a_check_weights_, k_check_weights_, b_check_weights, ok_check_weights (base := base) T G_are_weights F_check_weights⟩
  have G_weight_at : Df P w K mg base "weight_at" ["board", "weights", "cell"] 1 (spO C (a_weight_at (⟨K, C, fi, pe, bb, bp, C, bw, C, t1, t2, t3⟩ : Ad)) (o_weight_at (⟨K, C, fi, pe, bb, bp, C, bw, C, t1, t2, t3⟩ : Ad))) f_weight_at _ := ⟨PySem.W.mg_of X G a_weight_at_, k_weight_at_, b_weight_at, ok_weight_at (base := base) T  F_weight_at⟩
  have G_fair : Df P w K mg base "fair" ["board", "weights"] 4 (spO C (a_fair (⟨K, C, fi, pe, bb, bp, C, bw, C, t1, t2, t3⟩ : Ad)) (o_fair (⟨K, C, fi, pe, bb, bp, C, bw, C, t1, t2, t3⟩ : Ad))) f_fair _ := ⟨PySem.W.mg_of X G a_fair_, k_fair_, b_fair, ok_fair (base := base) T G_check_weights G_leaps G_weight_at G_between F_fair⟩
  have G_weight : Df P w K mg base "weight" ["board", "weights", "pegs"] 4 (spO C (a_weight (⟨K, C, fi, pe, bb, bp, C, bw, C, t1, t2, t3⟩ : Ad)) (o_weight (⟨K, C, fi, pe, bb, bp, C, bw, C, t1, t2, t3⟩ : Ad))) f_weight _ := ⟨PySem.W.mg_of X G a_weight_, k_weight_, b_weight, ok_weight (base := base) T G_check_weights G_check_pegs G_weight_at F_weight⟩
  have G_closed_holds : Df P w K mg base "closed_holds" ["board", "pegs", "others", "standings"] 5 (spO C (a_closed_holds (⟨K, C, fi, pe, bb, bp, C, bw, C, t1, t2, t3⟩ : Ad)) (o_closed_holds (⟨K, C, fi, pe, bb, bp, C, bw, C, t1, t2, t3⟩ : Ad))) f_closed_holds _ := ⟨PySem.W.mg_of X G a_closed_holds_, k_closed_holds_, b_closed_holds, ok_closed_holds (base := base) T G_open_leaps G_is_standing G_done F_closed_holds⟩
  have G_holds : Df P w K mg base "holds" ["board", "pegs", "others", "paper"] 6 (spO C (a_holds (⟨K, C, fi, pe, bb, bp, C, bw, C, t1, t2, t3⟩ : Ad)) (o_holds (⟨K, C, fi, pe, bb, bp, C, bw, C, t1, t2, t3⟩ : Ad))) f_holds _ := ⟨PySem.W.mg_of X G a_holds_, k_holds_, b_holds, ok_holds (base := base) T G_check_pegs G_closed_holds G_weight G_class_of G_are_weights G_fair F_holds⟩
  have G__law_cell_at : Df P w K mg base "_law_cell_at" ["script", "k"] 1 (spO C (a__law_cell_at (⟨K, C, fi, pe, bb, bp, C, bw, C, t1, t2, t3⟩ : Ad)) (o__law_cell_at (⟨K, C, fi, pe, bb, bp, C, bw, C, t1, t2, t3⟩ : Ad))) f__law_cell_at _ := ⟨PySem.W.mg_of X G a__law_cell_at_, k__law_cell_at_, b__law_cell_at, ok__law_cell_at (base := base) T  F__law_cell_at⟩
  have G__law_mix : Df P w K mg base "_law_mix" ["cell", "k", "many"] 1 (spO C (a__law_mix (⟨K, C, fi, pe, bb, bp, C, bw, C, t1, t2, t3⟩ : Ad)) (o__law_mix (⟨K, C, fi, pe, bb, bp, C, bw, C, t1, t2, t3⟩ : Ad))) f__law_mix _ := ⟨PySem.W.mg_of X G a__law_mix_, k__law_mix_, b__law_mix, ok__law_mix (base := base) T  F__law_mix⟩
  have G__law_told : Df P w K mg base "_law_told" ["found", "due"] 1 (spO C (a__law_told (⟨K, C, fi, pe, bb, bp, C, bw, C, t1, t2, t3⟩ : Ad)) (o__law_told (⟨K, C, fi, pe, bb, bp, C, bw, C, t1, t2, t3⟩ : Ad))) f__law_told _ := ⟨PySem.W.mg_of X G a__law_told_, k__law_told_, b__law_told, ok__law_told (base := base) T  F__law_told⟩
  have G__law_cells_by : Df P w K mg base "_law_cells_by" ["script", "most"] 2 (spO C (a__law_cells_by (⟨K, C, fi, pe, bb, bp, C, bw, C, t1, t2, t3⟩ : Ad)) (o__law_cells_by (⟨K, C, fi, pe, bb, bp, C, bw, C, t1, t2, t3⟩ : Ad))) f__law_cells_by _ := ⟨PySem.W.mg_of X G a__law_cells_by_, k__law_cells_by_, b__law_cells_by, ok__law_cells_by (base := base) T G__law_cell_at G__law_mix F__law_cells_by⟩
  have G__law_pegs_by : Df P w K mg base "_law_pegs_by" ["cell", "cells"] 2 (spO C (a__law_pegs_by (⟨K, C, fi, pe, bb, bp, C, bw, C, t1, t2, t3⟩ : Ad)) (o__law_pegs_by (⟨K, C, fi, pe, bb, bp, C, bw, C, t1, t2, t3⟩ : Ad))) f__law_pegs_by _ := ⟨PySem.W.mg_of X G a__law_pegs_by_, k__law_pegs_by_, b__law_pegs_by, ok__law_pegs_by (base := base) T G__law_mix F__law_pegs_by⟩
  have G__law_between : Df P w K mg base "_law_between" ["leap"] 1 (spO C (a__law_between (⟨K, C, fi, pe, bb, bp, C, bw, C, t1, t2, t3⟩ : Ad)) (o__law_between (⟨K, C, fi, pe, bb, bp, C, bw, C, t1, t2, t3⟩ : Ad))) f__law_between _ := ⟨PySem.W.mg_of X G a__law_between_, k__law_between_, b__law_between, ok__law_between (base := base) T  F__law_between⟩
  have G__law_leaps : Df P w K mg base "_law_leaps" ["cells"] 2 (spO C (a__law_leaps (⟨K, C, fi, pe, bb, bp, C, bw, C, t1, t2, t3⟩ : Ad)) (o__law_leaps (⟨K, C, fi, pe, bb, bp, C, bw, C, t1, t2, t3⟩ : Ad))) f__law_leaps _ := ⟨PySem.W.mg_of X G a__law_leaps_, k__law_leaps_, b__law_leaps, ok__law_leaps (base := base) T G__law_between F__law_leaps⟩
  have G__law_open : Df P w K mg base "_law_open" ["cells", "pegs"] 3 (spO C (a__law_open (⟨K, C, fi, pe, bb, bp, C, bw, C, t1, t2, t3⟩ : Ad)) (o__law_open (⟨K, C, fi, pe, bb, bp, C, bw, C, t1, t2, t3⟩ : Ad))) f__law_open _ := ⟨PySem.W.mg_of X G a__law_open_, k__law_open_, b__law_open, ok__law_open (base := base) T G__law_leaps G__law_between F__law_open⟩
  have G__law_behind : Df P w K mg base "_law_behind" ["pegs", "leap"] 2 (spO C (a__law_behind (⟨K, C, fi, pe, bb, bp, C, bw, C, t1, t2, t3⟩ : Ad)) (o__law_behind (⟨K, C, fi, pe, bb, bp, C, bw, C, t1, t2, t3⟩ : Ad))) f__law_behind _ := ⟨PySem.W.mg_of X G a__law_behind_, k__law_behind_, b__law_behind, ok__law_behind (base := base) T G__law_between F__law_behind⟩
  have G__law_reach : Df P w K mg base "_law_reach" ["cells", "pegs"] 4 (spO C (a__law_reach (⟨K, C, fi, pe, bb, bp, C, bw, C, t1, t2, t3⟩ : Ad)) (o__law_reach (⟨K, C, fi, pe, bb, bp, C, bw, C, t1, t2, t3⟩ : Ad))) f__law_reach _ := ⟨PySem.W.mg_of X G a__law_reach_, k__law_reach_, b__law_reach, ok__law_reach (base := base) T G__law_open G__law_behind F__law_reach⟩
  have G__law_class : Df P w K mg base "_law_class" ["pegs"] 1 (spO C (a__law_class (⟨K, C, fi, pe, bb, bp, C, bw, C, t1, t2, t3⟩ : Ad)) (o__law_class (⟨K, C, fi, pe, bb, bp, C, bw, C, t1, t2, t3⟩ : Ad))) f__law_class _ := ⟨PySem.W.mg_of X G a__law_class_, k__law_class_, b__law_class, ok__law_class (base := base) T  F__law_class⟩
  have G__law_weights_by : Df P w K mg base "_law_weights_by" ["cell", "cells"] 2 (spO C (a__law_weights_by (⟨K, C, fi, pe, bb, bp, C, bw, C, t1, t2, t3⟩ : Ad)) (o__law_weights_by (⟨K, C, fi, pe, bb, bp, C, bw, C, t1, t2, t3⟩ : Ad))) f__law_weights_by _ := ⟨PySem.W.mg_of X G a__law_weights_by_, k__law_weights_by_, b__law_weights_by, ok__law_weights_by (base := base) T G__law_mix F__law_weights_by⟩
  have G__law_raised : Df P w K mg base "_law_raised" ["cells", "weights"] 3 (spO C (a__law_raised (⟨K, C, fi, pe, bb, bp, C, bw, C, t1, t2, t3⟩ : Ad)) (o__law_raised (⟨K, C, fi, pe, bb, bp, C, bw, C, t1, t2, t3⟩ : Ad))) f__law_raised _ := ⟨PySem.W.mg_of X G a__law_raised_, k__law_raised_, b__law_raised, ok__law_raised (base := base) T G__law_leaps G__law_between F__law_raised⟩
  have G__law_fair : Df P w K mg base "_law_fair" ["cells", "weights"] 3 (spO C (a__law_fair (⟨K, C, fi, pe, bb, bp, C, bw, C, t1, t2, t3⟩ : Ad)) (o__law_fair (⟨K, C, fi, pe, bb, bp, C, bw, C, t1, t2, t3⟩ : Ad))) f__law_fair _ := ⟨PySem.W.mg_of X G a__law_fair_, k__law_fair_, b__law_fair, ok__law_fair (base := base) T G__law_leaps G__law_between F__law_fair⟩
  have G__law_weight : Df P w K mg base "_law_weight" ["cells", "weights", "pegs"] 1 (spO C (a__law_weight (⟨K, C, fi, pe, bb, bp, C, bw, C, t1, t2, t3⟩ : Ad)) (o__law_weight (⟨K, C, fi, pe, bb, bp, C, bw, C, t1, t2, t3⟩ : Ad))) f__law_weight _ := ⟨PySem.W.mg_of X G a__law_weight_, k__law_weight_, b__law_weight, ok__law_weight (base := base) T  F__law_weight⟩
  have G__law_holds : Df P w K mg base "_law_holds" ["cells", "pegs", "others", "paper"] 4 (spO C (a__law_holds (⟨K, C, fi, pe, bb, bp, C, bw, C, t1, t2, t3⟩ : Ad)) (o__law_holds (⟨K, C, fi, pe, bb, bp, C, bw, C, t1, t2, t3⟩ : Ad))) f__law_holds _ := ⟨PySem.W.mg_of X G a__law_holds_, k__law_holds_, b__law_holds, ok__law_holds (base := base) T G__law_fair G__law_weight G__law_class G__law_open G__law_behind F__law_holds⟩
  have G__law_paper_by : Df P w K mg base "_law_paper_by" ["script", "cells", "pegs", "others"] 5 (spO C (a__law_paper_by (⟨K, C, fi, pe, bb, bp, C, bw, C, t1, t2, t3⟩ : Ad)) (o__law_paper_by (⟨K, C, fi, pe, bb, bp, C, bw, C, t1, t2, t3⟩ : Ad))) f__law_paper_by _ := ⟨PySem.W.mg_of X G a__law_paper_by_, k__law_paper_by_, b__law_paper_by, ok__law_paper_by (base := base) T G__law_cell_at G__law_reach G__law_weights_by G__law_raised G__law_mix F__law_paper_by⟩
  exact law_okG (ok_law (base := base) T G__law_cells_by G_Board G__law_pegs_by G__law_paper_by G__law_cell_at G__law_told G_holds G__law_holds F_law) fun vs H Q E h => by
    obtain ⟨a, ns, rfl, hs, hl, k⟩ := h
    exact ⟨⟨ns, hl⟩, H, Same.refl H, .cons ⟨a, rfl, hs⟩ .nil, fun v G2 H2 g2 r2 => by
      cases r2
      exact k H2⟩
theorem walk {l : PySem.W.OpenLaw} {q : Program} {loose : List Str} {XP : (Str → Option Value) → Heap → Prop} {YP : World → Heap → Prop} {d : DefRec} {K : Params → PySem.W.Frag} (hn : l.most = some 63) (hdf : d.params.defaults = [])
    (hY : ∀ (w : World) (h : Heap), YP w h → (K w.params).In h)
    (F : ∀ (w : World) (mg : Str → Option Value) (fa : Addr) (h : Heap), (K w.params).In h → h.Ns mainGlobals mg → mg d.name = some (.ref fa) →
      ∃ fd : FuncData, (∀ (s : Shared) (u : Value), BindsTo s fd ⟨[u], []⟩ [("script", u)]) ∧ ∀ base : Heap, (K w.params).In base → base.Ns mainGlobals mg → FnG l.prog w (K w.params) mg base 7 fa fd ["script"] (spLaw (K w.params))) :
    PySem.W.WalkO q loose XP YP l.row.toRowW d [] (fun f vs => PySem.call f vs) :=
  walk_lawG (n := 63) (k := 7) (x := "script") (sp := fun w => spLaw (K w.params)) hn (by decide) hdf ⟨rfl, by decide, by decide⟩ hY F (fun _ _ a ns hl _ hS => ⟨a, ns, rfl, hS, hl, fun _ => rfl⟩)
end Pg
open PySem PySem.W PyProof.Rows
set_option maxRecDepth 100000 in
set_option maxHeartbeats 0 in
theorem PySem.Challenge.cw_pegleap_k11_papers_looked_at_holds : PySem.Challenge.rw_pegleap_k11_papers_looked_at.Holds := by
  w_on; o_law; k_head; (case hw => w_witness2)
  k_fill
  refine Pg.walk (l := PySem.Challenge.rw_pegleap_k11_papers_looked_at) rfl rfl (fun w h Y => PySem.W.kIn_of Y) ?F
  case F =>
    intro w mg fa h KX G hmg
    refine' Pg.all_mk KX G hmg ?r_g_C ?r_g_pe ?r_g_bb ?r_g_bp ?r_g_bw ?z_range ?z_len ?z_all ?z_abs ?z_list ?z_tuple ?z_sorted ?z_enumerate ?z_sum ?z_isinstance ?z_min ?z_max ?z_repr ?z_int ?z_str ?z_bool ?z_ValueError ?v_c_SIDE ?v_c_MOST ?v_c_BOUND ?q_nC ?q_x_pe ?q_k_pe ?q_b_pe ?q_t_pe ?q_x_bb ?q_k_bb ?q_b_bb ?q_t_bb ?q_x_bp ?q_k_bp ?q_b_bp ?q_t_bp ?q_x_bw ?q_k_bw ?q_b_bw ?q_t_bw ?pg ?hd ?po ?sa ?ini ?isf ?mks ?kc ?a_rising ?l_rising ?c_rising ?k_rising ?l_Board ?c_Board ?k_Board ?a_between ?l_between ?c_between ?k_between ?a_is_leap ?l_is_leap ?c_is_leap ?k_is_leap ?a_leaps ?l_leaps ?c_leaps ?k_leaps ?a_is_standing ?l_is_standing ?c_is_standing ?k_is_standing ?a_check_pegs ?l_check_pegs ?c_check_pegs ?k_check_pegs ?a_can ?l_can ?c_can ?k_can ?a_done ?l_done ?c_done ?k_done ?a_open_leaps ?l_open_leaps ?c_open_leaps ?k_open_leaps ?a_class_of ?l_class_of ?c_class_of ?k_class_of ?a_are_weights ?l_are_weights ?c_are_weights ?k_are_weights ?a_check_weights ?l_check_weights ?c_check_weights ?k_check_weights ?a_weight_at ?l_weight_at ?c_weight_at ?k_weight_at ?a_fair ?l_fair ?c_fair ?k_fair ?a_weight ?l_weight ?c_weight ?k_weight ?a_closed_holds ?l_closed_holds ?c_closed_holds ?k_closed_holds ?a_holds ?l_holds ?c_holds ?k_holds ?a__law_cell_at ?l__law_cell_at ?c__law_cell_at ?k__law_cell_at ?a__law_mix ?l__law_mix ?c__law_mix ?k__law_mix ?a__law_told ?l__law_told ?c__law_told ?k__law_told ?a__law_cells_by ?l__law_cells_by ?c__law_cells_by ?k__law_cells_by ?a__law_pegs_by ?l__law_pegs_by ?c__law_pegs_by ?k__law_pegs_by ?a__law_between ?l__law_between ?c__law_between ?k__law_between ?a__law_leaps ?l__law_leaps ?c__law_leaps ?k__law_leaps ?a__law_open ?l__law_open ?c__law_open ?k__law_open ?a__law_behind ?l__law_behind ?c__law_behind ?k__law_behind ?a__law_reach ?l__law_reach ?c__law_reach ?k__law_reach ?a__law_class ?l__law_class ?c__law_class ?k__law_class ?a__law_weights_by ?l__law_weights_by ?c__law_weights_by ?k__law_weights_by ?a__law_raised ?l__law_raised ?c__law_raised ?k__law_raised ?a__law_fair ?l__law_fair ?c__law_fair ?k__law_fair ?a__law_weight ?l__law_weight ?c__law_weight ?k__law_weight ?a__law_holds ?l__law_holds ?c__law_holds ?k__law_holds ?a__law_paper_by ?l__law_paper_by ?c__law_paper_by ?k__law_paper_by ?a_law ?l_law ?c_law ?k_law
    (case r_g_C => k_is)
    (case r_g_pe => k_is)
    (case r_g_bb => k_is)
    (case r_g_bp => k_is)
    (case r_g_bw => k_is)
    (case z_range => k_is)
    (case z_len => k_is)
    (case z_all => k_is)
    (case z_abs => k_is)
    (case z_list => k_is)
    (case z_tuple => k_is)
    (case z_sorted => k_is)
    (case z_enumerate => k_is)
    (case z_sum => k_is)
    (case z_isinstance => k_is)
    (case z_min => k_is)
    (case z_max => k_is)
    (case z_repr => k_is)
    (case z_int => k_is)
    (case z_str => k_is)
    (case z_bool => k_is)
    (case z_ValueError => k_is)
    (case v_c_SIDE => k_is)
    (case v_c_MOST => k_is)
    (case v_c_BOUND => k_is)
    (case q_nC => k_is)
    (case q_x_pe => k_exc)
    (case q_k_pe => k_is)
    (case q_b_pe => k_is)
    (case q_t_pe => k_is)
    (case q_x_bb => k_exc)
    (case q_k_bb => k_is)
    (case q_b_bb => k_is)
    (case q_t_bb => k_is)
    (case q_x_bp => k_exc)
    (case q_k_bp => k_is)
    (case q_b_bp => k_is)
    (case q_t_bp => k_is)
    (case q_x_bw => k_exc)
    (case q_k_bw => k_is)
    (case q_b_bw => k_is)
    (case q_t_bw => k_is)
    (case pg => k_is)
    (case hd => k_is)
    (case po => k_is)
    (case sa => k_is)
    (case ini => k_is)
    (case isf => k_is)
    (case mks => k_is)
    (case kc => k_is)
    (case a_rising => k_is)
    (case l_rising => k_is)
    (case c_rising => k_is)
    (case k_rising => k_is)
    (case l_Board => k_is)
    (case c_Board => k_is)
    (case k_Board => k_is)
    (case a_between => k_is)
    (case l_between => k_is)
    (case c_between => k_is)
    (case k_between => k_is)
    (case a_is_leap => k_is)
    (case l_is_leap => k_is)
    (case c_is_leap => k_is)
    (case k_is_leap => k_is)
    (case a_leaps => k_is)
    (case l_leaps => k_is)
    (case c_leaps => k_is)
    (case k_leaps => k_is)
    (case a_is_standing => k_is)
    (case l_is_standing => k_is)
    (case c_is_standing => k_is)
    (case k_is_standing => k_is)
    (case a_check_pegs => k_is)
    (case l_check_pegs => k_is)
    (case c_check_pegs => k_is)
    (case k_check_pegs => k_is)
    (case a_can => k_is)
    (case l_can => k_is)
    (case c_can => k_is)
    (case k_can => k_is)
    (case a_done => k_is)
    (case l_done => k_is)
    (case c_done => k_is)
    (case k_done => k_is)
    (case a_open_leaps => k_is)
    (case l_open_leaps => k_is)
    (case c_open_leaps => k_is)
    (case k_open_leaps => k_is)
    (case a_class_of => k_is)
    (case l_class_of => k_is)
    (case c_class_of => k_is)
    (case k_class_of => k_is)
    (case a_are_weights => k_is)
    (case l_are_weights => k_is)
    (case c_are_weights => k_is)
    (case k_are_weights => k_is)
    (case a_check_weights => k_is)
    (case l_check_weights => k_is)
    (case c_check_weights => k_is)
    (case k_check_weights => k_is)
    (case a_weight_at => k_is)
    (case l_weight_at => k_is)
    (case c_weight_at => k_is)
    (case k_weight_at => k_is)
    (case a_fair => k_is)
    (case l_fair => k_is)
    (case c_fair => k_is)
    (case k_fair => k_is)
    (case a_weight => k_is)
    (case l_weight => k_is)
    (case c_weight => k_is)
    (case k_weight => k_is)
    (case a_closed_holds => k_is)
    (case l_closed_holds => k_is)
    (case c_closed_holds => k_is)
    (case k_closed_holds => k_is)
    (case a_holds => k_is)
    (case l_holds => k_is)
    (case c_holds => k_is)
    (case k_holds => k_is)
    (case a__law_cell_at => k_is)
    (case l__law_cell_at => k_is)
    (case c__law_cell_at => k_is)
    (case k__law_cell_at => k_is)
    (case a__law_mix => k_is)
    (case l__law_mix => k_is)
    (case c__law_mix => k_is)
    (case k__law_mix => k_is)
    (case a__law_told => k_is)
    (case l__law_told => k_is)
    (case c__law_told => k_is)
    (case k__law_told => k_is)
    (case a__law_cells_by => k_is)
    (case l__law_cells_by => k_is)
    (case c__law_cells_by => k_is)
    (case k__law_cells_by => k_is)
    (case a__law_pegs_by => k_is)
    (case l__law_pegs_by => k_is)
    (case c__law_pegs_by => k_is)
    (case k__law_pegs_by => k_is)
    (case a__law_between => k_is)
    (case l__law_between => k_is)
    (case c__law_between => k_is)
    (case k__law_between => k_is)
    (case a__law_leaps => k_is)
    (case l__law_leaps => k_is)
    (case c__law_leaps => k_is)
    (case k__law_leaps => k_is)
    (case a__law_open => k_is)
    (case l__law_open => k_is)
    (case c__law_open => k_is)
    (case k__law_open => k_is)
    (case a__law_behind => k_is)
    (case l__law_behind => k_is)
    (case c__law_behind => k_is)
    (case k__law_behind => k_is)
    (case a__law_reach => k_is)
    (case l__law_reach => k_is)
    (case c__law_reach => k_is)
    (case k__law_reach => k_is)
    (case a__law_class => k_is)
    (case l__law_class => k_is)
    (case c__law_class => k_is)
    (case k__law_class => k_is)
    (case a__law_weights_by => k_is)
    (case l__law_weights_by => k_is)
    (case c__law_weights_by => k_is)
    (case k__law_weights_by => k_is)
    (case a__law_raised => k_is)
    (case l__law_raised => k_is)
    (case c__law_raised => k_is)
    (case k__law_raised => k_is)
    (case a__law_fair => k_is)
    (case l__law_fair => k_is)
    (case c__law_fair => k_is)
    (case k__law_fair => k_is)
    (case a__law_weight => k_is)
    (case l__law_weight => k_is)
    (case c__law_weight => k_is)
    (case k__law_weight => k_is)
    (case a__law_holds => k_is)
    (case l__law_holds => k_is)
    (case c__law_holds => k_is)
    (case k__law_holds => k_is)
    (case a__law_paper_by => k_is)
    (case l__law_paper_by => k_is)
    (case c__law_paper_by => k_is)
    (case k__law_paper_by => k_is)
    (case a_law => k_is)
    (case l_law => k_is)
    (case c_law => k_is)
    (case k_law => k_is)

