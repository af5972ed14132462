import PyProof.Rows.All
import Wide.All
import OpenK.AllK
import Wide.FinOn
import HandS.ForMost
import HandS.ForExc
import HandS.IsInst
import HandS.TupAny
import HandS.TupMul
import HandS.TupLe
import HandS.Style
import HandS.Flow
import HandS.Deep
import HandS.Conv
import HandS.Wide
import HandS.Walk
import HandS.Zip
import HandS.EndBits
import PySem.Challenge.RW_heapward_k25_fractions_told
set_option Elab.async false
set_option linter.all false
set_option maxRecDepth 100000
/-! data, trees of data and of owned lists, what stands in the abstract heap -/
namespace Hw
open PySem PySem.Spec PyProof.Rows L2

abbrev Sig := L2.St
/-! ### settled data -/
mutual
def Dr (K : PySem.W.Frag) (H : Hp) : PyData → V → Prop
  | .none, v => v = .non
  | .bool b, v => v = .bl b
  | .int i, v => v = .int i
  | .str x, v => v = .str x
  | .list ds, v => ∃ a xs, v = .ref a ∧ H a = some (.lst xs) ∧ DrL K H ds xs
  | .tuple ds, v => ∃ a xs, v = .ref a ∧ H a = some (.tup xs) ∧ DrL K H ds xs
  | .dict kvs, v => ∃ a, v = .ref a ∧ kvs = [] ∧ H a = some (.dK [])
def DrL (K : PySem.W.Frag) (H : Hp) : List PyData → List V → Prop
  | [], vs => vs = []
  | d :: ds, vs => ∃ v r, vs = v :: r ∧ Dr K H d v ∧ DrL K H ds r
end

/-- more is known -/
def Ext (H H' : Hp) : Prop := ∀ a o, H a = some o → H' a = some o
theorem Ext.refl (H : Hp) : Ext H H := fun _ _ h => h
theorem Ext.trans {H H1 H2 : Hp} (a : Ext H H1) (b : Ext H1 H2) : Ext H H2 := fun x o h => b x o (a x o h)
theorem Ext.new {H : Hp} {p : Addr} {o : HO} (h : H p = none) : Ext H (upd H p o) := fun a u e => by
  rw [upd_ne (ne_of_none e h)]; exact e
theorem Ext.rd {H H' : Hp} {a : Addr} {u : HO} (e : Ext H H') (h : Rd H a u) : Rd H' a u := by
  rcases h with h | ⟨o, h⟩
  · exact .inl (e a _ h)
  · exact .inr ⟨o, e a _ h⟩
theorem Ext.sql {K : PySem.W.Frag} {H H' : Hp} {a : Addr} {xs : List V} (e : Ext H H') (h : SqL K H a xs) : SqL K H' a xs := h.elim (fun h => .inl (e.rd h)) .inr
theorem Ext.sqt {K : PySem.W.Frag} {H H' : Hp} {a : Addr} {xs : List V} (e : Ext H H') (h : SqT K H a xs) : SqT K H' a xs := h.elim (fun h => .inl (e.rd h)) .inr
mutual
theorem Dr.ext {K : PySem.W.Frag} {H H' : Hp} (e : Ext H H') : ∀ {d : PyData} {v : V}, Dr K H d v → Dr K H' d v
  | .none, _, h => h
  | .bool _, _, h => h
  | .int _, _, h => h
  | .str _, _, h => h
  | .list ds, _, h => by
    unfold Dr at h ⊢
    obtain ⟨a, xs, rfl, hs, hd⟩ := h
    exact ⟨a, xs, rfl, e _ _ hs, DrL.ext e hd⟩
  | .tuple ds, _, h => by
    unfold Dr at h ⊢
    obtain ⟨a, xs, rfl, hs, hd⟩ := h
    exact ⟨a, xs, rfl, e _ _ hs, DrL.ext e hd⟩
  | .dict _, _, h => by
    unfold Dr at h ⊢
    obtain ⟨a, rfl, e0, hr⟩ := h
    exact ⟨a, rfl, e0, e _ _ hr⟩
theorem DrL.ext {K : PySem.W.Frag} {H H' : Hp} (e : Ext H H') : ∀ {ds : List PyData} {vs : List V}, DrL K H ds vs → DrL K H' ds vs
  | [], _, h => h
  | d :: ds, _, h => by
    unfold DrL at h ⊢
    obtain ⟨v, r, rfl, h1, h2⟩ := h
    exact ⟨v, r, rfl, Dr.ext e h1, DrL.ext e h2⟩
end
theorem DrL.length {K : PySem.W.Frag} {H : Hp} : ∀ {ds : List PyData} {vs : List V}, DrL K H ds vs → vs.length = ds.length
  | [], _, h => by unfold DrL at h; rw [h]; rfl
  | d :: ds, _, h => by
    unfold DrL at h
    obtain ⟨v, r, rfl, h1, h2⟩ := h
    simp [DrL.length h2]
theorem DrL.get {K : PySem.W.Frag} {H : Hp} : ∀ {ds : List PyData} {vs : List V} {i : Nat} {d : PyData}, DrL K H ds vs → ds[i]? = some d → ∃ v, vs[i]? = some v ∧ Dr K H d v
  | [], _, _, _, _, e => by simp at e
  | d :: ds, _, 0, _, h, e => by
    unfold DrL at h
    obtain ⟨v, r, rfl, h1, h2⟩ := h
    simp at e; subst e
    exact ⟨v, rfl, h1⟩
  | d :: ds, _, i + 1, _, h, e => by
    unfold DrL at h
    obtain ⟨v, r, rfl, h1, h2⟩ := h
    obtain ⟨w, e1, e2⟩ := DrL.get (i := i) h2 (by simpa using e)
    exact ⟨w, by simpa using e1, e2⟩
theorem DrL.getV {K : PySem.W.Frag} {H : Hp} {ds : List PyData} {vs : List V} {i : Nat} {v : V} (h : DrL K H ds vs) (e : vs[i]? = some v) : ∃ d, ds[i]? = some d ∧ Dr K H d v := by
  have hl := h.length
  have hi : i < ds.length := by rw [← hl]; exact (List.getElem?_eq_some_iff.mp e).1
  obtain ⟨w, e1, e2⟩ := h.get (List.getElem?_eq_getElem hi)
  rw [e] at e1; cases e1
  exact ⟨_, List.getElem?_eq_getElem hi, e2⟩
theorem DrL.append {K : PySem.W.Frag} {H : Hp} : ∀ {ds es : List PyData} {vs ws : List V}, DrL K H ds vs → DrL K H es ws → DrL K H (ds ++ es) (vs ++ ws)
  | [], _, _, _, h, h' => by unfold DrL at h; rw [h]; exact h'
  | d :: ds, es, _, _, h, h' => by
    unfold DrL at h
    obtain ⟨v, r, rfl, h1, h2⟩ := h
    show DrL K H (d :: (ds ++ es)) _
    unfold DrL
    exact ⟨v, _, rfl, h1, h2.append h'⟩
theorem DrL.of_get {K : PySem.W.Frag} {H : Hp} : ∀ {ds : List PyData} {vs : List V}, vs.length = ds.length → (∀ (i : Nat) (d : PyData) (v : V), ds[i]? = some d → vs[i]? = some v → Dr K H d v) → DrL K H ds vs
  | [], vs, h, _ => by unfold DrL; simpa using h
  | d :: ds, [], h, _ => by simp at h
  | d :: ds, v :: vs, h, q => by
    unfold DrL
    exact ⟨v, vs, rfl, q 0 d v rfl rfl, DrL.of_get (by simpa using h) fun i e w h1 h2 => q (i + 1) e w (by simpa using h1) (by simpa using h2)⟩

/-- no dict within -/
def noDict : PyData → Bool
  | .list ds => noDictL ds
  | .tuple ds => noDictL ds
  | .dict _ => false
  | _ => true
where noDictL : List PyData → Bool
  | [] => true
  | d :: ds => noDict d && noDictL ds
mutual
theorem Dr.dp {K : PySem.W.Frag} {H : Hp} : ∀ {d : PyData} {v : V}, Dr K H d v → noDict d = true → Dp K H v d
  | .none, _, h, _ => by unfold Dr at h; subst h; exact .non
  | .bool _, _, h, _ => by unfold Dr at h; subst h; exact .bl _
  | .int _, _, h, _ => by unfold Dr at h; subst h; exact .int _
  | .str _, _, h, _ => by unfold Dr at h; subst h; exact .str _
  | .list ds, _, h, n => by
    unfold Dr at h
    obtain ⟨a, xs, rfl, hs, hd⟩ := h
    exact .lst (SqL.of hs) (DrL.dp hd (by unfold noDict at n; exact n))
  | .tuple ds, _, h, n => by
    unfold Dr at h
    obtain ⟨a, xs, rfl, hs, hd⟩ := h
    exact .tup (SqT.of hs) (DrL.dp hd (by unfold noDict at n; exact n))
  | .dict _, _, h, n => by unfold noDict at n; cases n
theorem DrL.dp {K : PySem.W.Frag} {H : Hp} : ∀ {ds : List PyData} {vs : List V}, DrL K H ds vs → noDict.noDictL ds = true → DpAll K H vs ds
  | [], _, h, _ => by unfold DrL at h; subst h; exact .nil
  | d :: ds, _, h, n => by
    unfold DrL at h
    obtain ⟨v, r, rfl, h1, h2⟩ := h
    unfold noDict.noDictL at n
    rw [Bool.and_eq_true] at n
    exact .cons (Dr.dp h1 n.1) (DrL.dp h2 n.2)
end

/-! ### trees: settled data, lists that are owned, tuples that hold such -/
inductive Tr where
  | c (d : PyData)
  | l (xs : List Tr)
  | t (xs : List Tr)
  /-- the script -/
  | s (ns : List Int)
  | gone
abbrev Fp := Addr → Nat
/-- the heap without what is owned -/
def mn (H : Hp) (f : Fp) : Hp := fun a => if f a = 0 then H a else none
theorem mn_some {H : Hp} {f : Fp} {a : Addr} {o : HO} (h : mn H f a = some o) : f a = 0 ∧ H a = some o := by
  unfold mn at h
  split at h
  · exact ⟨by assumption, h⟩
  · cases h
theorem mn_of {H : Hp} {f : Fp} {a : Addr} {o : HO} (h0 : f a = 0) (h : H a = some o) : mn H f a = some o := by
  unfold mn; rw [if_pos h0]; exact h
theorem mn_ext (H : Hp) (f : Fp) : Ext (mn H f) H := fun _ _ h => (mn_some h).2
theorem mn_le {H : Hp} {f g : Fp} (h : ∀ a, g a ≤ f a) : Ext (mn H f) (mn H g) := fun a o e => by
  obtain ⟨h0, e⟩ := mn_some e
  exact mn_of (by have := h a; omega) e
def one (p : Addr) : Fp := fun a => if a = p then 1 else 0
theorem one_self {p : Addr} : one p p = 1 := if_pos rfl
theorem one_ne {p a : Addr} (h : a ≠ p) : one p a = 0 := if_neg h

mutual
def Rep (K : PySem.W.Frag) (H : Hp) (f : Fp) : Tr → V → Fp → Prop
  | .c d, v, _ => Dr K (mn H f) d v
  | .l xs, v, g => ∃ p vs g', v = .ref p ∧ H p = some (.lst vs) ∧ RepL K H f xs vs g' ∧ ∀ a, one p a + g' a ≤ g a
  | .t xs, v, g => ∃ p vs, v = .ref p ∧ mn H f p = some (.tup vs) ∧ RepL K H f xs vs g
  | .s ns, v, _ => ∃ a, v = .ref a ∧ SqL K (mn H f) a (ns.map V.int)
  | .gone, _, _ => True
def RepL (K : PySem.W.Frag) (H : Hp) (f : Fp) : List Tr → List V → Fp → Prop
  | [], vs, _ => vs = []
  | x :: xs, vs, g => ∃ v r g1 g2, vs = v :: r ∧ Rep K H f x v g1 ∧ RepL K H f xs r g2 ∧ ∀ a, g1 a + g2 a ≤ g a
end
/-- a step of the heap: what is settled stays, what is protected stays -/
def Stp (H : Hp) (f pr : Fp) (H' : Hp) (f' : Fp) : Prop :=
  (∀ a o, H a = some o → f a = 0 → H' a = some o ∧ f' a = 0) ∧ ∀ a o, 1 ≤ pr a → H a = some o → H' a = some o
theorem Stp.refl {H : Hp} {f pr : Fp} : Stp H f pr H f := ⟨fun _ _ h h0 => ⟨h, h0⟩, fun _ _ _ h => h⟩
theorem Stp.trans {H H1 H2 : Hp} {f f1 f2 pr pr' : Fp} (a : Stp H f pr H1 f1) (b : Stp H1 f1 pr' H2 f2) (h : ∀ a, pr a ≤ pr' a) : Stp H f pr H2 f2 :=
  ⟨fun x o e e0 => let ⟨h1, h2⟩ := a.1 x o e e0; b.1 x o h1 h2, fun x o hp e => b.2 x o (Nat.le_trans hp (h x)) (a.2 x o hp e)⟩
theorem Stp.weak {H H1 : Hp} {f f1 pr pr' : Fp} (a : Stp H f pr' H1 f1) (h : ∀ a, pr a ≤ pr' a) : Stp H f pr H1 f1 := ⟨a.1, fun x o hp e => a.2 x o (Nat.le_trans hp (h x)) e⟩
theorem Stp.ext {H H1 : Hp} {f f1 pr : Fp} (a : Stp H f pr H1 f1) : Ext (mn H f) (mn H1 f1) := fun x o e => by
  obtain ⟨h0, e⟩ := mn_some e
  obtain ⟨h1, h2⟩ := a.1 x o e h0
  exact mn_of h2 h1
section
variable {K : PySem.W.Frag} {H H' : Hp} {f f' pr : Fp}
mutual
theorem Rep.mono : ∀ {x : Tr} {v : V} {g g' : Fp}, Rep K H f x v g → (∀ a, g a ≤ g' a) → Rep K H f x v g'
  | .c _, _, _, _, h, _ => h
  | .gone, _, _, _, _, _ => trivial
  | .s _, _, _, _, h, _ => h
  | .l xs, v, g, g', h, m => by
    unfold Rep at h ⊢
    obtain ⟨p, vs, g0, rfl, e, h1, h2⟩ := h
    exact ⟨p, vs, g0, rfl, e, h1, fun a => Nat.le_trans (h2 a) (m a)⟩
  | .t xs, v, g, g', h, m => by
    unfold Rep at h ⊢
    obtain ⟨p, vs, rfl, e, h1⟩ := h
    exact ⟨p, vs, rfl, e, RepL.mono h1 m⟩
theorem RepL.mono : ∀ {xs : List Tr} {vs : List V} {g g' : Fp}, RepL K H f xs vs g → (∀ a, g a ≤ g' a) → RepL K H f xs vs g'
  | [], _, _, _, h, _ => h
  | x :: xs, vs, g, g', h, m => by
    unfold RepL at h ⊢
    obtain ⟨v, r, g1, g2, rfl, h1, h2, h3⟩ := h
    exact ⟨v, r, g1, g2, rfl, h1, h2, fun a => Nat.le_trans (h3 a) (m a)⟩
end
/-- a tree whose lists are protected goes along -/
theorem Rep.stp (s : Stp H f pr H' f') : (∀ {x : Tr} {v : V} {g : Fp}, Rep K H f x v g → (∀ a, g a ≤ pr a) → Rep K H' f' x v g) := by
  intro x
  exact Tr.rec (motive_1 := fun x => ∀ {v : V} {g : Fp}, Rep K H f x v g → (∀ a, g a ≤ pr a) → Rep K H' f' x v g)
    (motive_2 := fun xs => ∀ {vs : List V} {g : Fp}, RepL K H f xs vs g → (∀ a, g a ≤ pr a) → RepL K H' f' xs vs g)
    (fun d v g h _ => by unfold Rep at h ⊢; exact Dr.ext s.ext h)
    (fun xs ih v g h m => by
      unfold Rep at h ⊢
      obtain ⟨p, vs, g0, rfl, e, h1, h2⟩ := h
      have hp := h2 p
      rw [one_self] at hp
      exact ⟨p, vs, g0, rfl, s.2 p _ (by have := m p; omega) e, ih h1 fun a => by have := h2 a; have := m a; omega, h2⟩)
    (fun xs ih v g h m => by
      unfold Rep at h ⊢
      obtain ⟨p, vs, rfl, e, h1⟩ := h
      exact ⟨p, vs, rfl, s.ext p _ e, ih h1 m⟩)
    (fun ns v g h _ => by
      unfold Rep at h ⊢
      obtain ⟨a, e, h⟩ := h
      exact ⟨a, e, s.ext.sql h⟩)
    (fun _ _ => trivial)
    (fun h _ => h)
    (fun x xs ih1 ih2 vs g h m => by
      unfold RepL at h ⊢
      obtain ⟨v, r, g1, g2, rfl, h1, h2, h3⟩ := h
      exact ⟨v, r, g1, g2, rfl, ih1 h1 fun a => by have := h3 a; have := m a; omega, ih2 h2 fun a => by have := h3 a; have := m a; omega, h3⟩) x
theorem RepL.stp (s : Stp H f pr H' f') : ∀ {xs : List Tr} {vs : List V} {g : Fp}, RepL K H f xs vs g → (∀ a, g a ≤ pr a) → RepL K H' f' xs vs g
  | [], _, _, h, _ => h
  | x :: xs, vs, g, h, m => by
    unfold RepL at h ⊢
    obtain ⟨v, r, g1, g2, rfl, h1, h2, h3⟩ := h
    exact ⟨v, r, g1, g2, rfl, Rep.stp s h1 fun a => by have := h3 a; have := m a; omega, RepL.stp s h2 fun a => by have := h3 a; have := m a; omega, h3⟩
end

/-! ### a tree seen as data -/
mutual
def frz : Tr → Option PyData
  | .c d => some d
  | .l xs => (frzL xs).map PyData.list
  | .t xs => (frzL xs).map PyData.tuple
  | .s _ => none
  | .gone => none
def frzL : List Tr → Option (List PyData)
  | [] => some []
  | x :: xs => match frz x with
    | some d => (frzL xs).map (d :: ·)
    | none => none
end
/-- the whole tree settled: its lists are given up -/
theorem Rep.frz {K : PySem.W.Frag} {H : Hp} {f f' : Fp} (hf : ∀ a, f' a ≤ f a) : ∀ {x : Tr} {v : V} {g : Fp} {d : PyData}, Rep K H f x v g → Hw.frz x = some d → (∀ a, g a + f' a ≤ 1) → Dr K (mn H f') d v := by
  intro x
  exact Tr.rec (motive_1 := fun x => ∀ {v : V} {g : Fp} {d : PyData}, Rep K H f x v g → Hw.frz x = some d → (∀ a, g a + f' a ≤ 1) → Dr K (mn H f') d v)
    (motive_2 := fun xs => ∀ {vs : List V} {g : Fp} {ds : List PyData}, RepL K H f xs vs g → Hw.frzL xs = some ds → (∀ a, g a + f' a ≤ 1) → DrL K (mn H f') ds vs)
    (fun d v g d' h e _ => by
      unfold Hw.frz at e; cases e
      unfold Rep at h
      exact Dr.ext (mn_le hf) h)
    (fun xs ih v g d h e m => by
      unfold Hw.frz at e
      obtain ⟨ds, e1, e2⟩ := Option.map_eq_some_iff.mp e
      subst e2
      unfold Rep at h
      obtain ⟨p, vs, g0, rfl, e0, h1, h2⟩ := h
      have hp := h2 p
      rw [one_self] at hp
      unfold Dr
      exact ⟨p, vs, rfl, mn_of (by have := m p; omega) e0, ih h1 e1 fun a => by have := h2 a; have := m a; omega⟩)
    (fun xs ih v g d h e m => by
      unfold Hw.frz at e
      obtain ⟨ds, e1, e2⟩ := Option.map_eq_some_iff.mp e
      subst e2
      unfold Rep at h
      obtain ⟨p, vs, rfl, e0, h1⟩ := h
      unfold Dr
      exact ⟨p, vs, rfl, mn_le hf _ _ e0, ih h1 e1 m⟩)
    (fun _ _ _ _ _ e => by unfold Hw.frz at e; cases e)
    (fun _ e => by unfold Hw.frz at e; cases e)
    (fun h e _ => by unfold Hw.frzL at e; cases e; unfold RepL at h; unfold DrL; exact h)
    (fun x xs ih1 ih2 vs g ds h e m => by
      unfold RepL at h
      obtain ⟨v, r, g1, g2, rfl, h1, h2, h3⟩ := h
      unfold Hw.frzL at e
      cases q : Hw.frz x with
      | none => rw [q] at e; cases e
      | some d =>
        rw [q] at e
        obtain ⟨es, e1, e2⟩ := Option.map_eq_some_iff.mp e
        subst e2
        unfold DrL
        exact ⟨v, r, rfl, ih1 h1 q fun a => by have := h3 a; have := m a; omega, ih2 h2 e1 fun a => by have := h3 a; have := m a; omega⟩) x
/-- seen whole, where it lies (nothing is given up): in the whole heap -/
theorem Rep.see {K : PySem.W.Frag} {H : Hp} {f : Fp} : ∀ {x : Tr} {v : V} {g : Fp} {d : PyData}, Rep K H f x v g → Hw.frz x = some d → Dr K H d v := by
  intro x
  exact Tr.rec (motive_1 := fun x => ∀ {v : V} {g : Fp} {d : PyData}, Rep K H f x v g → Hw.frz x = some d → Dr K H d v)
    (motive_2 := fun xs => ∀ {vs : List V} {g : Fp} {ds : List PyData}, RepL K H f xs vs g → Hw.frzL xs = some ds → DrL K H ds vs)
    (fun d v g d' h e => by
      unfold Hw.frz at e; cases e
      unfold Rep at h
      exact Dr.ext (mn_ext H f) h)
    (fun xs ih v g d h e => by
      unfold Hw.frz at e
      obtain ⟨ds, e1, e2⟩ := Option.map_eq_some_iff.mp e
      subst e2
      unfold Rep at h
      obtain ⟨p, vs, g0, rfl, e0, h1, h2⟩ := h
      unfold Dr
      exact ⟨p, vs, rfl, e0, ih h1 e1⟩)
    (fun xs ih v g d h e => by
      unfold Hw.frz at e
      obtain ⟨ds, e1, e2⟩ := Option.map_eq_some_iff.mp e
      subst e2
      unfold Rep at h
      obtain ⟨p, vs, rfl, e0, h1⟩ := h
      unfold Dr
      exact ⟨p, vs, rfl, mn_ext H f _ _ e0, ih h1 e1⟩)
    (fun _ _ _ _ _ e => by unfold Hw.frz at e; cases e)
    (fun _ e => by unfold Hw.frz at e; cases e)
    (fun h e => by unfold Hw.frzL at e; cases e; unfold RepL at h; unfold DrL; exact h)
    (fun x xs ih1 ih2 vs g ds h e => by
      unfold RepL at h
      obtain ⟨v, r, g1, g2, rfl, h1, h2, h3⟩ := h
      unfold Hw.frzL at e
      cases q : Hw.frz x with
      | none => rw [q] at e; cases e
      | some d =>
        rw [q] at e
        obtain ⟨es, e1, e2⟩ := Option.map_eq_some_iff.mp e
        subst e2
        unfold DrL
        exact ⟨v, r, rfl, ih1 h1 q, ih2 h2 e1⟩) x

/-! ### slots -/
def RepO (K : PySem.W.Frag) (H : Hp) (f : Fp) : Tr → Option V → Fp → Prop
  | .gone, _, _ => True
  | x, o, g => ∃ v, o = some v ∧ Rep K H f x v g
theorem RepO.mk {K : PySem.W.Frag} {H : Hp} {f g : Fp} {x : Tr} {v : V} (h : Rep K H f x v g) : RepO K H f x (some v) g := by
  cases x <;> first | trivial | exact ⟨v, rfl, h⟩
theorem RepO.get {K : PySem.W.Frag} {H : Hp} {f g : Fp} {x : Tr} {o : Option V} (h : RepO K H f x o g) (n : x ≠ .gone) : ∃ v, o = some v ∧ Rep K H f x v g := by
  cases x <;> first | exact absurd rfl n | exact h
def RepS (K : PySem.W.Frag) (H : Hp) (f : Fp) : List Tr → Sig → Fp → Prop
  | [], σ, _ => σ = []
  | x :: xs, σ, g => ∃ o r g1 g2, σ = o :: r ∧ RepO K H f x o g1 ∧ RepS K H f xs r g2 ∧ ∀ a, g1 a + g2 a ≤ g a
section
variable {K : PySem.W.Frag} {H H' : Hp} {f f' pr : Fp}
theorem RepO.stp (s : Stp H f pr H' f') {x : Tr} {o : Option V} {g : Fp} (h : RepO K H f x o g) (m : ∀ a, g a ≤ pr a) : RepO K H' f' x o g := by
  by_cases n : x = .gone
  · subst n; trivial
  · obtain ⟨v, e, r⟩ := h.get n
    subst e
    exact .mk (r.stp s m)
theorem RepO.mono {x : Tr} {o : Option V} {g g' : Fp} (h : RepO K H f x o g) (m : ∀ a, g a ≤ g' a) : RepO K H f x o g' := by
  by_cases n : x = .gone
  · subst n; trivial
  · obtain ⟨v, e, r⟩ := h.get n
    subst e
    exact .mk (r.mono m)
theorem RepS.stp (s : Stp H f pr H' f') : ∀ {xs : List Tr} {σ : Sig} {g : Fp}, RepS K H f xs σ g → (∀ a, g a ≤ pr a) → RepS K H' f' xs σ g
  | [], _, _, h, _ => h
  | x :: xs, _, _, h, m => by
    obtain ⟨o, r, g1, g2, rfl, h1, h2, h3⟩ := h
    exact ⟨o, r, g1, g2, rfl, h1.stp s fun a => by have := h3 a; have := m a; omega, RepS.stp s h2 fun a => by have := h3 a; have := m a; omega, h3⟩
theorem RepS.mono : ∀ {xs : List Tr} {σ : Sig} {g g' : Fp}, RepS K H f xs σ g → (∀ a, g a ≤ g' a) → RepS K H f xs σ g'
  | [], _, _, _, h, _ => h
  | x :: xs, _, _, _, h, m => by
    obtain ⟨o, r, g1, g2, rfl, h1, h2, h3⟩ := h
    exact ⟨o, r, g1, g2, rfl, h1, h2, fun a => Nat.le_trans (h3 a) (m a)⟩
theorem RepS.length : ∀ {xs : List Tr} {σ : Sig} {g : Fp}, RepS K H f xs σ g → σ.length = xs.length
  | [], _, _, h => by unfold RepS at h; rw [h]; rfl
  | x :: xs, _, _, h => by
    obtain ⟨o, r, g1, g2, rfl, h1, h2, h3⟩ := h
    simp [RepS.length h2]
/-- a slot taken out: what stands there, and the others -/
theorem RepS.take : ∀ {xs : List Tr} {σ : Sig} {g : Fp} {i : Nat} {x : Tr}, RepS K H f xs σ g → xs[i]? = some x →
    ∃ o g1 g2, σ[i]? = some o ∧ RepO K H f x o g1 ∧ RepS K H f (xs.set i .gone) σ g2 ∧ ∀ a, g1 a + g2 a ≤ g a
  | [], _, _, _, _, _, e => by simp at e
  | x :: xs, _, _, 0, y, h, e => by
    obtain ⟨o, r, g1, g2, rfl, h1, h2, h3⟩ := h
    simp at e; subst e
    exact ⟨o, g1, g2, rfl, h1, ⟨o, r, fun _ => 0, g2, rfl, trivial, h2, fun a => by (try dsimp only); omega⟩, h3⟩
  | x :: xs, _, _, i + 1, y, h, e => by
    obtain ⟨o, r, g1, g2, rfl, h1, h2, h3⟩ := h
    obtain ⟨o', k1, k2, e1, q1, q2, q3⟩ := RepS.take (i := i) h2 (by simpa using e)
    exact ⟨o', k1, fun a => g1 a + k2 a, by simpa using e1, q1, ⟨o, r, g1, k2, rfl, h1, q2, fun a => by (try dsimp only); omega⟩, fun a => by have := h3 a; have := q3 a; (try dsimp only); omega⟩
/-- a slot that claims nothing is filled -/
theorem RepS.put : ∀ {xs : List Tr} {σ : Sig} {g g' : Fp} {i : Nat} {x : Tr} {o : Option V}, RepS K H f xs σ g → xs[i]? = some .gone → σ[i]? = some o → RepO K H f x o g' →
    RepS K H f (xs.set i x) σ (fun a => g' a + g a)
  | [], _, _, _, _, _, _, _, e, _, _ => by simp at e
  | x :: xs, _, _, g', 0, y, o', h, e, e2, q => by
    obtain ⟨o, r, g1, g2, rfl, h1, h2, h3⟩ := h
    simp at e2; subst e2
    exact ⟨o, r, g', g2, rfl, q, h2, fun a => by have := h3 a; (try dsimp only); omega⟩
  | x :: xs, _, _, g', i + 1, y, o', h, e, e2, q => by
    obtain ⟨o, r, g1, g2, rfl, h1, h2, h3⟩ := h
    have := RepS.put (i := i) h2 (by simpa using e) (by simpa using e2) q
    exact ⟨o, r, g1, _, rfl, h1, this, fun a => by have := h3 a; show g1 a + (g' a + g2 a) ≤ g' a + _; omega⟩
/-- a slot stored anew -/
theorem RepS.store : ∀ {xs : List Tr} {σ : Sig} {g g' : Fp} {i : Nat} {x : Tr} {o : Option V}, RepS K H f xs σ g → RepO K H f x o g' →
    RepS K H f (xs.set i x) (σ.set i o) (fun a => g' a + g a)
  | [], _, _, _, _, _, _, h, _ => by unfold RepS at h; subst h; simp [RepS]
  | x :: xs, _, _, g', 0, y, o', h, q => by
    obtain ⟨o, r, g1, g2, rfl, h1, h2, h3⟩ := h
    exact ⟨o', r, g', g2, rfl, q, h2, fun a => by have := h3 a; (try dsimp only); omega⟩
  | x :: xs, _, _, g', i + 1, y, o', h, q => by
    obtain ⟨o, r, g1, g2, rfl, h1, h2, h3⟩ := h
    have := RepS.store (i := i) h2 q
    exact ⟨o, r.set i o', g1, _, rfl, h1, this, fun a => by have := h3 a; show g1 a + (g' a + g2 a) ≤ g' a + _; omega⟩
end

/-- the state: slots' trees, protected lists (pr), all that is owned (f) -/
def StA (K : PySem.W.Frag) (Γ : List Tr) (σ : Sig) (H : Hp) (f pr : Fp) (G : Fp → Prop) : Prop :=
  (∀ a, f a ≤ 1) ∧ (∀ a, 1 ≤ f a → ∃ o, H a = some o) ∧ ∃ g ga, RepS K H f Γ σ g ∧ G ga ∧ ∀ a, ga a + (g a + pr a) ≤ f a
/-- .. and a value besides -/
abbrev St1 (K : PySem.W.Frag) (Γ : List Tr) (σ : Sig) (H : Hp) (f pr : Fp) (v : V) (t : Tr) : Prop := StA K Γ σ H f pr fun g => Rep K H f t v g
abbrev St0 (K : PySem.W.Frag) (Γ : List Tr) (σ : Sig) (H : Hp) (f pr : Fp) : Prop := StA K Γ σ H f pr fun _ => True
end Hw
set_option Elab.async false
set_option linter.all false
set_option maxRecDepth 100000
/-! the compact syntax and its interpreter -/
namespace Hw
open PySem PySem.Spec PyProof.Rows L2

inductive Bi where
  | len | abs | max2 | min2 | max1 | min1 | sum | all | any | tuple | list | int | str
  deriving DecidableEq
inductive P where
  | add | sub | mul | fdiv | mod | pow | neg
  | cmp (o : CmpOp)
  | ix | sl (lo hi : Bool) | rev
  | bi (b : Bi)
  | isi (T : String)
  | lrg (two : Bool) | trg (two : Bool)
  | mt (m : Str)
inductive CTg where
  | nm (i : Nat) | tp (is : List Nat)
mutual
inductive CE where
  | var (i : Nat) | mv (i : Nat)
  | lit (d : PyData)
  | glb (x : Str)
  | prim (p : P) (as : List CA)
  | tup (as : List CA) | lst (as : List CA)
  | and_ (a b : CE) | or_ (a b : CE) | not_ (a : CE) | ife (c : CT) (a b : CE)
  | chain (o1 o2 : CmpOp) (ab : List CA) (c : CE)
  | call (x : Str) (as : List CA)
  | lc (own : List Nat) (tg : CTg) (it : CIt) (cond : List CT) (elt : CE)
  | pth (i : Nat) (es : List CE)
  | pop (i : Nat) (as : List CA)
inductive CA where
  | e (a : CE) | pk (i : Nat) | io (i : Nat)
inductive CT where
  | e (a : CE) | pk (i : Nat) | and_ (a b : CT) | or_ (a b : CT) | not_ (a : CT)
inductive CIt where
  | sq (e : CE) | rng1 (a : CE) | rng2 (ab : List CA) | enm (e : CE) | zip (ab : List CA)
end
inductive CS where
  | set (i : Nat) (e : CE)
  | setT (is : List Nat) (e : CE)
  | par (i j : Nat) (a b : CE)
  | setp (i : Nat) (es : List CE) (l : CE) (e : CE)
  | app (i : Nat) (es : List CE) (e : CE)
  | clr (i : Nat) (es : List CE)
  | ext (i : Nat) (e : CE)
  | ex (e : CE)
  | ret (e : CE) | retN
  | ite (c : CT) (a b : List CS)
  | for_ (tg : CTg) (it : CIt) (body : List CS)
  | whl (fuel : Nat) (c : CT) (body : List CS)
  | brk | cnt | pass | doc
  | rais (x : Str)
  | try_ (body : List CS) (x : Str) (i : Nat) (h : List CS)

/-! ### results -/
inductive ER where
  | ok (t : Tr) (Γ : List Tr) | ex (x : Str) (Γ : List Tr)
inductive AV where
  | tmp (t : Tr) | pk (i : Nat) | io (i : Nat)
inductive AR where
  | ok (as : List AV) (Γ : List Tr) | ex (x : Str) (Γ : List Tr)
inductive TR where
  | ok (b : Bool) (Γ : List Tr) | ex (x : Str) (Γ : List Tr)
inductive IR where
  | ok (ds : List PyData) (Γ : List Tr) | ex (x : Str) (Γ : List Tr)
inductive SR where
  | nx (Γ : List Tr) | rt (t : Tr) (Γ : List Tr) | bk (Γ : List Tr) | ct (Γ : List Tr) | ex (x : Str) (Γ : List Tr)
inductive FR where
  | ok (t : Tr) (outs : List Tr) | ex (x : Str)
structure Genv where
  fn : Str → Option (List Tr → Option FR)
  gl : Str → Option PyData

/-! ### trees as they are seen -/
def see : Tr → Option PyData
  | .s ns => some (.list (ns.map PyData.int))
  | t => frz t
def asInt : Tr → Option Int
  | .c (.int i) => some i
  | _ => none
def asStr : Tr → Option Str
  | .c (.str x) => some x
  | _ => none
def asBool : Tr → Option Bool
  | .c (.bool b) => some b
  | _ => none
/-- settled items -/
def stl : List Tr → Option (List PyData)
  | [] => some []
  | .c d :: xs => (stl xs).map (d :: ·)
  | _ => none
def asList : Tr → Option (List PyData)
  | .c (.list ds) => some ds
  | .l xs => stl xs
  | _ => none
def asTup : Tr → Option (List PyData)
  | .c (.tuple ds) => some ds
  | .t xs => stl xs
  | _ => none
def asSeq (t : Tr) : Option (List PyData) := match asList t with
  | some ds => some ds
  | none => asTup t
def lT (ds : List PyData) : Tr := .l (ds.map .c)
def intsOf : List PyData → Option (List Int)
  | [] => some []
  | .int i :: r => (intsOf r).map (i :: ·)
  | _ => none
def boolsOf : List PyData → Option (List Bool)
  | [] => some []
  | .bool b :: r => (boolsOf r).map (b :: ·)
  | _ => none
def flatD : PyData → Bool
  | .none | .bool _ | .int _ | .str _ => true
  | _ => false
def tyName : Tr → Option String
  | .c .none => some "NoneType"
  | .c (.bool _) => some "bool"
  | .c (.int _) => some "int"
  | .c (.str _) => some "str"
  | .c (.list _) => some "list"
  | .c (.tuple _) => some "tuple"
  | .c (.dict _) => some "dict"
  | .l _ => some "list"
  | .t _ => some "tuple"
  | _ => none
def truth : Tr → Option Bool
  | .c .none => some false
  | .c (.bool b) => some b
  | .c (.int i) => some (i != 0)
  | .c (.str x) => if x.length ≤ sizeLine then some ((x.length : Int) != 0) else none
  | .c (.list ds) => some (!ds.isEmpty)
  | .c (.tuple ds) => some (!ds.isEmpty)
  | .l xs => some (!xs.isEmpty)
  | .t xs => some (!xs.isEmpty)
  | .s ns => some (!ns.isEmpty)
  | _ => none

/-! ### operations on values that are seen -/
def plainD (d : PyData) : Bool := noDict d && SeqAt.shaped d
def eqEv (a b : Tr) : Option Bool := match see a, see b with
  | some d, some e => if plainD d && plainD e then some (PyData.eqv d e) else none
  | _, _ => none
def cmpI (p : Int → Int → Bool) (a b : Tr) : Option Bool := match asInt a, asInt b with
  | some i, some j => some (p i j)
  | _, _ => none
def ltT (a b : Tr) : Option Bool := match asTup a, asTup b with
  | some xs, some ys => match intsOf xs, intsOf ys with
    | some ns, some ms => some (HT.lexLt ns ms)
    | _, _ => none
  | _, _ => none
def isEv (a b : Tr) : Option Bool := match b with
  | .c .none => (match a with
    | .c .none => some true
    | .gone => none
    | _ => some false)
  | .c (.bool k) => (match asBool a with
    | some j => some (decide (j = k))
    | none => none)
  | _ => none
def inEv (a b : Tr) : Option Bool := match see a with
  | some d => (match b with
    | .c (.tuple ds) => if flatD d && ds.all flatD then some (ds.any fun z => PyData.eqv z d) else none
    | _ => match see b with
      | some (.list ds) => if plainD d && plainD (.list ds) then some (ds.any fun z => PyData.eqv z d) else none
      | _ => none)
  | none => none
def cmpEv : CmpOp → Tr → Tr → Option Bool
  | .Eq, a, b => eqEv a b
  | .NotEq, a, b => (eqEv a b).map (!·)
  | .Lt, a, b => match cmpI (fun i j => decide (i < j)) a b with
    | some r => some r
    | none => ltT a b
  | .LtE, a, b => cmpI (fun i j => decide (i ≤ j)) a b
  | .Gt, a, b => cmpI (fun i j => decide (j < i)) a b
  | .GtE, a, b => cmpI (fun i j => decide (j ≤ i)) a b
  | .Is, a, b => isEv a b
  | .IsNot, a, b => (isEv a b).map (!·)
  | .In, a, b => inEv a b
  | .NotIn, a, b => (inEv a b).map (!·)
def iT (i : Int) : Tr := .c (.int i)
def bT (b : Bool) : Tr := .c (.bool b)
def int2 (g : Int → Int → Option Int) (a b : Tr) : Option Tr := match asInt a, asInt b with
  | some i, some j => (g i j).map iT
  | _, _ => none
def addEv (a b : Tr) : Option Tr := match asInt a, asInt b with
  | some i, some j => some (iT (i + j))
  | _, _ => match asList a, asList b with
    | some xs, some ys => if xs.length + ys.length ≤ sizeLine then some (lT (xs ++ ys)) else none
    | _, _ => match asTup a, asTup b with
      | some xs, some ys => if xs.length + ys.length ≤ sizeLine then some (.c (.tuple (xs ++ ys))) else none
      | _, _ => match asStr a, asStr b with
        | some x, some y => if x.length + y.length ≤ sizeLine then some (.c (.str (x ++ y))) else none
        | _, _ => none
def mulEv (a b : Tr) : Option Tr := match asInt b with
  | some k => (match asInt a with
    | some i => if i.natAbs.log2 + k.natAbs.log2 < 1000000 then some (iT (i * k)) else none
    | none => match asList a with
      | some xs => if -(2 ^ 63) ≤ k ∧ k < 2 ^ 63 ∧ xs.length * k.toNat ≤ sizeLine then some (lT (List.replicate k.toNat xs).flatten) else none
      | none => match asTup a with
        | some xs => if xs ≠ [] ∧ -(2 ^ 31) ≤ k ∧ k ≤ 2 ^ 31 ∧ xs.length * k.toNat ≤ sizeLine then some (.c (.tuple (List.replicate k.toNat xs).flatten)) else none
        | none => none)
  | none => none
def ixEv (a b : Tr) : Option Tr := match asInt b with
  | some i => (match a with
    | .s ns => (atI ns i).map iT
    | _ => match asSeq a with
      | some xs => (atI xs i).map .c
      | none => match asStr a with
        | some x => if x.length ≤ sizeLine then (atI x.cps.toList i).map fun c => .c (.str ⟨#[c]⟩) else none
        | none => none)
  | none => none
def cutD (xs : List PyData) (lo hi : Option Int) : List PyData := (xs.drop (HT.sIx xs.length 0 lo)).take (HT.sIx xs.length xs.length hi - HT.sIx xs.length 0 lo)
def slEv (a : Tr) (lo hi : Option Int) : Option Tr := match asList a with
  | some xs => some (lT (cutD xs lo hi))
  | none => match asTup a with
    | some xs => some (.c (.tuple (cutD xs lo hi)))
    | none => none
def biEv : Bi → List Tr → Option Tr
  | .len, [a] => match a with
    | .s ns => some (iT ns.length)
    | _ => match asSeq a with
      | some xs => some (iT xs.length)
      | none => match asStr a with
        | some x => if x.length ≤ sizeLine then some (iT x.length) else none
        | none => none
  | .abs, [a] => (asInt a).map fun i => iT (if i < 0 then -i else i)
  | .max2, [a, b] => int2 (fun i j => some (if j > i then j else i)) a b
  | .min2, [a, b] => int2 (fun i j => some (if j < i then j else i)) a b
  | .sum, [a] => match asList a with
    | some xs => (intsOf xs).map fun ns => iT ns.sum
    | none => none
  | .max1, [a] => match asList a with
    | some xs => (match intsOf xs with
      | some (n :: ns) => some (iT (ns.foldl max n))
      | _ => none)
    | none => none
  | .min1, [a] => match asList a with
    | some xs => (match intsOf xs with
      | some (n :: ns) => some (iT (ns.foldl min n))
      | _ => none)
    | none => none
  | .all, [a] => match asList a with
    | some xs => (boolsOf xs).map fun bs => bT (bs.all id)
    | none => none
  | .any, [a] => match asList a with
    | some xs => (boolsOf xs).map fun bs => bT (bs.any id)
    | none => none
  | .tuple, [a] => (asSeq a).map fun xs => .c (.tuple xs)
  | .list, [a] => (asSeq a).map lT
  | .int, [a] => match a with
    | .c (.int i) => some (iT i)
    | .c (.bool b) => some (iT (if b then 1 else 0))
    | _ => none
  | .str, [a] => match asInt a with
    | some i => if i.natAbs.log2 < 1920 then some (.c (.str (toString i))) else none
    | none => none
  | _, _ => none
def rgD (a b : Int) : List PyData := (List.range (b - a).toNat).map fun i => PyData.int (a + (i : Nat))
def rgOkB (a b : Int) : Bool := decide (-(2 ^ 62) ≤ a) && decide (a < 2 ^ 62) && decide (-(2 ^ 62) ≤ b) && decide (b < 2 ^ 62) && decide ((b - a).toNat ≤ 2 ^ 24)
def primEv : P → List Tr → Option Tr
  | .add, [a, b] => addEv a b
  | .sub, [a, b] => int2 (fun i j => some (i - j)) a b
  | .mul, [a, b] => mulEv a b
  | .fdiv, [a, b] => int2 (fun i j => if 0 < j ∧ j.natAbs.log2 < 9000 then some (i / j) else none) a b
  | .mod, [a, b] => int2 (fun i j => if 0 < j then some (i % j) else none) a b
  | .pow, [a, b] => int2 (fun i j => if 0 ≤ j ∧ j ≤ 1000000 ∧ i.natAbs < 2 ^ 64 then some (i ^ j.toNat) else none) a b
  | .neg, [a] => (asInt a).map fun i => iT (-i)
  | .cmp o, [a, b] => (cmpEv o a b).map bT
  | .ix, [a, b] => ixEv a b
  | .sl false false, [a] => slEv a none none
  | .sl true false, [a, b] => (asInt b).bind fun i => slEv a (some i) none
  | .sl false true, [a, b] => (asInt b).bind fun i => slEv a none (some i)
  | .sl true true, [a, b, c] => (asInt b).bind fun i => (asInt c).bind fun j => slEv a (some i) (some j)
  | .rev, [a] => (asList a).map fun xs => lT xs.reverse
  | .bi b, as => biEv b as
  | .isi T, [a] => match tyName a with
    | some n => (kitB n T).map bT
    | none => none
  | .lrg false, [a] => (asInt a).bind fun j => if rgOkB 0 j then some (lT (rgD 0 j)) else none
  | .lrg true, [a, b] => (asInt a).bind fun i => (asInt b).bind fun j => if rgOkB i j then some (lT (rgD i j)) else none
  | .trg false, [a] => (asInt a).bind fun j => if rgOkB 0 j then some (.c (.tuple (rgD 0 j))) else none
  | .trg true, [a, b] => (asInt a).bind fun i => (asInt b).bind fun j => if rgOkB i j then some (.c (.tuple (rgD i j))) else none
  | _, _ => none

/-! ### the interpreter -/
def isStl : Tr → Bool
  | .c _ => true
  | .s _ => true
  | _ => false
def putIn (i : Nat) (t : Tr) : Option ER → Option ER
  | some (.ok r Γ) => (match Γ[i]? with
    | some .gone => some (.ok r (Γ.set i t))
    | _ => none)
  | _ => none
def slotOk (Γ : List Tr) (i : Nat) : Bool := match Γ[i]? with
  | none => false
  | some .gone => false
  | some _ => true
def AR.cons (a : AV) : Option AR → Option AR
  | some (.ok avs Γ) => some (.ok (a :: avs) Γ)
  | r => r
def resolve (Γ : List Tr) : AV → Option Tr
  | .tmp t => some t
  | .pk i => Γ[i]?
  | .io _ => none
def resolves (Γ : List Tr) : List AV → Option (List Tr)
  | [] => some []
  | a :: as => match resolve Γ a, resolves Γ as with
    | some t, some ts => some (t :: ts)
    | _, _ => none
def tmps : List AV → Option (List Tr)
  | [] => some []
  | .tmp t :: as => (tmps as).map (t :: ·)
  | _ => none
/-- settled: data, or the script -/
def settle : Tr → Option Tr
  | .s ns => some (.s ns)
  | t => (frz t).map .c
/-- what a call hands in -/
def argOf (Γ : List Tr) : AV → Option Tr
  | .tmp t => settle t
  | .pk i => Γ[i]?.bind settle
  | .io i => match Γ[i]? with
    | some .gone => none
    | x => x
def argsOf (Γ : List Tr) : List AV → Option (List Tr)
  | [] => some []
  | a :: as => match argOf Γ a, argsOf Γ as with
    | some t, some ts => some (t :: ts)
    | _, _ => none
def slotsOf : List AV → List Nat
  | [] => []
  | .tmp _ :: as => slotsOf as
  | .pk i :: as => i :: slotsOf as
  | .io i :: as => i :: slotsOf as
def hasPk : List AV → Bool
  | [] => false
  | .pk _ :: _ => true
  | _ :: as => hasPk as
/-- behind a call: what was lent comes back -/
def backs (Γ : List Tr) : List AV → List Tr → List Tr
  | .io i :: as, o :: os => backs (Γ.set i o) as os
  | _ :: as, _ :: os => backs Γ as os
  | _, _ => Γ
def lost (Γ : List Tr) : List AV → List Tr
  | .io i :: as => lost (Γ.set i .gone) as
  | _ :: as => lost Γ as
  | [] => Γ
mutual
def aliasFree : Tr → Bool
  | .c d => flatD d
  | .l xs => aliasFrees xs
  | _ => false
def aliasFrees : List Tr → Bool
  | [] => true
  | x :: xs => aliasFree x && aliasFrees xs
end
def bindTp (Γ : List Tr) : List Nat → List PyData → Option (List Tr)
  | [], [] => some Γ
  | i :: is, d :: ds => bindTp (Γ.set i (.c d)) is ds
  | _, _ => none
def bindTg (Γ : List Tr) : CTg → PyData → Option (List Tr)
  | .nm i, d => some (Γ.set i (.c d))
  | .tp is, .tuple ds => if is.length = ds.length then bindTp Γ is ds else none
  | .tp _, _ => none
def tupT (ts : List Tr) : Tr := match stl ts with
  | some ds => .c (.tuple ds)
  | none => .t ts
def wipeT (Γ : List Tr) : List Nat → List Tr
  | [] => Γ
  | i :: is => (wipeT Γ is).set i .gone
/-- a path in settled data -/
def kidD : PyData → Int → Option PyData
  | .list ds, i => atI ds i
  | .tuple ds, i => atI ds i
  | _, _ => none
/-- the kid at a place -/
def kidT : Tr → Int → Option Tr
  | .l xs, k => atI xs k
  | .t xs, k => atI xs k
  | .c d, k => (kidD d k).map .c
  | .s ns, k => (atI ns k).map iT
  | .gone, _ => none
/-- the comprehension's turns: the state, what is made so far -/
def lcL (f : PyData → List Tr → Option ER) (c : List Tr → Option TR) (own : List Nat) (bind : List Tr → PyData → Option (List Tr)) : List PyData → List Tr → List Tr → Option ER
  | [], Γ, acc => some (.ok (.l acc) Γ)
  | d :: ds, Γ, acc => match bind Γ d with
    | none => none
    | some Γ1 => match c Γ1 with
      | some (.ok true Γ2) => (match f d Γ2 with
        | some (.ok t Γ3) => if acc.length < sizeLine then lcL f c own bind ds (wipeT Γ3 own) (acc ++ [t]) else none
        | _ => none)
      | some (.ok false Γ2) => lcL f c own bind ds (wipeT Γ2 own) acc
      | _ => none
mutual
def ev (F : Genv) : CE → List Tr → Option ER
  | .var i, Γ => match Γ[i]? with
    | some (.c d) => some (.ok (.c d) Γ)
    | some (.s ns) => some (.ok (.s ns) Γ)
    | some t => (frz t).map fun d => .ok (.c d) (Γ.set i (.c d))
    | none => none
  | .mv i, Γ => match Γ[i]? with
    | some .gone => none
    | some t => some (.ok t (Γ.set i .gone))
    | none => none
  | .lit d, Γ => if flatD d then some (.ok (.c d) Γ) else none
  | .glb x, Γ => (F.gl x).bind fun d => if flatD d then some (.ok (.c d) Γ) else none
  | .prim p as, Γ => match evAs F as Γ with
    | some (.ok avs Γ1) => (resolves Γ1 avs).bind fun ts => (primEv p ts).map fun t => .ok t Γ1
    | some (.ex x Γ1) => some (.ex x Γ1)
    | none => none
  | .tup as, Γ => match evAs F as Γ with
    | some (.ok avs Γ1) => (tmps avs).bind fun ts => if ts.length ≤ sizeLine then some (.ok (tupT ts) Γ1) else none
    | some (.ex x Γ1) => some (.ex x Γ1)
    | none => none
  | .lst as, Γ => match evAs F as Γ with
    | some (.ok avs Γ1) => (tmps avs).bind fun ts => if ts.length ≤ sizeLine then some (.ok (.l ts) Γ1) else none
    | some (.ex x Γ1) => some (.ex x Γ1)
    | none => none
  | .and_ a b, Γ => match ev F a Γ with
    | some (.ok t Γ1) => (match asBool t with
      | some true => ev F b Γ1
      | some false => some (.ok (bT false) Γ1)
      | none => none)
    | r => r
  | .or_ a b, Γ => match ev F a Γ with
    | some (.ok t Γ1) => (match asBool t with
      | some true => some (.ok (bT true) Γ1)
      | some false => ev F b Γ1
      | none => none)
    | r => r
  | .not_ a, Γ => match ev F a Γ with
    | some (.ok t Γ1) => (truth t).map fun b => .ok (bT (!b)) Γ1
    | r => r
  | .ife c a b, Γ => match evT F c Γ with
    | some (.ok true Γ1) => ev F a Γ1
    | some (.ok false Γ1) => ev F b Γ1
    | some (.ex x Γ1) => some (.ex x Γ1)
    | none => none
  | .chain o1 o2 ab c, Γ => match evAs F ab Γ with
    | some (.ok avs Γ1) => (match resolves Γ1 avs with
      | some [ta, tb] => (match cmpEv o1 ta tb with
        | some false => some (.ok (bT false) Γ1)
        | some true => (match see tb with
          | some db => (if flatD db then (match ev F c Γ1 with
            | some (.ok tc Γ2) => (cmpEv o2 (.c db) tc).map fun r => .ok (bT r) Γ2
            | r => r) else none)
          | none => none)
        | none => none)
      | _ => none)
    | some (.ex x Γ1) => some (.ex x Γ1)
    | none => none
  | .call x as, Γ => match F.fn x with
    | none => none
    | some f => match evAs F as Γ with
      | some (.ok avs Γ1) => if (slotsOf avs).Nodup then (argsOf Γ1 avs).bind fun ts => match f ts with
          | some (.ok t os) => if hasPk avs = false ∧ os.length = avs.length then some (.ok t (backs Γ1 avs os)) else none
          | some (.ex y) => if hasPk avs = false then some (.ex y (lost Γ1 avs)) else none
          | none => none
        else none
      | some (.ex y Γ1) => some (.ex y Γ1)
      | none => none
  | .lc own tg it cond elt, Γ => match evIt F it Γ with
    | some (.ok ds Γ1) => lcL (fun _ Γ => ev F elt Γ) (fun Γ => evC F cond Γ) own (fun Γ d => bindTg Γ tg d) ds (wipeT Γ1 own) []
    | some (.ex x Γ1) => some (.ex x Γ1)
    | none => none
  | .pth i es, Γ => evP F i es Γ
  | .pop i as, Γ => match Γ[i]? with
    | some (.l _) => (match evAs F as Γ with
      | some (.ok avs Γ1) => (match tmps avs, Γ1[i]? with
        | some [], some (.l xs) => (match xs[xs.length - 1]? with
          | some x => some (.ok x (Γ1.set i (.l xs.dropLast)))
          | none => none)
        | some [t], some (.l xs) => (match asInt t with
          | some k => if -(2 ^ 63) ≤ k ∧ k < 2 ^ 63 then (match seqIndex? k xs.length with
            | some j => (match xs[j]? with
              | some x => some (.ok x (Γ1.set i (.l (xs.eraseIdx j))))
              | none => none)
            | none => none) else none
          | none => none)
        | _, _ => none)
      | some (.ex x Γ1) => some (.ex x Γ1)
      | none => none)
    | _ => none
def evAs (F : Genv) : List CA → List Tr → Option AR
  | [], Γ => some (.ok [] Γ)
  | .pk i :: as, Γ => if slotOk Γ i then AR.cons (.pk i) (evAs F as Γ) else none
  | .io i :: as, Γ => if slotOk Γ i then AR.cons (.io i) (evAs F as Γ) else none
  | .e a :: as, Γ => match ev F a Γ with
    | some (.ok t Γ1) => AR.cons (.tmp t) (evAs F as Γ1)
    | some (.ex x Γ1) => some (.ex x Γ1)
    | none => none
def evT (F : Genv) : CT → List Tr → Option TR
  | .and_ a b, Γ => match evT F a Γ with
    | some (.ok true Γ1) => evT F b Γ1
    | r => r
  | .or_ a b, Γ => match evT F a Γ with
    | some (.ok false Γ1) => evT F b Γ1
    | r => r
  | .not_ a, Γ => match evT F a Γ with
    | some (.ok b Γ1) => some (.ok (!b) Γ1)
    | r => r
  | .pk i, Γ => match Γ[i]? with
    | some t => (truth t).map fun b => .ok b Γ
    | none => none
  | .e e, Γ => match ev F e Γ with
    | some (.ok t Γ1) => (truth t).map fun b => .ok b Γ1
    | some (.ex x Γ1) => some (.ex x Γ1)
    | none => none
def evC (F : Genv) : List CT → List Tr → Option TR
  | [], Γ => some (.ok true Γ)
  | c :: _, Γ => evT F c Γ
def evIt (F : Genv) : CIt → List Tr → Option IR
  | .sq e, Γ => match ev F e Γ with
    | some (.ok t Γ1) => (match t with
      | .s ns => some (.ok (ns.map .int) Γ1)
      | _ => match frz t with
        | some (.list ds) => some (.ok ds Γ1)
        | some (.tuple ds) => some (.ok ds Γ1)
        | _ => none)
    | some (.ex x Γ1) => some (.ex x Γ1)
    | none => none
  | .rng1 a, Γ => match ev F a Γ with
    | some (.ok t Γ1) => (asInt t).bind fun j => if -(2 ^ 62) ≤ j ∧ j < 2 ^ 62 then some (.ok (rgD 0 j) Γ1) else none
    | some (.ex x Γ1) => some (.ex x Γ1)
    | none => none
  | .rng2 ab, Γ => match evAs F ab Γ with
    | some (.ok avs Γ1) => (match resolves Γ1 avs with
      | some [ta, tb] => (asInt ta).bind fun i => (asInt tb).bind fun j => if -(2 ^ 62) ≤ i ∧ i < 2 ^ 62 ∧ -(2 ^ 62) ≤ j ∧ j < 2 ^ 62 then some (.ok (rgD i j) Γ1) else none
      | _ => none)
    | some (.ex x Γ1) => some (.ex x Γ1)
    | none => none
  | .enm e, Γ => match ev F e Γ with
    | some (.ok t Γ1) => (match frz t with
      | some (.list ds) => some (.ok (ds.zipIdx.map fun p => .tuple [.int (p.2 : Nat), p.1]) Γ1)
      | _ => none)
    | some (.ex x Γ1) => some (.ex x Γ1)
    | none => none
  | .zip ab, Γ => match evAs F ab Γ with
    | some (.ok avs Γ1) => (match tmps avs with
      | some [ta, tb] => (match frz ta, frz tb with
        | some (.list xs), some (.list ys) => some (.ok ((xs.zip ys).map fun p => .tuple [p.1, p.2]) Γ1)
        | some (.tuple xs), some (.tuple ys) => some (.ok ((xs.zip ys).map fun p => .tuple [p.1, p.2]) Γ1)
        | _, _ => none)
      | _ => none)
    | some (.ex x Γ1) => some (.ex x Γ1)
    | none => none
/-- x[e1][e2].. of the slot i -/
def evP (F : Genv) (i : Nat) : List CE → List Tr → Option ER
  | [], _ => none
  | e :: es, Γ => if slotOk Γ i then match ev F e Γ with
    | some (.ok te Γ1) => (match asInt te, Γ1[i]? with
      | some k, some t => (match kidT t k with
        | some t' => if isStl t' then evPt F t' es Γ1 else putIn i t (evPt F t' es (Γ1.set i .gone))
        | none => none)
      | _, _ => none)
    | r => r
    else none
def evPt (F : Genv) (t : Tr) : List CE → List Tr → Option ER
  | [], Γ => if isStl t then some (.ok t Γ) else none
  | e :: es, Γ => match ev F e Γ with
    | some (.ok te Γ1) => (match asInt te with
      | some k => (match kidT t k with
        | some t' => evPt F t' es Γ1
        | none => none)
      | none => none)
    | r => r
end

/-! ### statements -/
/-- the indices of a path, the slot itself not to be looked at meanwhile -/
def idxs : List AV → Option (List Int)
  | [] => some []
  | .tmp t :: as => match asInt t, idxs as with
    | some k, some ks => some (k :: ks)
    | _, _ => none
  | _ => none
/-- the list at a path is changed -/
def putP (g : List Tr → Option (List Tr)) : List Int → Tr → Option Tr
  | [], .l xs => (g xs).map Tr.l
  | [], _ => none
  | k :: ks, .l xs => (ixN xs.length k).bind fun j => (xs[j]?).bind fun x => (putP g ks x).map fun y => .l (xs.set j y)
  | k :: ks, .t xs => (ixN xs.length k).bind fun j => (xs[j]?).bind fun x => (putP g ks x).map fun y => .t (xs.set j y)
  | _ :: _, _ => none
def setAt (k : Int) (v : Tr) (xs : List Tr) : Option (List Tr) := (ixN xs.length k).map fun j => xs.set j v
def appAt (v : Tr) (xs : List Tr) : Option (List Tr) := if xs.length < sizeLine then some (xs ++ [v]) else none
def extAt (vs : List Tr) (xs : List Tr) : Option (List Tr) := if xs.length + vs.length ≤ sizeLine then some (xs ++ vs) else none
def forL (body : List Tr → Option SR) (bind : List Tr → PyData → Option (List Tr)) : List PyData → List Tr → Option SR
  | [], Γ => some (.nx Γ)
  | d :: ds, Γ => match bind Γ d with
    | none => none
    | some Γ1 => match body Γ1 with
      | some (.nx Γ2) => forL body bind ds Γ2
      | some (.ct Γ2) => forL body bind ds Γ2
      | some (.bk Γ2) => some (.nx Γ2)
      | r => r
def whL (c : List Tr → Option TR) (body : List Tr → Option SR) : Nat → List Tr → Option SR
  | 0, _ => none
  | n + 1, Γ => match c Γ with
    | some (.ok true Γ1) => (match body Γ1 with
      | some (.nx Γ2) => whL c body n Γ2
      | some (.ct Γ2) => whL c body n Γ2
      | some (.bk Γ2) => some (.nx Γ2)
      | r => r)
    | some (.ok false Γ1) => some (.nx Γ1)
    | some (.ex x Γ1) => some (.ex x Γ1)
    | none => none
def setAll (Γ : List Tr) : List Nat → List Tr → Option (List Tr)
  | [], [] => some Γ
  | i :: is, t :: ts => setAll (Γ.set i t) is ts
  | _, _ => none
def partsOf : Tr → Option (List Tr)
  | .c (.tuple ds) => some (ds.map .c)
  | .t xs => some xs
  | _ => none
mutual
def exS (F : Genv) : CS → List Tr → Option SR
  | .set i e, Γ => match ev F e Γ with
    | some (.ok t Γ1) => some (.nx (Γ1.set i t))
    | some (.ex x Γ1) => some (.ex x Γ1)
    | none => none
  | .setT is e, Γ => match ev F e Γ with
    | some (.ok t Γ1) => (partsOf t).bind fun ts => if is.length = ts.length then (setAll Γ1 is ts).map .nx else none
    | some (.ex x Γ1) => some (.ex x Γ1)
    | none => none
  | .par i j a b, Γ => match ev F a Γ with
    | some (.ok t Γ1) => (match ev F b Γ1 with
      | some (.ok u Γ2) => some (.nx ((Γ2.set i t).set j u))
      | some (.ex x Γ2) => some (.ex x Γ2)
      | none => none)
    | some (.ex x Γ1) => some (.ex x Γ1)
    | none => none
  | .setp i es l e, Γ => match ev F e Γ with
    | some (.ok v Γ1) => (match Γ1[i]? with
      | some .gone => none
      | some t => (match evAs F (es.map .e) (Γ1.set i .gone) with
        | some (.ok avs Γ2) => (match idxs avs with
          | some ks => (match ev F l Γ2 with
            | some (.ok tl Γ3) => (match asInt tl, Γ3[i]? with
              | some k, some .gone => (match putP (setAt k v) ks t with
                | some t' => some (.nx (Γ3.set i t'))
                | none => none)
              | _, _ => none)
            | _ => none)
          | none => none)
        | _ => none)
      | none => none)
    | some (.ex x Γ1) => some (.ex x Γ1)
    | none => none
  | .app i [] e, Γ => match Γ[i]? with
    | some (.l _) => (match ev F e Γ with
      | some (.ok v Γ1) => (match Γ1[i]? with
        | some (.l xs) => if xs.length < sizeLine then some (.nx (Γ1.set i (.l (xs ++ [v])))) else none
        | _ => none)
      | some (.ex x Γ1) => some (.ex x Γ1)
      | none => none)
    | _ => none
  | .app i es e, Γ => match Γ[i]? with
    | some .gone => none
    | some t => (match evAs F (es.map .e) (Γ.set i .gone) with
      | some (.ok avs Γ2) => (match idxs avs with
        | some ks => (match ev F e Γ2 with
          | some (.ok v Γ3) => (match Γ3[i]? with
            | some .gone => (match putP (appAt v) ks t with
              | some t' => some (.nx (Γ3.set i t'))
              | none => none)
            | _ => none)
          | _ => none)
        | none => none)
      | _ => none)
    | none => none
  | .ext i e, Γ => match Γ[i]? with
    | some (.l _) => (match ev F e Γ with
      | some (.ok v Γ1) => (match Γ1[i]? with
        | some (.l xs) => (match v with
          | .l vs => if xs.length + vs.length ≤ sizeLine then some (.nx (Γ1.set i (.l (xs ++ vs)))) else none
          | .c (.list ds) => if xs.length + ds.length ≤ sizeLine then some (.nx (Γ1.set i (.l (xs ++ ds.map .c)))) else none
          | _ => none)
        | _ => none)
      | some (.ex x Γ1) => some (.ex x Γ1)
      | none => none)
    | _ => none
  | .clr i es, Γ => match Γ[i]? with
    | some .gone => none
    | some t => (match evAs F (es.map .e) (Γ.set i .gone) with
      | some (.ok avs Γ2) => (match idxs avs with
        | some ks => (match Γ2[i]? with
          | some .gone => (match putP (fun _ => some []) ks t with
            | some t' => some (.nx (Γ2.set i t'))
            | none => none)
          | _ => none)
        | none => none)
      | _ => none)
    | none => none
  | .ex e, Γ => match ev F e Γ with
    | some (.ok _ Γ1) => some (.nx Γ1)
    | some (.ex x Γ1) => some (.ex x Γ1)
    | none => none
  | .ret e, Γ => match ev F e Γ with
    | some (.ok t Γ1) => some (.rt t Γ1)
    | some (.ex x Γ1) => some (.ex x Γ1)
    | none => none
  | .retN, Γ => some (.rt (.c .none) Γ)
  | .ite c a b, Γ => match evT F c Γ with
    | some (.ok true Γ1) => exB F a Γ1
    | some (.ok false Γ1) => exB F b Γ1
    | some (.ex x Γ1) => some (.ex x Γ1)
    | none => none
  | .for_ tg it body, Γ => match evIt F it Γ with
    | some (.ok ds Γ1) => forL (fun Γ => exB F body Γ) (fun Γ d => bindTg Γ tg d) ds Γ1
    | some (.ex x Γ1) => some (.ex x Γ1)
    | none => none
  | .whl n c body, Γ => whL (fun Γ => evT F c Γ) (fun Γ => exB F body Γ) n Γ
  | .brk, Γ => some (.bk Γ)
  | .cnt, Γ => some (.ct Γ)
  | .pass, Γ => some (.nx Γ)
  | .doc, Γ => some (.nx Γ)
  | .rais x, Γ => some (.ex x Γ)
  | .try_ body x i h, Γ => none
def exB (F : Genv) : List CS → List Tr → Option SR
  | [], Γ => some (.nx Γ)
  | s :: ss, Γ => match exS F s Γ with
    | some (.nx Γ1) => exB F ss Γ1
    | r => r
end
/-- what is given back of the parameters: those that are lent -/
def outsOf : List Bool → List Tr → List Tr
  | true :: ps, x :: xs => x :: outsOf ps xs
  | false :: ps, _ :: xs => .gone :: outsOf ps xs
  | _, _ => []
/-- a def, by its body: n names, the parameters first; ps: which are lent -/
def runDef (F : Genv) (n : Nat) (ps : List Bool) (body : List CS) (ts : List Tr) : Option FR :=
  if ts.length = ps.length ∧ ps.length ≤ n then
    match exB F body (ts ++ List.replicate (n - ts.length) .gone) with
    | some (.nx Γ) => some (.ok (.c .none) (outsOf ps Γ))
    | some (.rt t Γ) => some (.ok t (outsOf ps Γ))
    | some (.ex x _) => some (.ex x)
    | _ => none
  else none
end Hw
set_option Elab.async false
set_option linter.all false
set_option maxRecDepth 100000
set_option maxHeartbeats 1000000
/-! operations on values: what the interpreter says is what the rules ask -/
namespace Hw
open PySem PySem.Spec PyProof.Rows L2

/-- a tree that is seen at a value -/
def RepW (K : PySem.W.Frag) (H : Hp) (f : Fp) (t : Tr) (v : V) : Prop := ∃ g, Rep K H f t v g
/-- what is owned stands -/
def Alc (H : Hp) (f : Fp) : Prop := ∀ a, 1 ≤ f a → ∃ o, H a = some o
theorem Alc.zero {H : Hp} {f : Fp} {p : Addr} (h : Alc H f) (n : H p = none) : f p = 0 := by
  cases q : f p with
  | zero => rfl
  | succ k =>
    obtain ⟨o, e⟩ := h p (by omega)
    rw [n] at e; cases e
/-- a new value: what stood stands, what is owned besides is new -/
def New (K : PySem.W.Frag) (H : Hp) (f : Fp) (H' : Hp) (f' : Fp) (t : Tr) (v : V) : Prop :=
  Ext H H' ∧ ∃ g, Rep K H' f' t v g ∧ (∀ a, f' a = f a + g a) ∧ ∀ a, 1 ≤ g a → g a ≤ 1 ∧ H a = none ∧ ∃ o, H' a = some o
section
variable {K : PySem.W.Frag} {H H' : Hp} {f f' pr : Fp}
theorem New.stp {t : Tr} {v : V} (n : New K H f H' f' t v) (pr : Fp) : Stp H f pr H' f' := by
  obtain ⟨e, g, r, hf, hg⟩ := n
  refine ⟨fun a o h h0 => ⟨e a o h, ?_⟩, fun a o _ h => e a o h⟩
  rw [hf a, h0, Nat.zero_add]
  cases q : g a with
  | zero => rfl
  | succ k =>
    obtain ⟨_, z, _⟩ := hg a (by omega)
    rw [h] at z; cases z
theorem New.alc {t : Tr} {v : V} (n : New K H f H' f' t v) (h : Alc H f) : Alc H' f' := by
  obtain ⟨e, g, r, hf, hg⟩ := n
  intro a ha
  rw [hf a] at ha
  by_cases q : 1 ≤ g a
  · exact (hg a q).2.2
  · obtain ⟨o, ho⟩ := h a (by omega)
    exact ⟨o, e a o ho⟩
theorem New.le1 {t : Tr} {v : V} (n : New K H f H' f' t v) (h : Alc H f) (h1 : ∀ a, f a ≤ 1) : ∀ a, f' a ≤ 1 := by
  obtain ⟨e, g, r, hf, hg⟩ := n
  intro a
  rw [hf a]
  by_cases q : 1 ≤ g a
  · obtain ⟨q1, q2, _⟩ := hg a q
    have := h.zero q2
    omega
  · have := h1 a
    omega
theorem New.flat {d : PyData} {v : V} (h : Dr K (mn H f) d v) : New K H f H f (.c d) v :=
  ⟨Ext.refl H, fun _ => 0, by unfold Rep; exact h, fun a => by simp, fun a z => by simp at z⟩
theorem New.int (i : Int) : New K H f H f (iT i) (.int i) := New.flat (by unfold Dr; rfl)
theorem New.bool (b : Bool) : New K H f H f (bT b) (.bl b) := New.flat (by unfold Dr; rfl)
theorem New.str (x : Str) : New K H f H f (.c (.str x)) (.str x) := New.flat (by unfold Dr; rfl)
theorem mn_new {p : Addr} {o : HO} (n : H p = none) (h : Alc H f) : Ext (mn H f) (mn (upd H p o) f) := fun a u e => by
  obtain ⟨e0, e⟩ := mn_some e
  exact mn_of e0 (Ext.new n a u e)
theorem New.tup {p : Addr} {ds : List PyData} {xs : List V} (n : H p = none) (h : Alc H f) (d : DrL K (mn H f) ds xs) : New K H f (upd H p (.tup xs)) f (.c (.tuple ds)) (.ref p) := by
  refine ⟨Ext.new n, fun _ => 0, ?_, fun a => by simp, fun a z => by simp at z⟩
  unfold Rep Dr
  exact ⟨p, xs, rfl, mn_of (h.zero n) upd_same, DrL.ext (mn_new n h) d⟩
theorem RepL.settled : ∀ {ds : List PyData} {xs : List V}, DrL K (mn H f) ds xs → RepL K H f (ds.map .c) xs (fun _ => 0)
  | [], _, h => by unfold DrL at h; rw [h]; show RepL K H f [] _ _; unfold RepL; rfl
  | d :: ds, _, h => by
    unfold DrL at h
    obtain ⟨v, r, rfl, h1, h2⟩ := h
    show RepL K H f (.c d :: ds.map .c) _ _
    unfold RepL
    exact ⟨v, r, fun _ => 0, fun _ => 0, rfl, by unfold Rep; exact h1, RepL.settled h2, fun _ => Nat.le_refl _⟩
theorem mn_lnew {p : Addr} {o : HO} (n : H p = none) (h : Alc H f) : Ext (mn H f) (mn (upd H p o) fun a => f a + one p a) := fun a u e => by
  obtain ⟨e0, e⟩ := mn_some e
  have hp : a ≠ p := ne_of_none e n
  refine mn_of ?_ (Ext.new n a u e)
  show f a + one p a = 0
  rw [e0, one_ne hp]
theorem New.lst {p : Addr} {ds : List PyData} {xs : List V} (n : H p = none) (h : Alc H f) (d : DrL K (mn H f) ds xs) : New K H f (upd H p (.lst xs)) (fun a => f a + one p a) (lT ds) (.ref p) := by
  refine ⟨Ext.new n, one p, ?_, fun a => rfl, fun a z => ?_⟩
  · unfold lT Rep
    exact ⟨p, xs, fun _ => 0, rfl, upd_same, RepL.settled (DrL.ext (mn_lnew n h) d), fun a => by simp⟩
  · by_cases q : a = p
    · subst q
      exact ⟨by rw [one_self]; exact Nat.le_refl _, n, _, upd_same⟩
    · rw [one_ne q] at z; omega

/-! ### what is seen -/
theorem asInt_rep {t : Tr} {v : V} {i : Int} (r : RepW K H f t v) (e : asInt t = some i) : v = .int i := by
  obtain ⟨g, r⟩ := r
  unfold asInt at e
  split at e
  · cases e; unfold Rep Dr at r; exact r
  · cases e
theorem asStr_rep {t : Tr} {v : V} {x : Str} (r : RepW K H f t v) (e : asStr t = some x) : v = .str x := by
  obtain ⟨g, r⟩ := r
  unfold asStr at e
  split at e
  · cases e; unfold Rep Dr at r; exact r
  · cases e
theorem asBool_rep {t : Tr} {v : V} {b : Bool} (r : RepW K H f t v) (e : asBool t = some b) : v = .bl b := by
  obtain ⟨g, r⟩ := r
  unfold asBool at e
  split at e
  · cases e; unfold Rep Dr at r; exact r
  · cases e
theorem stl_rep : ∀ {xs : List Tr} {vs : List V} {g : Fp} {ds : List PyData}, RepL K H f xs vs g → stl xs = some ds → DrL K (mn H f) ds vs
  | [], _, _, _, h, e => by unfold stl at e; cases e; unfold RepL at h; unfold DrL; exact h
  | .c d :: xs, _, _, _, h, e => by
    unfold stl at e
    obtain ⟨es, e1, e2⟩ := Option.map_eq_some_iff.mp e
    subst e2
    unfold RepL at h
    obtain ⟨v, r, g1, g2, rfl, h1, h2, h3⟩ := h
    unfold Rep at h1
    unfold DrL
    exact ⟨v, r, rfl, h1, stl_rep h2 e1⟩
  | .l _ :: _, _, _, _, _, e => by unfold stl at e; cases e
  | .t _ :: _, _, _, _, _, e => by unfold stl at e; cases e
  | .s _ :: _, _, _, _, _, e => by unfold stl at e; cases e
  | .gone :: _, _, _, _, _, e => by unfold stl at e; cases e
theorem asList_rep {t : Tr} {v : V} {ds : List PyData} (r : RepW K H f t v) (e : asList t = some ds) : ∃ p xs, v = .ref p ∧ H p = some (.lst xs) ∧ DrL K (mn H f) ds xs := by
  obtain ⟨g, r⟩ := r
  unfold asList at e
  split at e
  · cases e
    unfold Rep Dr at r
    obtain ⟨a, xs, rfl, h1, h2⟩ := r
    exact ⟨a, xs, rfl, mn_ext _ _ _ _ h1, h2⟩
  · unfold Rep at r
    obtain ⟨p, vs, g', rfl, h1, h2, _⟩ := r
    exact ⟨p, vs, rfl, h1, stl_rep h2 e⟩
  · cases e
theorem asTup_rep {t : Tr} {v : V} {ds : List PyData} (r : RepW K H f t v) (e : asTup t = some ds) : ∃ p xs, v = .ref p ∧ mn H f p = some (.tup xs) ∧ DrL K (mn H f) ds xs := by
  obtain ⟨g, r⟩ := r
  unfold asTup at e
  split at e
  · cases e
    unfold Rep Dr at r
    obtain ⟨a, xs, rfl, h1, h2⟩ := r
    exact ⟨a, xs, rfl, h1, h2⟩
  · unfold Rep at r
    obtain ⟨p, vs, rfl, h1, h2⟩ := r
    exact ⟨p, vs, rfl, h1, stl_rep h2 e⟩
  · cases e
theorem asSeq_rep {t : Tr} {v : V} {ds : List PyData} (r : RepW K H f t v) (e : asSeq t = some ds) : ∃ p xs, v = .ref p ∧ (H p = some (.lst xs) ∨ mn H f p = some (.tup xs)) ∧ DrL K (mn H f) ds xs := by
  unfold asSeq at e
  split at e
  · rename_i ds' q
    cases e
    obtain ⟨p, xs, h0, h1, h2⟩ := asList_rep r q
    exact ⟨p, xs, h0, .inl h1, h2⟩
  · obtain ⟨p, xs, h0, h1, h2⟩ := asTup_rep r e
    exact ⟨p, xs, h0, .inr h1, h2⟩
theorem script_dr {ns : List Int} : DrL K H (ns.map PyData.int) (ns.map V.int) := by
  induction ns with
  | nil => show DrL K H [] _; unfold DrL; rfl
  | cons n ns ih =>
    show DrL K H (.int n :: ns.map PyData.int) _
    unfold DrL
    exact ⟨.int n, _, rfl, by unfold Dr; rfl, ih⟩
theorem noDictL_ints (ns : List Int) : noDict.noDictL (ns.map PyData.int) = true := by
  induction ns with
  | nil => rfl
  | cons n ns ih => show (noDict (.int n) && noDict.noDictL (ns.map PyData.int)) = true; rw [ih]; rfl
theorem see_dp {t : Tr} {v : V} {d : PyData} (r : RepW K H f t v) (e : see t = some d) (n : noDict d = true) : Dp K H v d := by
  obtain ⟨g, r⟩ := r
  cases t with
  | s ns =>
    unfold see at e; cases e
    unfold Rep at r
    obtain ⟨a, rfl, h⟩ := r
    exact .lst ((mn_ext H f).sql h) (DrL.dp script_dr (noDictL_ints ns))
  | gone => unfold see frz at e; cases e
  | c d' => exact (r.see (by unfold see at e; exact e)).dp n
  | l xs => exact (r.see (by unfold see at e; exact e)).dp n
  | t xs => exact (r.see (by unfold see at e; exact e)).dp n
theorem intsOf_rep : ∀ {ds : List PyData} {ns : List Int} {xs : List V}, intsOf ds = some ns → DrL K H ds xs → xs = ns.map V.int
  | [], _, _, e, h => by unfold intsOf at e; cases e; unfold DrL at h; exact h
  | .int i :: ds, _, _, e, h => by
    unfold intsOf at e
    obtain ⟨ms, e1, e2⟩ := Option.map_eq_some_iff.mp e
    subst e2
    unfold DrL at h
    obtain ⟨v, r, rfl, h1, h2⟩ := h
    unfold Dr at h1
    rw [h1, intsOf_rep e1 h2]; rfl
  | .none :: _, _, _, e, _ => by unfold intsOf at e; cases e
  | .bool _ :: _, _, _, e, _ => by unfold intsOf at e; cases e
  | .str _ :: _, _, _, e, _ => by unfold intsOf at e; cases e
  | .list _ :: _, _, _, e, _ => by unfold intsOf at e; cases e
  | .tuple _ :: _, _, _, e, _ => by unfold intsOf at e; cases e
  | .dict _ :: _, _, _, e, _ => by unfold intsOf at e; cases e
theorem boolsOf_rep : ∀ {ds : List PyData} {ns : List Bool} {xs : List V}, boolsOf ds = some ns → DrL K H ds xs → xs = ns.map V.bl
  | [], _, _, e, h => by unfold boolsOf at e; cases e; unfold DrL at h; exact h
  | .bool i :: ds, _, _, e, h => by
    unfold boolsOf at e
    obtain ⟨ms, e1, e2⟩ := Option.map_eq_some_iff.mp e
    subst e2
    unfold DrL at h
    obtain ⟨v, r, rfl, h1, h2⟩ := h
    unfold Dr at h1
    rw [h1, boolsOf_rep e1 h2]; rfl
  | .none :: _, _, _, e, _ => by unfold boolsOf at e; cases e
  | .int _ :: _, _, _, e, _ => by unfold boolsOf at e; cases e
  | .str _ :: _, _, _, e, _ => by unfold boolsOf at e; cases e
  | .list _ :: _, _, _, e, _ => by unfold boolsOf at e; cases e
  | .tuple _ :: _, _, _, e, _ => by unfold boolsOf at e; cases e
  | .dict _ :: _, _, _, e, _ => by unfold boolsOf at e; cases e
theorem truth_rep {t : Tr} {v : V} {b : Bool} (r : RepW K H f t v) (e : truth t = some b) : TruV K v H b := by
  obtain ⟨g, r⟩ := r
  have em : ∀ {ds : List PyData} {xs : List V}, DrL K (mn H f) ds xs → (!ds.isEmpty) = !xs.isEmpty := fun {ds xs} h => by
    have := h.length
    cases ds <;> cases xs <;> simp_all
  have em2 : ∀ {xs : List Tr} {vs : List V} {g : Fp}, RepL K H f xs vs g → (!xs.isEmpty) = !vs.isEmpty := fun {xs vs g} h => by
    cases xs with
    | nil => unfold RepL at h; rw [h]; rfl
    | cons x xs => unfold RepL at h; obtain ⟨v, r, _, _, rfl, _⟩ := h; rfl
  unfold truth at e
  split at e
  · cases e; unfold Rep Dr at r; subst r; exact rfl
  · cases e; unfold Rep Dr at r; subst r; exact rfl
  · cases e; unfold Rep Dr at r; subst r; exact rfl
  · unfold Rep Dr at r; subst r
    split at e
    · cases e; exact ⟨by assumption, rfl⟩
    · cases e
  · cases e; unfold Rep Dr at r; obtain ⟨a, xs, rfl, h1, h2⟩ := r
    exact .inl ⟨xs, SqL.of (mn_ext _ _ _ _ h1), em h2⟩
  · cases e; unfold Rep Dr at r; obtain ⟨a, xs, rfl, h1, h2⟩ := r
    exact .inr (.inl ⟨xs, SqT.of (mn_ext _ _ _ _ h1), em h2⟩)
  · cases e; unfold Rep at r; obtain ⟨p, vs, g', rfl, h1, h2, _⟩ := r
    exact .inl ⟨vs, SqL.of h1, em2 h2⟩
  · cases e; unfold Rep at r; obtain ⟨p, vs, rfl, h1, h2⟩ := r
    exact .inr (.inl ⟨vs, SqT.of (mn_ext _ _ _ _ h1), em2 h2⟩)
  · cases e; unfold Rep at r; obtain ⟨a, rfl, h⟩ := r
    rename_i ns
    exact .inl ⟨_, (mn_ext H f).sql h, by cases ns <;> rfl⟩
  · cases e
end

/-! ### the operators -/
section
variable {X : Cx} {H : Hp} {f : Fp} {a b t : Tr} {x y : V} {Q : VK}
def rAdd4 (K : PySem.W.Frag) : R2 := fun x y H Q => rI0 (fun i j => .int (i + j)) x y H Q ∨ rCat x y H Q ∨ rCatA K x y H Q ∨ (∃ i j, x = .str i ∧ y = .str j ∧ i.length + j.length ≤ sizeLine ∧ Q (.str (i ++ j)) H)
theorem op_add4 : OpR X (binaryOp .Add) (rAdd4 X.K) := op_add.or (op_cat.or (op_catA.or op_add_str))
theorem add_ok {K : PySem.W.Frag} (al : Alc H f) (ra : RepW K H f a x) (rb : RepW K H f b y) (e : addEv a b = some t) (q : ∀ v H' f', New K H f H' f' t v → Q v H') : rAdd4 K x y H Q := by
  unfold addEv at e
  split at e
  · rename_i i j e1 e2
    cases e
    exact .inl ⟨i, j, asInt_rep ra e1, asInt_rep rb e2, q _ _ _ (New.int _)⟩
  · split at e
    · rename_i xs ys e1 e2
      split at e
      · rename_i hl
        cases e
        obtain ⟨p, vs, rfl, h1, d1⟩ := asList_rep ra e1
        obtain ⟨p2, vs2, rfl, h2, d2⟩ := asList_rep rb e2
        exact .inr (.inl ⟨p, p2, vs, vs2, rfl, rfl, h1, h2, by rw [d1.length, d2.length]; exact hl, fun l hl => q _ _ _ (New.lst hl al (d1.append d2))⟩)
      · cases e
    · split at e
      · rename_i xs ys e1 e2
        split at e
        · rename_i hl
          cases e
          obtain ⟨p, vs, rfl, h1, d1⟩ := asTup_rep ra e1
          obtain ⟨p2, vs2, rfl, h2, d2⟩ := asTup_rep rb e2
          refine .inr (.inr (.inl ⟨p, p2, vs, vs2, rfl, rfl, SqT.of (mn_ext _ _ _ _ h1), SqT.of (mn_ext _ _ _ _ h2), by rw [d1.length, d2.length]; exact hl, fun z => ?_, fun z1 z2 => ?_, fun _ _ l hl => q _ _ _ (New.tup hl al (d1.append d2))⟩))
          · subst z
            have : xs = [] := List.eq_nil_of_length_eq_zero (by have := d1.length; simpa using this.symm)
            subst this
            exact q _ _ _ (New.flat (by unfold Dr; exact ⟨p2, vs2, rfl, h2, d2⟩))
          · subst z2
            have : ys = [] := List.eq_nil_of_length_eq_zero (by have := d2.length; simpa using this.symm)
            subst this
            rw [List.append_nil] at q
            exact q _ _ _ (New.flat (by unfold Dr; exact ⟨p, vs, rfl, h1, d1⟩))
        · cases e
      · split at e
        · rename_i u w e1 e2
          split at e
          · rename_i hl
            cases e
            exact .inr (.inr (.inr ⟨u, w, asStr_rep ra e1, asStr_rep rb e2, hl, q _ _ _ (New.str _)⟩))
          · cases e
        · cases e
theorem int2_ok {K : PySem.W.Frag} {g : Int → Int → Option Int} (ra : RepW K H f a x) (rb : RepW K H f b y) (e : int2 g a b = some t) : ∃ i j k, x = .int i ∧ y = .int j ∧ g i j = some k ∧ t = iT k := by
  unfold int2 at e
  split at e
  · rename_i i j e1 e2
    obtain ⟨k, e3, e4⟩ := Option.map_eq_some_iff.mp e
    exact ⟨i, j, k, asInt_rep ra e1, asInt_rep rb e2, e3, e4.symm⟩
  · cases e
theorem RepL.flatten {K : PySem.W.Frag} {H : Hp} {ds : List PyData} {xs : List V} (h : DrL K H ds xs) : ∀ n : Nat, DrL K H (List.replicate n ds).flatten (List.replicate n xs).flatten
  | 0 => by show DrL K H [] []; unfold DrL; rfl
  | n + 1 => by
    rw [List.replicate_succ, List.replicate_succ, List.flatten_cons, List.flatten_cons]
    exact h.append (RepL.flatten h n)
end
/-! ### t * k, any k -/
theorem tuple_mul1 (l : Addr) (items : Array Value) (n : Nat) (dd : Option Addr) (sl : Array (Option Value)) (u : Tok) :
    Meets (Builtin.«tuple.__mul__» ⟨[.ref l, .int 1 u], []⟩) (fun _ R s => s.heap.get? l = some { cls := .type "tuple", dict := dd, data := .seq items n, slots := sl } ∧
      R (.ok (.ret (Value.ref l))) s) :=
  .of_wp fun prog w A R s h => by
    obtain ⟨hp, g, d, tk, os⟩ := s
    obtain ⟨hl, h⟩ := h
    have f1 := AutoSeq1.idx_int
    wp_walk using wpAny_loadPart' hl
    exact ⟨_, rfl, h⟩
theorem tuple_mul0 (l : Addr) (items : Array Value) (n : Nat) (dd : Option Addr) (sl : Array (Option Value)) (x : Int) (u : Tok) (c0 : (decide (x < -(2 ^ 63)) || decide (x ≥ 2 ^ 63)) = false) (c1 : (items.isEmpty || x == 1) = false) (c2 : (decide (x ≤ 0) || items.isEmpty) = true) :
    Meets (Builtin.«tuple.__mul__» ⟨[.ref l, .int x u], []⟩) (fun _ R s => s.heap.get? l = some { cls := .type "tuple", dict := dd, data := .seq items n, slots := sl } ∧
      R (.ok (.ret (Value.ref s.heap.objs.size))) { s with heap := s.heap.push { cls := Value.type "tuple", data := Data.seq #[] }, toks := s.toks }) :=
  .of_wp fun prog w A R s h => by
    obtain ⟨hp, g, d, tk, os⟩ := s
    obtain ⟨hl, h⟩ := h
    have f1 := AutoSeq1.idx_int
    wp_walk using wpAny_loadPart' hl
    repeat (first
      | (refine wpAny_ite_false (decide_eq_false (by rw [c0]; exact Bool.false_ne_true)) ?_; wp_walk using wpAny_loadPart' hl)
      | (refine wpAny_ite_false (decide_eq_false (by rw [c1]; exact Bool.false_ne_true)) ?_; wp_walk using wpAny_loadPart' hl)
      | (refine wpAny_ite_true (decide_eq_true c2) ?_; wp_walk using wpAny_loadPart' hl))
    exact ⟨_, rfl, h⟩
def rRepA (K : PySem.W.Frag) : R2 := fun x y H Q => ∃ l k xs, x = .ref l ∧ y = .int k ∧ SqT K H l xs ∧ xs ≠ [] ∧ -(2 ^ 31) ≤ k ∧ k ≤ 2 ^ 31 ∧ xs.length * k.toNat ≤ sizeLine ∧
  (k = 1 → Q (.ref l) H) ∧ (k ≠ 1 → ∀ p, H p = none → Q (.ref p) (upd H p (.tup (List.replicate k.toNat xs).flatten)))
theorem op_repA {X : Cx} : OpR X (binaryOp .Mult) (rRepA X.K) := by
  intro pins s σ H x y v u Q I rx ry h
  obtain ⟨l, k, xs, rfl, rfl, hT, hne, h1, h2, hz, q1, q⟩ := h
  cases rx
  obtain ⟨t, rfl⟩ := ry
  obtain ⟨its, r, ⟨⟨cls, dd, data, sl⟩, ho, hc, n, hd⟩, hs⟩ := I.tuple hT
  simp only at hc hd
  subst hc hd
  have hle : its.length = xs.length := r.length.symm
  have hn : its ≠ [] := fun e => hne (by
    rw [e] at hle
    exact List.eq_nil_of_length_eq_zero hle.symm)
  have hi : its.toArray.isEmpty = false := by
    cases its with
    | nil => exact absurd rfl hn
    | cons a b => rfl
  have hsz0 : its.toArray.size = xs.length := by rw [List.size_toArray, hle]
  have c0 : (decide (k < -(2 ^ 63)) || decide (k ≥ 2 ^ 63)) = false := by
    rw [decide_eq_false (by omega), decide_eq_false (by omega)] <;> rfl
  by_cases k1 : k = 1
  · subst k1
    exact wpAny_binaryOp_repeat_ref (T := "tuple") (U := "int") (by decide) ⟨_, ho, rfl⟩ (fun s' => typeIs_int s' 1 t) noFill_tuple_mul F.fills_int_mul F.slot_int_rmul repeat_tuple F.slot_int_index.lookup
      (call_meets F.slot_int_rmul (typeIs_int s 1 t) F.entry_int_rmul (F.args_int_rmul_2 _ _) (int_rmul_tuple 1 t l its.toArray n dd sl)
        ⟨ho, rfl, ⟨_, ho, rfl⟩, call_meets F.slot_tuple_mul ⟨_, ho, rfl⟩ F.entry_tuple_mul (F.args_tuple_mul_2 _ _) (tuple_mul1 l its.toArray n dd sl t) ⟨ho, ⟨.ref l, H, I, rfl, q1 rfl⟩⟩⟩)
  have c1 : (its.toArray.isEmpty || k == 1) = false := by
    rw [hi, Bool.false_or]
    exact beq_eq_false_iff_ne.mpr k1
  by_cases k0 : k ≤ 0
  · have c2 : (decide (k ≤ 0) || its.toArray.isEmpty) = true := by rw [decide_eq_true k0]; rfl
    refine wpAny_binaryOp_repeat_ref (T := "tuple") (U := "int") (by decide) ⟨_, ho, rfl⟩ (fun s' => typeIs_int s' k t) noFill_tuple_mul F.fills_int_mul F.slot_int_rmul repeat_tuple F.slot_int_index.lookup
      (call_meets F.slot_int_rmul (typeIs_int s k t) F.entry_int_rmul (F.args_int_rmul_2 _ _) (int_rmul_tuple k t l its.toArray n dd sl)
        ⟨ho, rfl, ⟨_, ho, rfl⟩, call_meets F.slot_tuple_mul ⟨_, ho, rfl⟩ F.entry_tuple_mul (F.args_tuple_mul_2 _ _) (tuple_mul0 l its.toArray n dd sl k t c0 c1 c2) ⟨ho, ?_⟩⟩)
    have e0 : k.toNat = 0 := by omega
    have q' := q k1
    rw [e0] at q'
    exact ⟨.ref s.heap.objs.size, _, I.laid (t' := s.toks) (o := .tup (List.replicate 0 xs).flatten) (fun b ob q => Heap.get?_push_of_some _ q) (Nat.le_refl _) ⟨Nat.zero_le _, [], .nil, IsTup.new _ _⟩, rfl, q' _ (I.hok.fresh (Nat.le_refl _))⟩
  have flen : (List.replicate k.toNat its).flatten.length ≤ sizeLine := by
    rw [PyProof.Rows.lm_len_rep_flat, hle, Nat.mul_comm]
    exact hz
  have hm : ((its.toArray.size : Nat) : Int) * k ≤ 16777216 := by
    rw [hsz0]
    have e : k = ((k.toNat : Nat) : Int) := by omega
    rw [e, ← Int.natCast_mul]
    rw [sizeLine_eq] at hz
    omega
  have c2 : (decide (k ≤ 0) || its.toArray.isEmpty) = false := by
    rw [hi, Bool.or_false]
    exact decide_eq_false k0
  have c4 : Builtin.Tuple.tupleTooMany (((its.toArray.size : Nat) : Int) * k) = false := by
    unfold Builtin.Tuple.tupleTooMany
    rw [sizeLine_eq]
    exact decide_eq_false (by omega)
  refine wpAny_binaryOp_repeat_ref (T := "tuple") (U := "int") (by decide) ⟨_, ho, rfl⟩ (fun s' => typeIs_int s' k t) noFill_tuple_mul F.fills_int_mul F.slot_int_rmul repeat_tuple F.slot_int_index.lookup
    (call_meets F.slot_int_rmul (typeIs_int s k t) F.entry_int_rmul (F.args_int_rmul_2 _ _) (int_rmul_tuple k t l its.toArray n dd sl)
      ⟨ho, rfl, ⟨_, ho, rfl⟩, call_meets F.slot_tuple_mul ⟨_, ho, rfl⟩ F.entry_tuple_mul (F.args_tuple_mul_2 _ _) (tuple_mulW l its.toArray n dd sl k t c0 c1 c2 (by omega) c4 (by rw [size_rep, List.size_toArray]; exact flen)) ⟨ho, ?_⟩⟩)
  rw [size_rep]
  refine ⟨.ref s.heap.objs.size, _, I.laid (t' := s.toks) (o := .tup (List.replicate k.toNat xs).flatten) (fun b ob q => Heap.get?_push_of_some _ q) (Nat.le_refl _) ?_, rfl, q k1 _ (I.hok.fresh (Nat.le_refl _))⟩
  exact ⟨by rw [PyProof.Rows.lm_len_rep_flat, Nat.mul_comm]; exact hz, _, r.rep k.toNat, IsTup.new _ _⟩

section
variable {X : Cx} {H : Hp} {f : Fp} {a b t : Tr} {x y : V} {Q : VK} {K : PySem.W.Frag}
def rMul4 (K : PySem.W.Frag) : R2 := fun x y H Q => rI CMulW (fun i j => .int (i * j)) x y H Q ∨ rRep x y H Q ∨ rRepA K x y H Q
theorem op_mul4 : OpR X (binaryOp .Mult) (rMul4 X.K) := op_mulW.or (op_rep.or op_repA)
theorem mul_ok (al : Alc H f) (ra : RepW K H f a x) (rb : RepW K H f b y) (e : mulEv a b = some t) (q : ∀ v H' f', New K H f H' f' t v → Q v H') : rMul4 K x y H Q := by
  unfold mulEv at e
  split at e
  · rename_i k e1
    split at e
    · rename_i i e2
      split at e
      · rename_i hl
        cases e
        exact .inl ⟨i, k, asInt_rep ra e2, asInt_rep rb e1, hl, q _ _ _ (New.int _)⟩
      · cases e
    · split at e
      · rename_i xs e2
        split at e
        · rename_i hl
          cases e
          obtain ⟨p, vs, rfl, h1, d1⟩ := asList_rep ra e2
          exact .inr (.inl ⟨p, k, vs, rfl, asInt_rep rb e1, h1, hl.1, hl.2.1, by rw [d1.length]; exact hl.2.2, fun l hl => q _ _ _ (New.lst hl al (RepL.flatten d1 _))⟩)
        · cases e
      · split at e
        · rename_i xs e2
          split at e
          · rename_i hl
            cases e
            obtain ⟨p, vs, rfl, h1, d1⟩ := asTup_rep ra e2
            refine .inr (.inr ⟨p, k, vs, rfl, asInt_rep rb e1, SqT.of (mn_ext _ _ _ _ h1), fun z => hl.1 ?_, hl.2.1, hl.2.2.1, by rw [d1.length]; exact hl.2.2.2, fun k1 => ?_, fun _ l hl => q _ _ _ (New.tup hl al (RepL.flatten d1 _))⟩)
            · subst z
              exact List.eq_nil_of_length_eq_zero (by have := d1.length; simpa using this.symm)
            · subst k1
              have e0 : (List.replicate (1 : Int).toNat xs).flatten = xs := by show (List.replicate 1 xs).flatten = xs; simp
              rw [e0] at q
              exact q _ _ _ (New.flat (by unfold Dr; exact ⟨p, vs, rfl, h1, d1⟩))
          · cases e
        · cases e
  · cases e
/-! #### items, slices -/
theorem atI_map {α β : Type} (g : α → β) (xs : List α) (i : Int) : atI (xs.map g) i = (atI xs i).map g := by
  unfold atI
  rw [List.length_map]
  cases ixN xs.length i with
  | none => rfl
  | some j => simp
theorem atI_rep {ds : List PyData} {xs : List V} {i : Int} {d : PyData} (h : DrL K H ds xs) (e : atI ds i = some d) : ∃ v, atI xs i = some v ∧ Dr K H d v := by
  unfold atI at e ⊢
  rw [h.length]
  cases q : ixN ds.length i with
  | none => rw [q] at e; cases e
  | some j =>
    rw [q] at e
    exact h.get e
theorem ix_ok (ra : RepW K H f a x) (rb : RepW K H f b y) (e : ixEv a b = some t) (q : ∀ v H' f', New K H f H' f' t v → Q v H') : rIx K x y H Q := by
  unfold ixEv at e
  split at e
  · rename_i i e1
    have hy := asInt_rep rb e1
    subst hy
    split at e
    · rename_i ns
      obtain ⟨n, e2, rfl⟩ := Option.map_eq_some_iff.mp e
      obtain ⟨g, r⟩ := ra
      unfold Rep at r
      obtain ⟨p, rfl, h⟩ := r
      exact .inl ⟨p, _, i, .int n, rfl, rfl, (mn_ext H f).sql h, by rw [atI_map, e2]; rfl, q _ _ _ (New.int _)⟩
    · split at e
      · rename_i xs e2
        obtain ⟨d, e3, rfl⟩ := Option.map_eq_some_iff.mp e
        obtain ⟨p, vs, rfl, h1, d1⟩ := asSeq_rep ra e2
        obtain ⟨v, e4, d2⟩ := atI_rep d1 e3
        rcases h1 with h1 | h1
        · exact .inl ⟨p, vs, i, v, rfl, rfl, SqL.of h1, e4, q _ _ _ (New.flat d2)⟩
        · exact .inr (.inl ⟨p, vs, i, v, rfl, rfl, SqT.of (mn_ext _ _ _ _ h1), e4, q _ _ _ (New.flat d2)⟩)
      · split at e
        · rename_i z e2
          split at e
          · rename_i hl
            obtain ⟨c, e3, rfl⟩ := Option.map_eq_some_iff.mp e
            exact .inr (.inr ⟨z, i, c, asStr_rep ra e2, rfl, hl, e3, q _ _ _ (New.str _)⟩)
          · cases e
        · cases e
  · cases e
theorem DrL.take {ds : List PyData} {xs : List V} (h : DrL K H ds xs) (n : Nat) : DrL K H (ds.take n) (xs.take n) := by
  refine DrL.of_get (by rw [List.length_take, List.length_take, h.length]) fun i d v e1 e2 => ?_
  rw [List.getElem?_take] at e1 e2
  split at e1
  · rename_i hi
    rw [if_pos hi] at e2
    obtain ⟨w, e3, e4⟩ := h.get e1
    rw [e2] at e3; cases e3; exact e4
  · cases e1
theorem DrL.drop {ds : List PyData} {xs : List V} (h : DrL K H ds xs) (n : Nat) : DrL K H (ds.drop n) (xs.drop n) := by
  refine DrL.of_get (by rw [List.length_drop, List.length_drop, h.length]) fun i d v e1 e2 => ?_
  rw [List.getElem?_drop] at e1 e2
  obtain ⟨w, e3, e4⟩ := h.get e1
  rw [e2] at e3; cases e3; exact e4
theorem DrL.reverse {ds : List PyData} {xs : List V} (h : DrL K H ds xs) : DrL K H ds.reverse xs.reverse := by
  refine DrL.of_get (by rw [List.length_reverse, List.length_reverse, h.length]) fun i d v e1 e2 => ?_
  have hi : i < ds.length := by have := (List.getElem?_eq_some_iff.mp e1).1; simpa using this
  rw [List.getElem?_reverse hi] at e1
  rw [List.getElem?_reverse (by rw [h.length]; exact hi), h.length] at e2
  obtain ⟨w, e3, e4⟩ := h.get e1
  rw [e2] at e3; cases e3; exact e4
theorem DrL.cut {ds : List PyData} {xs : List V} (h : DrL K H ds xs) (lo hi : Option Int) : DrL K H (cutD ds lo hi) (cutV xs lo hi) := by
  unfold cutD cutV
  rw [h.length]
  exact (h.drop _).take _
def rSl2 (K : PySem.W.Frag) : V → Option Int → Option Int → Hp → VK → Prop := fun x lo hi H Q => rSlL K x lo hi H Q ∨ rSlA K x lo hi H Q
theorem sl_2 : SlR X (rSl2 X.K) := sl_list.or sl_tupA
theorem sl_ok {lo hi : Option Int} (al : Alc H f) (ra : RepW K H f a x) (e : slEv a lo hi = some t) (q : ∀ v H' f', New K H f H' f' t v → Q v H') : rSl2 K x lo hi H Q := by
  unfold slEv at e
  split at e
  · rename_i xs e1
    cases e
    obtain ⟨p, vs, rfl, h1, d1⟩ := asList_rep ra e1
    exact .inl ⟨p, vs, rfl, SqL.of h1, fun l hl => q _ _ _ (New.lst hl al (d1.cut lo hi))⟩
  · split at e
    · rename_i xs e1
      cases e
      obtain ⟨p, vs, rfl, h1, d1⟩ := asTup_rep ra e1
      refine .inr ⟨p, vs, rfl, SqT.of (mn_ext _ _ _ _ h1), fun z => ?_, fun _ l hl => q _ _ _ (New.tup hl al (d1.cut lo hi))⟩
      have e0 : cutD xs lo hi = xs := by
        unfold cutD
        rw [← d1.length, z.1, z.2, List.drop_zero, Nat.sub_zero, d1.length]
        exact List.take_length
      rw [e0] at q
      exact q _ _ _ (New.flat (by unfold Dr; exact ⟨p, vs, rfl, h1, d1⟩))
    · cases e
/-! #### comparisons -/
theorem eqv_flat {d e : PyData} {v w : V} (hd : Dr K H d v) (he : Dr K H e w) (fd : flatD d = true) (fe : flatD e = true) : PyData.eqv d e = eqV v w := by
  cases d <;> first | (unfold flatD at fd; cases fd; done) | (cases e <;> first | (unfold flatD at fe; cases fe; done) | (unfold Dr at hd he; subst hd; subst he; rfl))
theorem flat_v {d : PyData} {v : V} (hd : Dr K H d v) (fd : flatD d = true) : flatV v = true := by
  cases d <;> first | (unfold flatD at fd; cases fd; done) | (unfold Dr at hd; subst hd; rfl)
theorem flats_v : ∀ {ds : List PyData} {vs : List V}, DrL K H ds vs → ds.all flatD = true → vs.all flatV = true
  | [], _, h, _ => by unfold DrL at h; rw [h]; rfl
  | d :: ds, _, h, f => by
    unfold DrL at h
    obtain ⟨v, r, rfl, h1, h2⟩ := h
    rw [List.all_cons, Bool.and_eq_true] at f
    rw [List.all_cons, flat_v h1 f.1, flats_v h2 f.2]; rfl
theorem any_flat {d : PyData} {v : V} (hd : Dr K H d v) (fd : flatD d = true) : ∀ {ds : List PyData} {vs : List V}, DrL K H ds vs → ds.all flatD = true → (ds.any fun z => PyData.eqv z d) = inV v vs
  | [], _, h, _ => by unfold DrL at h; rw [h]; rfl
  | e :: ds, _, h, f => by
    unfold DrL at h
    obtain ⟨w, r, rfl, h1, h2⟩ := h
    rw [List.all_cons, Bool.and_eq_true] at f
    unfold inV
    rw [List.any_cons, List.any_cons, eqv_flat h1 hd f.1 fd]
    have := any_flat hd fd h2 f.2
    unfold inV at this
    rw [this]
def rCmp (K : PySem.W.Frag) : CmpOp → R2
  | .Eq => rEqD K
  | .NotEq => rNeD K
  | .Lt => fun x y H Q => rI0 (fun i j => .bl (decide (i < j))) x y H Q ∨ rLtT K x y H Q
  | .LtE => rI0 fun i j => .bl (decide (i ≤ j))
  | .Gt => rI0 fun i j => .bl (decide (j < i))
  | .GtE => rI0 fun i j => .bl (decide (j ≤ i))
  | .Is => fun x y H Q => (y = .non ∧ Q (.bl (decide (x = .non))) H) ∨ rIsB x y H Q
  | .IsNot => fun x y H Q => (y = .non ∧ Q (.bl (!decide (x = .non))) H) ∨ rNotB x y H Q
  | .In => fun x y H Q => rIn K false x y H Q ∨ rInD K x y H Q
  | .NotIn => fun x y H Q => rIn K true x y H Q ∨ rNotInD K x y H Q
theorem op_cmp (hu : X.A.units + 65 < cLine) : ∀ o : CmpOp, OpR X (compareOp o) (rCmp X.K o)
  | .Eq => op_eqD (by omega)
  | .NotEq => op_neD (by omega)
  | .Lt => op_lt.or (op_ltT (by omega))
  | .LtE => op_le
  | .Gt => op_gt
  | .GtE => op_ge
  | .Is => op_isN.or op_isBl
  | .IsNot => op_notN.or op_notBl
  | .In => op_in_seq.or (op_inD hu)
  | .NotIn => op_notIn_seq.or (op_notInD hu)
theorem eq_ok {r : Bool} (ra : RepW K H f a x) (rb : RepW K H f b y) (e : eqEv a b = some r) : ∃ d e, Dp K H x d ∧ Dp K H y e ∧ SeqAt.shaped d = true ∧ SeqAt.shaped e = true ∧ PyData.eqv d e = r := by
  unfold eqEv at e
  split at e
  · rename_i d d' e1 e2
    split at e
    · rename_i hp
      cases e
      simp only [plainD, Bool.and_eq_true] at hp
      exact ⟨d, d', see_dp ra e1 hp.1.1, see_dp rb e2 hp.2.1, hp.1.2, hp.2.2, rfl⟩
    · cases e
  · cases e
theorem cmpI_ok {p : Int → Int → Bool} {r : Bool} (ra : RepW K H f a x) (rb : RepW K H f b y) (e : cmpI p a b = some r) : ∃ i j, x = .int i ∧ y = .int j ∧ p i j = r := by
  unfold cmpI at e
  split at e
  · rename_i i j e1 e2
    cases e
    exact ⟨i, j, asInt_rep ra e1, asInt_rep rb e2, rfl⟩
  · cases e
theorem isEv_ok {r : Bool} (ra : RepW K H f a x) (rb : RepW K H f b y) (e : isEv a b = some r) : (y = .non ∧ decide (x = .non) = r) ∨ ∃ i j : Bool, x = .bl i ∧ y = .bl j ∧ decide (i = j) = r := by
  unfold isEv at e
  split at e
  · obtain ⟨g, rb⟩ := rb
    unfold Rep Dr at rb
    refine .inl ⟨rb, ?_⟩
    split at e
    · cases e
      obtain ⟨g, ra⟩ := ra
      unfold Rep Dr at ra
      rw [ra]; rfl
    · cases e
    · rename_i n1 n2
      cases e
      refine decide_eq_false fun z => ?_
      subst z
      obtain ⟨g, ra⟩ := ra
      cases a with
      | gone => exact n2 rfl
      | l xs => unfold Rep at ra; obtain ⟨_, _, _, h, _⟩ := ra; cases h
      | t xs => unfold Rep at ra; obtain ⟨_, _, h, _⟩ := ra; cases h
      | s ns => unfold Rep at ra; obtain ⟨_, h, _⟩ := ra; cases h
      | c d =>
        unfold Rep at ra
        cases d with
        | none => exact n1 rfl
        | bool b => unfold Dr at ra; cases ra
        | int b => unfold Dr at ra; cases ra
        | str b => unfold Dr at ra; cases ra
        | list b => unfold Dr at ra; obtain ⟨_, _, h, _⟩ := ra; cases h
        | tuple b => unfold Dr at ra; obtain ⟨_, _, h, _⟩ := ra; cases h
        | dict b => unfold Dr at ra; obtain ⟨_, h, _⟩ := ra; cases h
  · obtain ⟨g, rb⟩ := rb
    unfold Rep Dr at rb
    split at e
    · rename_i j e1
      cases e
      exact .inr ⟨j, _, asBool_rep ra e1, rb, rfl⟩
    · cases e
  · cases e
theorem inEv_ok {r : Bool} (ra : RepW K H f a x) (rb : RepW K H f b y) (e : inEv a b = some r) :
    (∃ p xs, y = .ref p ∧ (SqL K H p xs ∨ SqT K H p xs) ∧ flatV x = true ∧ xs.all flatV = true ∧ inV x xs = r) ∨
    (∃ d ds, Dp K H x d ∧ Dp K H y (.list ds) ∧ SeqAt.shaped d = true ∧ SeqAt.shaped (.list ds) = true ∧ (ds.any fun z => PyData.eqv z d) = r) := by
  unfold inEv at e
  split at e
  · rename_i d e1
    split at e
    · rename_i ds
      split at e
      · rename_i hp
        cases e
        rw [Bool.and_eq_true] at hp
        obtain ⟨g, rb⟩ := rb
        unfold Rep Dr at rb
        obtain ⟨p, xs, rfl, h1, h2⟩ := rb
        have nd : noDict d = true := by
          cases d <;> first | rfl | (have := hp.1; unfold flatD at this; cases this; done)
        have dx : Dr K H d x := by
          have h := see_dp ra e1 nd
          have h0 := hp.1
          cases d <;> first | (unfold flatD at h0; cases h0; done) | (cases h; unfold Dr; rfl)
        refine .inl ⟨p, xs, rfl, .inr (SqT.of (mn_ext _ _ _ _ h1)), flat_v dx hp.1, flats_v h2 hp.2, ?_⟩
        exact (any_flat dx hp.1 (DrL.ext (mn_ext H f) h2) hp.2).symm
      · cases e
    · split at e
      · rename_i ds e2
        split at e
        · rename_i hp
          cases e
          simp only [plainD, Bool.and_eq_true] at hp
          exact .inr ⟨d, ds, see_dp ra e1 hp.1.1, see_dp rb e2 hp.2.1, hp.1.2, hp.2.2, rfl⟩
        · cases e
      · cases e
  · cases e
theorem cmp_ok {o : CmpOp} {r : Bool} (ra : RepW K H f a x) (rb : RepW K H f b y) (e : cmpEv o a b = some r) (q : Q (.bl r) H) : rCmp K o x y H Q := by
  cases o with
  | Eq => obtain ⟨d, e', h1, h2, h3, h4, h5⟩ := eq_ok ra rb e; exact ⟨d, e', h1, h2, h3, h4, by rw [h5]; exact q⟩
  | NotEq =>
    obtain ⟨r', e1, rfl⟩ := Option.map_eq_some_iff.mp (show (eqEv a b).map (!·) = some r from e)
    obtain ⟨d, e', h1, h2, h3, h4, h5⟩ := eq_ok ra rb e1
    exact ⟨d, e', h1, h2, h3, h4, by rw [h5]; exact q⟩
  | Lt =>
    simp only [cmpEv] at e
    split at e
    · rename_i r' e1
      cases e
      obtain ⟨i, j, h1, h2, h3⟩ := cmpI_ok ra rb e1
      exact .inl ⟨i, j, h1, h2, by show Q (.bl (decide (i < j))) H; rw [h3]; exact q⟩
    · unfold ltT at e
      split at e
      · rename_i xs ys e1 e2
        split at e
        · rename_i ns ms e3 e4
          cases e
          obtain ⟨p, vs, rfl, h1, d1⟩ := asTup_rep ra e1
          obtain ⟨p2, vs2, rfl, h2, d2⟩ := asTup_rep rb e2
          refine .inr ⟨p, p2, ns, ms, rfl, rfl, ?_, ?_, q⟩
          · rw [← intsOf_rep e3 d1]; exact SqT.of (mn_ext _ _ _ _ h1)
          · rw [← intsOf_rep e4 d2]; exact SqT.of (mn_ext _ _ _ _ h2)
        · cases e
      · cases e
  | LtE => obtain ⟨i, j, h1, h2, h3⟩ := cmpI_ok ra rb e; exact ⟨i, j, h1, h2, by show Q (.bl (decide (i ≤ j))) H; rw [h3]; exact q⟩
  | Gt => obtain ⟨i, j, h1, h2, h3⟩ := cmpI_ok ra rb e; exact ⟨i, j, h1, h2, by show Q (.bl (decide (j < i))) H; rw [h3]; exact q⟩
  | GtE => obtain ⟨i, j, h1, h2, h3⟩ := cmpI_ok ra rb e; exact ⟨i, j, h1, h2, by show Q (.bl (decide (j ≤ i))) H; rw [h3]; exact q⟩
  | Is =>
    rcases isEv_ok ra rb e with ⟨h1, h2⟩ | ⟨i, j, h1, h2, h3⟩
    · exact .inl ⟨h1, by rw [h2]; exact q⟩
    · exact .inr ⟨i, j, h1, h2, by rw [h3]; exact q⟩
  | IsNot =>
    obtain ⟨r', e1, rfl⟩ := Option.map_eq_some_iff.mp (show (isEv a b).map (!·) = some r from e)
    rcases isEv_ok ra rb e1 with ⟨h1, h2⟩ | ⟨i, j, h1, h2, h3⟩
    · exact .inl ⟨h1, by rw [h2]; exact q⟩
    · exact .inr ⟨i, j, h1, h2, by rw [h3]; exact q⟩
  | In =>
    rcases inEv_ok ra rb e with ⟨p, xs, h0, h1, h2, h3, h4⟩ | ⟨d, ds, h1, h2, h3, h4, h5⟩
    · exact .inl ⟨p, xs, h0, h1, h2, h3, by rw [h4]; exact q⟩
    · exact .inr ⟨d, ds, h1, h2, h3, h4, by rw [h5]; exact q⟩
  | NotIn =>
    obtain ⟨r', e1, rfl⟩ := Option.map_eq_some_iff.mp (show (inEv a b).map (!·) = some r from e)
    rcases inEv_ok ra rb e1 with ⟨p, xs, h0, h1, h2, h3, h4⟩ | ⟨d, ds, h1, h2, h3, h4, h5⟩
    · exact .inl ⟨p, xs, h0, h1, h2, h3, by rw [h4]; exact q⟩
    · exact .inr ⟨d, ds, h1, h2, h3, h4, by rw [h5]; exact q⟩
/-! #### built-ins -/
theorem foldl_max (ns : List Int) : ∀ n : Int, (ns.foldl max n = n ∨ ns.foldl max n ∈ ns) ∧ n ≤ ns.foldl max n ∧ ∀ y ∈ ns, y ≤ ns.foldl max n := by
  induction ns with
  | nil => intro n; exact ⟨.inl rfl, Int.le_refl _, fun _ h => nomatch h⟩
  | cons a r ih =>
    intro n
    obtain ⟨h1, h2, h3⟩ := ih (max n a)
    show ((r.foldl max (max n a)) = n ∨ _) ∧ _
    refine ⟨?_, by show n ≤ r.foldl max (max n a); omega, fun y hy => ?_⟩
    · rcases h1 with h1 | h1
      · show r.foldl max (max n a) = n ∨ r.foldl max (max n a) ∈ a :: r
        rw [h1]
        by_cases q : a ≤ n
        · exact .inl (by omega)
        · exact .inr (by rw [show max n a = a by omega]; exact List.mem_cons_self)
      · exact .inr (List.mem_cons_of_mem _ h1)
    · rcases List.mem_cons.mp hy with rfl | hy
      · show y ≤ r.foldl max (max n y); omega
      · exact h3 y hy
theorem foldl_min (ns : List Int) : ∀ n : Int, (ns.foldl min n = n ∨ ns.foldl min n ∈ ns) ∧ ns.foldl min n ≤ n ∧ ∀ y ∈ ns, ns.foldl min n ≤ y := by
  induction ns with
  | nil => intro n; exact ⟨.inl rfl, Int.le_refl _, fun _ h => nomatch h⟩
  | cons a r ih =>
    intro n
    obtain ⟨h1, h2, h3⟩ := ih (min n a)
    show ((r.foldl min (min n a)) = n ∨ _) ∧ _
    refine ⟨?_, by show r.foldl min (min n a) ≤ n; omega, fun y hy => ?_⟩
    · rcases h1 with h1 | h1
      · show r.foldl min (min n a) = n ∨ r.foldl min (min n a) ∈ a :: r
        rw [h1]
        by_cases q : n ≤ a
        · exact .inl (by omega)
        · exact .inr (by rw [show min n a = a by omega]; exact List.mem_cons_self)
      · exact .inr (List.mem_cons_of_mem _ h1)
    · rcases List.mem_cons.mp hy with rfl | hy
      · show r.foldl min (min n y) ≤ y; omega
      · exact h3 y hy
/-- the built-in's rule -/
def Bi.val : Bi → Value
  | .len => .builtin "len" | .abs => .builtin "abs" | .max2 => .builtin "max" | .min2 => .builtin "min" | .max1 => .builtin "max" | .min1 => .builtin "min"
  | .sum => .builtin "sum" | .all => .builtin "all" | .any => .builtin "any" | .tuple => .type "tuple" | .list => .type "list" | .int => .type "int" | .str => .type "str"
def Bi.nm : Bi → Str
  | .len => "len" | .abs => "abs" | .max2 => "max" | .min2 => "min" | .max1 => "max" | .min1 => "min"
  | .sum => "sum" | .all => "all" | .any => "any" | .tuple => "tuple" | .list => "list" | .int => "int" | .str => "str"
def Bi.ar : Bi → Nat
  | .max2 => 2 | .min2 => 2 | _ => 1
abbrev RL := List V → Hp → VK → Prop
def rBi (K : PySem.W.Frag) : Bi → RL
  | .len => fun xs H Q => (∃ p ys, xs = [.ref p] ∧ (SqL K H p ys ∨ SqT K H p ys) ∧ Q (.int ys.length) H) ∨ (∃ z, xs = [.str z] ∧ z.length ≤ sizeLine ∧ Q (.int z.length) H)
  | .abs => fun xs H Q => ∃ i, xs = [.int i] ∧ Q (.int (if i < 0 then -i else i)) H
  | .max2 => fun xs H Q => ∃ i j, xs = [.int i, .int j] ∧ Q (.int (if j > i then j else i)) H
  | .min2 => fun xs H Q => ∃ i j, xs = [.int i, .int j] ∧ Q (.int (if j < i then j else i)) H
  | .max1 => rMax K
  | .min1 => rMin K
  | .sum => rSum K
  | .all => rAll K
  | .any => rAny K
  | .tuple => fun xs H Q => ∃ p ys, xs = [.ref p] ∧ ((SqL K H p ys ∧ ∀ l, H l = none → Q (.ref l) (upd H l (.tup ys))) ∨ (SqT K H p ys ∧ Q (.ref p) H))
  | .list => fun xs H Q => ∃ p ys, xs = [.ref p] ∧ (SqL K H p ys ∨ SqT K H p ys) ∧ ∀ l, H l = none → Q (.ref l) (upd H l (.lst ys))
  | .int => fun xs H Q => (∃ i, xs = [.int i] ∧ Q (.int i) H) ∨ ∃ k, xs = [.bl k] ∧ Q (.int (if k then 1 else 0)) H
  | .str => fun xs H Q => ∃ i, xs = [.int i] ∧ i.natAbs.log2 < 1920 ∧ Q (.str (toString i)) H
theorem call_bi (hc : X.calm = true) : ∀ b : Bi, CallR X b.val (rBi X.K b)
  | .len => call_len_seq.or call_len_str
  | .abs => call_abs
  | .max2 => call_max2 hc
  | .min2 => call_min2 hc
  | .max1 => cr_max hc
  | .min1 => cr_min hc
  | .sum => cr_sum hc
  | .all => cr_all hc
  | .any => cr_any hc
  | .tuple => call_tuple_of
  | .list => call_list_of
  | .int => call_int1
  | .str => call_str_int
/-- trees seen at values, one by one -/
def RepWs (K : PySem.W.Frag) (H : Hp) (f : Fp) : List Tr → List V → Prop
  | [], vs => vs = []
  | t :: ts, vs => ∃ v r, vs = v :: r ∧ RepW K H f t v ∧ RepWs K H f ts r
theorem RepWs.one {vs : List V} (h : RepWs K H f [a] vs) : ∃ v, vs = [v] ∧ RepW K H f a v := by
  obtain ⟨v, r, rfl, h1, h2⟩ := h
  unfold RepWs at h2
  exact ⟨v, by rw [h2], h1⟩
theorem RepWs.two {vs : List V} (h : RepWs K H f [a, b] vs) : ∃ v w, vs = [v, w] ∧ RepW K H f a v ∧ RepW K H f b w := by
  obtain ⟨v, r, rfl, h1, h2⟩ := h
  obtain ⟨w, rfl, h3⟩ := RepWs.one h2
  exact ⟨v, w, rfl, h1, h3⟩
theorem RepWs.three {c : Tr} {vs : List V} (h : RepWs K H f [a, b, c] vs) : ∃ v w z, vs = [v, w, z] ∧ RepW K H f a v ∧ RepW K H f b w ∧ RepW K H f c z := by
  obtain ⟨v, r, rfl, h1, h2⟩ := h
  obtain ⟨w, z, rfl, h3, h4⟩ := RepWs.two h2
  exact ⟨v, w, z, rfl, h1, h3, h4⟩
theorem bi_ok {bi : Bi} {ts : List Tr} {vs : List V} (al : Alc H f) (r : RepWs K H f ts vs) (e : biEv bi ts = some t) (q : ∀ v H' f', New K H f H' f' t v → Q v H') : rBi K bi vs H Q := by
  unfold biEv at e
  split at e
  · obtain ⟨v, rfl, rr⟩ := r.one
    split at e
    · cases e
      obtain ⟨g, rr⟩ := rr
      unfold Rep at rr
      obtain ⟨p, rfl, h⟩ := rr
      exact .inl ⟨p, _, rfl, .inl ((mn_ext H f).sql h), by rw [List.length_map]; exact q _ _ _ (New.int _)⟩
    · split at e
      · rename_i xs e1
        cases e
        obtain ⟨p, vs, rfl, h1, d1⟩ := asSeq_rep rr e1
        refine .inl ⟨p, vs, rfl, ?_, by rw [d1.length]; exact q _ _ _ (New.int _)⟩
        rcases h1 with h1 | h1
        · exact .inl (SqL.of h1)
        · exact .inr (SqT.of (mn_ext _ _ _ _ h1))
      · split at e
        · rename_i z e1
          split at e
          · rename_i hl
            cases e
            exact .inr ⟨z, by rw [asStr_rep rr e1], hl, q _ _ _ (New.int _)⟩
          · cases e
        · cases e
  · obtain ⟨v, rfl, rr⟩ := r.one
    obtain ⟨i, e1, rfl⟩ := Option.map_eq_some_iff.mp e
    exact ⟨i, by rw [asInt_rep rr e1], q _ _ _ (New.int _)⟩
  · obtain ⟨v, w, rfl, r1, r2⟩ := r.two
    obtain ⟨i, j, k, rfl, rfl, h, rfl⟩ := int2_ok (K := K) r1 r2 e
    cases h
    exact ⟨i, j, rfl, q _ _ _ (New.int _)⟩
  · obtain ⟨v, w, rfl, r1, r2⟩ := r.two
    obtain ⟨i, j, k, rfl, rfl, h, rfl⟩ := int2_ok (K := K) r1 r2 e
    cases h
    exact ⟨i, j, rfl, q _ _ _ (New.int _)⟩
  · obtain ⟨v, rfl, rr⟩ := r.one
    split at e
    · rename_i xs e1
      obtain ⟨ns, e2, rfl⟩ := Option.map_eq_some_iff.mp e
      obtain ⟨p, vs, rfl, h1, d1⟩ := asList_rep rr e1
      exact ⟨p, ns, rfl, by rw [← intsOf_rep e2 d1]; exact SqL.of h1, q _ _ _ (New.int _)⟩
    · cases e
  · obtain ⟨v, rfl, rr⟩ := r.one
    split at e
    · rename_i xs e1
      split at e
      · rename_i n ns e2
        cases e
        obtain ⟨p, vs, rfl, h1, d1⟩ := asList_rep rr e1
        refine ⟨p, n :: ns, rfl, by rw [← intsOf_rep e2 d1]; exact SqL.of h1, Nat.succ_pos _, fun m hm hle => ?_⟩
        obtain ⟨k1, k2, k3⟩ := foldl_max ns n
        have : m = ns.foldl max n := by
          have a1 : ns.foldl max n ≤ m := by
            rcases k1 with k1 | k1
            · rw [k1]; exact hle n List.mem_cons_self
            · exact hle _ (List.mem_cons_of_mem _ k1)
          have a2 : m ≤ ns.foldl max n := by
            rcases List.mem_cons.mp hm with rfl | hm
            · exact k2
            · exact k3 m hm
          omega
        rw [this]
        exact q _ _ _ (New.int _)
      · cases e
    · cases e
  · obtain ⟨v, rfl, rr⟩ := r.one
    split at e
    · rename_i xs e1
      split at e
      · rename_i n ns e2
        cases e
        obtain ⟨p, vs, rfl, h1, d1⟩ := asList_rep rr e1
        refine ⟨p, n :: ns, rfl, by rw [← intsOf_rep e2 d1]; exact SqL.of h1, Nat.succ_pos _, fun m hm hle => ?_⟩
        obtain ⟨k1, k2, k3⟩ := foldl_min ns n
        have : m = ns.foldl min n := by
          have a1 : m ≤ ns.foldl min n := by
            rcases k1 with k1 | k1
            · rw [k1]; exact hle n List.mem_cons_self
            · exact hle _ (List.mem_cons_of_mem _ k1)
          have a2 : ns.foldl min n ≤ m := by
            rcases List.mem_cons.mp hm with rfl | hm
            · exact k2
            · exact k3 m hm
          omega
        rw [this]
        exact q _ _ _ (New.int _)
      · cases e
    · cases e
  · obtain ⟨v, rfl, rr⟩ := r.one
    split at e
    · rename_i xs e1
      obtain ⟨ns, e2, rfl⟩ := Option.map_eq_some_iff.mp e
      obtain ⟨p, vs, rfl, h1, d1⟩ := asList_rep rr e1
      exact ⟨p, ns, rfl, by rw [← boolsOf_rep e2 d1]; exact SqL.of h1, q _ _ _ (New.bool _)⟩
    · cases e
  · obtain ⟨v, rfl, rr⟩ := r.one
    split at e
    · rename_i xs e1
      obtain ⟨ns, e2, rfl⟩ := Option.map_eq_some_iff.mp e
      obtain ⟨p, vs, rfl, h1, d1⟩ := asList_rep rr e1
      exact ⟨p, ns, rfl, by rw [← boolsOf_rep e2 d1]; exact SqL.of h1, q _ _ _ (New.bool _)⟩
    · cases e
  · obtain ⟨v, rfl, rr⟩ := r.one
    obtain ⟨xs, e1, rfl⟩ := Option.map_eq_some_iff.mp e
    obtain ⟨p, vs, rfl, h1, d1⟩ := asSeq_rep rr e1
    refine ⟨p, vs, rfl, ?_⟩
    rcases h1 with h1 | h1
    · exact .inl ⟨SqL.of h1, fun l hl => q _ _ _ (New.tup hl al d1)⟩
    · exact .inr ⟨SqT.of (mn_ext _ _ _ _ h1), q _ _ _ (New.flat (by unfold Dr; exact ⟨p, vs, rfl, h1, d1⟩))⟩
  · obtain ⟨v, rfl, rr⟩ := r.one
    obtain ⟨xs, e1, rfl⟩ := Option.map_eq_some_iff.mp e
    obtain ⟨p, vs, rfl, h1, d1⟩ := asSeq_rep rr e1
    refine ⟨p, vs, rfl, ?_, fun l hl => q _ _ _ (New.lst hl al d1)⟩
    rcases h1 with h1 | h1
    · exact .inl (SqL.of h1)
    · exact .inr (SqT.of (mn_ext _ _ _ _ h1))
  · obtain ⟨v, rfl, rr⟩ := r.one
    obtain ⟨g, rr⟩ := rr
    split at e
    · cases e
      unfold Rep Dr at rr; subst rr
      exact .inl ⟨_, rfl, q _ _ _ (New.int _)⟩
    · cases e
      unfold Rep Dr at rr; subst rr
      exact .inr ⟨_, rfl, q _ _ _ (New.int _)⟩
    · cases e
  · obtain ⟨v, rfl, rr⟩ := r.one
    split at e
    · rename_i i e1
      split at e
      · rename_i hl
        cases e
        exact ⟨i, by rw [asInt_rep rr e1], hl, q _ _ _ (New.str _)⟩
      · cases e
    · cases e
  · cases e
theorem tyName_rep {n : String} (r : RepW K H f a x) (e : tyName a = some n) : TyX K H x (.type n) := by
  obtain ⟨g, r⟩ := r
  unfold tyName at e
  split at e <;> first | (cases e; done) | skip
  · cases e; unfold Rep Dr at r; subst r; exact .base .non
  · cases e; unfold Rep Dr at r; subst r; exact .base (.bl _)
  · cases e; unfold Rep Dr at r; subst r; exact .base (.int _)
  · cases e; unfold Rep Dr at r; subst r; exact .base (.str _)
  · cases e; unfold Rep Dr at r; obtain ⟨p, xs, rfl, h, _⟩ := r; exact .base (.lst (mn_ext _ _ _ _ h))
  · cases e; unfold Rep Dr at r; obtain ⟨p, xs, rfl, h, _⟩ := r; exact .base (.tup (mn_ext _ _ _ _ h))
  · cases e; unfold Rep Dr at r; obtain ⟨p, rfl, _, h⟩ := r; exact .base (.dK (mn_ext _ _ _ _ h))
  · cases e; unfold Rep at r; obtain ⟨p, xs, _, rfl, h, _⟩ := r; exact .base (.lst h)
  · cases e; unfold Rep at r; obtain ⟨p, xs, rfl, h, _⟩ := r; exact .base (.tup (mn_ext _ _ _ _ h))
theorem rg_dr {i j : Int} : DrL K H (rgD i j) (rgV i j) := by
  unfold rgD rgV
  refine DrL.of_get (by simp) fun k d v e1 e2 => ?_
  rw [List.getElem?_map] at e1 e2
  obtain ⟨m, h1, rfl⟩ := Option.map_eq_some_iff.mp e1
  obtain ⟨m', h2, rfl⟩ := Option.map_eq_some_iff.mp e2
  rw [h1] at h2; cases h2
  unfold Dr; rfl
end
end Hw
set_option Elab.async false
set_option linter.all false
set_option maxRecDepth 100000
set_option maxHeartbeats 1000000
/-! the state through an evaluation; arguments -/
namespace Hw
open PySem PySem.Spec PyProof.Rows L2

structure RC where
  K : PySem.W.Frag
  mg : Str → Option Value
  F : Genv
  W : WX

def padd (f g : Fp) : Fp := fun a => f a + g a
theorem padd_at (f g : Fp) (a : Addr) : padd f g a = f a + g a := rfl
section
variable {K : PySem.W.Frag} {Γ Γ' : List Tr} {σ : Sig} {H H' : Hp} {f f' pr : Fp} {G G' : Fp → Prop} {v : V} {t : Tr}
theorem StA.le1 (h : StA K Γ σ H f pr G) : ∀ a, f a ≤ 1 := h.1
theorem StA.alc (h : StA K Γ σ H f pr G) : Alc H f := h.2.1
theorem StA.out (h : StA K Γ σ H f pr G) : ∃ ga, G ga ∧ St0 K Γ σ H f (padd pr ga) := by
  obtain ⟨h1, h2, g, ga, hs, hg, hl⟩ := h
  exact ⟨ga, hg, h1, h2, g, fun _ => 0, hs, trivial, fun a => by have := hl a; show 0 + (g a + (pr a + ga a)) ≤ _; omega⟩
theorem StA.inn {ga : Fp} (h : StA K Γ σ H f (padd pr ga) G') (hG : ∀ gb, G' gb → G (padd ga gb)) : StA K Γ σ H f pr G := by
  obtain ⟨h1, h2, g, gb, hs, hg, hl⟩ := h
  exact ⟨h1, h2, g, padd ga gb, hs, hG gb hg, fun a => by have := hl a; simp only [padd_at] at this ⊢; omega⟩
theorem StA.imp (h : StA K Γ σ H f pr G) (hG : ∀ gb, G gb → G' gb) : StA K Γ σ H f pr G' := by
  obtain ⟨h1, h2, g, gb, hs, hg, hl⟩ := h
  exact ⟨h1, h2, g, gb, hs, hG gb hg, hl⟩
theorem StA.drop (h : StA K Γ σ H f pr G) : St0 K Γ σ H f pr := h.imp fun _ _ => trivial
theorem StA.less {pr' : Fp} (h : StA K Γ σ H f pr G) (l : ∀ a, pr' a ≤ pr a) : StA K Γ σ H f pr' G := by
  obtain ⟨h1, h2, g, gb, hs, hg, hl⟩ := h
  exact ⟨h1, h2, g, gb, hs, hg, fun a => by have := hl a; have := l a; omega⟩
theorem le_padd (f g : Fp) : ∀ a, f a ≤ padd f g a := fun a => Nat.le_add_right _ _
theorem le_padd' (f g : Fp) : ∀ a, g a ≤ padd f g a := fun a => Nat.le_add_left _ _
/-- a new value beside the state -/
theorem StA.new (h : St0 K Γ σ H f pr) (n : New K H f H' f' t v) : St1 K Γ σ H' f' pr v t := by
  have al := h.alc
  have l1 := h.le1
  obtain ⟨h1, h2, g, _, hs, _, hl⟩ := h
  obtain ⟨e, gn, r, hf, hg⟩ := id n
  exact ⟨n.le1 al l1, n.alc al, g, gn, hs.stp (n.stp g) (fun _ => Nat.le_refl _), r, fun a => by rw [hf a]; have := hl a; omega⟩
/-- less is owned: what is settled stays settled -/
theorem Rep.lef (l : ∀ a, f' a ≤ f a) {x : Tr} {v : V} {g : Fp} (h : Rep K H f x v g) : Rep K H f' x v g := by
  have s : Stp H f g H f' := ⟨fun a o e e0 => ⟨e, by have := l a; omega⟩, fun _ _ _ e => e⟩
  exact h.stp s fun _ => Nat.le_refl _
theorem stp_less (l : ∀ a, f' a ≤ f a) : Stp H f pr H f' := ⟨fun a o e e0 => ⟨e, by have := l a; omega⟩, fun _ _ _ e => e⟩
/-- a value that is given up: settled -/
theorem StA.settle {d : PyData} (h : St1 K Γ σ H f pr v t) (e : frz t = some d) : ∃ f', Stp H f pr H f' ∧ St0 K Γ σ H f' pr ∧ Dr K (mn H f') d v := by
  obtain ⟨h1, h2, g, ga, hs, hg, hl⟩ := h
  have l : ∀ a, (fun a => f a - ga a) a ≤ f a := fun a => Nat.sub_le _ _
  refine ⟨fun a => f a - ga a, stp_less l, ⟨fun a => by have := h1 a; show f a - ga a ≤ 1; omega, fun a ha => h2 a (Nat.le_trans ha (l a)), g, fun _ => 0, hs.stp (stp_less l) (fun _ => Nat.le_refl _), trivial, fun a => by
    have := hl a; show 0 + (g a + pr a) ≤ f a - ga a; omega⟩, ?_⟩
  exact hg.frz l e fun a => by have := hl a; have := h1 a; show ga a + (f a - ga a) ≤ 1; omega
end

/-! ### arguments -/
def RepA (K : PySem.W.Frag) (H : Hp) (f : Fp) (σ : Sig) : List AV → List V → Fp → Prop
  | [], vs, _ => vs = []
  | .tmp t :: as, vs, g => ∃ v r g1 g2, vs = v :: r ∧ Rep K H f t v g1 ∧ RepA K H f σ as r g2 ∧ ∀ a, g1 a + g2 a ≤ g a
  | .pk i :: as, vs, g => ∃ v r, vs = v :: r ∧ σ[i]? = some (some v) ∧ RepA K H f σ as r g
  | .io i :: as, vs, g => ∃ v r, vs = v :: r ∧ σ[i]? = some (some v) ∧ RepA K H f σ as r g
section
variable (R : RC)
def tE (c : CE) : TE := fun σ H Q => ∃ Γ f pr, St0 R.K Γ σ H f pr ∧ match ev R.F c Γ with
  | some (.ok t Γ') => ∀ v H' f', Stp H f pr H' f' → St1 R.K Γ' σ H' f' pr v t → Q v H'
  | some (.ex x Γ') => ∀ C H' f', R.mg x = some (.ref C) → Stp H f pr H' f' → St0 R.K Γ' σ H' f' pr → R.W (.ref C) none σ H'
  | none => False
def tAs (cs : List CA) : TA := fun σ H Q => ∃ Γ f pr, St0 R.K Γ σ H f pr ∧ match evAs R.F cs Γ with
  | some (.ok avs Γ') => ∀ vs H' f', Stp H f pr H' f' → StA R.K Γ' σ H' f' pr (RepA R.K H' f' σ avs vs) → Q vs H'
  | some (.ex x Γ') => ∀ C H' f', R.mg x = some (.ref C) → Stp H f pr H' f' → St0 R.K Γ' σ H' f' pr → R.W (.ref C) none σ H'
  | none => False
def tT (c : CT) : TT := fun σ H Q => ∃ Γ f pr, St0 R.K Γ σ H f pr ∧ match evT R.F c Γ with
  | some (.ok b Γ') => ∀ H' f', Stp H f pr H' f' → St0 R.K Γ' σ H' f' pr → Q b H'
  | some (.ex x Γ') => ∀ C H' f', R.mg x = some (.ref C) → Stp H f pr H' f' → St0 R.K Γ' σ H' f' pr → R.W (.ref C) none σ H'
  | none => False
def tA : CA → TE
  | .e a => tE R a
  | .pk i => tVar i
  | .io i => tVar i
end
section
variable {R : RC} {σ : Sig} {H : Hp}
theorem RepS.val {K : PySem.W.Frag} {f : Fp} {Γ : List Tr} {g : Fp} {i : Nat} {x : Tr} (h : RepS K H f Γ σ g) (e : Γ[i]? = some x) (n : x ≠ .gone) : ∃ v g', σ[i]? = some (some v) ∧ Rep K H f x v g' ∧ ∀ a, g' a ≤ g a := by
  obtain ⟨o, g1, g2, h1, h2, h3, h4⟩ := h.take e
  obtain ⟨v, rfl, r⟩ := h2.get n
  exact ⟨v, g1, h1, r, fun a => by have := h4 a; omega⟩
theorem slotOk_get {Γ : List Tr} {i : Nat} (h : slotOk Γ i = true) : ∃ x, Γ[i]? = some x ∧ x ≠ .gone := by
  unfold slotOk at h
  split at h
  · cases h
  · cases h
  · rename_i x n e
    exact ⟨x, e, fun z => n z⟩
/-- arguments from the left -/
theorem as_cons {c : CA} {cs : List CA} {Q : List V → Hp → Prop} (h : tAs R (c :: cs) σ H Q) : tCons (tA R c) (tAs R cs) σ H Q := by
  obtain ⟨Γ, f, pr, st, h⟩ := h
  unfold tCons
  have slot : ∀ (i : Nat) (av : AV), slotOk Γ i = true → (∀ K' H' f' vs v g as, σ[i]? = some (some v) → RepA K' H' f' σ as vs g → RepA K' H' f' σ (av :: as) (v :: vs) g) →
      (match AR.cons av (evAs R.F cs Γ) with
        | some (.ok avs Γ') => ∀ vs H' f', Stp H f pr H' f' → StA R.K Γ' σ H' f' pr (RepA R.K H' f' σ avs vs) → Q vs H'
        | some (.ex x Γ') => ∀ C H' f', R.mg x = some (.ref C) → Stp H f pr H' f' → St0 R.K Γ' σ H' f' pr → R.W (.ref C) none σ H'
        | none => False) → tVar i σ H fun x H1 => tAs R cs σ H1 fun xs H2 => Q (x :: xs) H2 := by
    intro i av ok hav h
    obtain ⟨x, e, n⟩ := slotOk_get ok
    obtain ⟨h1, h2, g, ga, hs, hg, hl⟩ := id st
    obtain ⟨v, _, ev, _⟩ := hs.val e n
    refine ⟨v, ev, Γ, f, pr, st, ?_⟩
    cases q : evAs R.F cs Γ with
    | none => simp only [q, AR.cons] at h
    | some r =>
      cases r with
      | ex y Γ1 => simp only [q, AR.cons] at h; exact h
      | ok avs Γ1 =>
        simp only [q, AR.cons] at h
        intro vs H' f' s st'
        exact h (v :: vs) H' f' s (st'.imp fun gb hb => hav _ _ _ _ _ _ _ ev hb)
  cases c with
  | pk i =>
    simp only [evAs] at h
    by_cases ok : slotOk Γ i = true
    · rw [if_pos ok] at h
      exact slot i (.pk i) ok (fun K' H' f' vs v g as h1 h2 => ⟨v, vs, rfl, h1, h2⟩) h
    · rw [if_neg ok] at h; exact h.elim
  | io i =>
    simp only [evAs] at h
    by_cases ok : slotOk Γ i = true
    · rw [if_pos ok] at h
      exact slot i (.io i) ok (fun K' H' f' vs v g as h1 h2 => ⟨v, vs, rfl, h1, h2⟩) h
    · rw [if_neg ok] at h; exact h.elim
  | e a =>
    refine ⟨Γ, f, pr, st, ?_⟩
    simp only [evAs] at h
    cases q : ev R.F a Γ with
    | none => simp only [q] at h
    | some r =>
      cases r with
      | ex y Γ1 => simp only [q] at h; exact h
      | ok t Γ1 =>
        simp only [q] at h
        intro v H1 f1 s1 st1
        obtain ⟨ga, hga, st1'⟩ := st1.out
        refine ⟨Γ1, f1, padd pr ga, st1', ?_⟩
        cases q2 : evAs R.F cs Γ1 with
        | none => simp only [q2, AR.cons] at h
        | some r2 =>
          cases r2 with
          | ex y Γ2 =>
            simp only [q2, AR.cons] at h
            intro C H' f' hm s2 st2
            exact h C H' f' hm (s1.trans s2 (le_padd _ _)) (st2.less (le_padd _ _))
          | ok avs Γ2 =>
            simp only [q2, AR.cons] at h
            intro vs H' f' s2 st2
            refine h (v :: vs) H' f' (s1.trans s2 (le_padd _ _)) (st2.inn fun gb hb => ?_)
            exact ⟨v, vs, ga, gb, rfl, hga.stp s2 (le_padd' _ _), hb, fun _ => Nat.le_refl _⟩
theorem as_nil {Q : List V → Hp → Prop} (h : tAs R [] σ H Q) : tNil σ H Q := by
  obtain ⟨Γ, f, pr, st, h⟩ := h
  simp only [evAs] at h
  exact h [] H f Stp.refl (st.imp fun _ _ => rfl)
end
theorem PE.imp {X : Cx} {e : Expr} {t t' : TE} (h : PE X e t) (i : ∀ σ H Q, t' σ H Q → t σ H Q) : PE X e t' := ⟨fun pins s σ H Q I q => h.run pins s σ H Q I (i _ _ _ q)⟩
theorem PT.imp {X : Cx} {e : Expr} {t t' : TT} (h : PT X e t) (i : ∀ σ H Q, t' σ H Q → t σ H Q) : PT X e t' := ⟨fun pins s σ H Q I q => h.run pins s σ H Q I (i _ _ _ q)⟩
theorem PW.imp {X : Cx} {e : Expr} {t t' : TT} (h : PW X e t) (i : ∀ σ H Q, t' σ H Q → t σ H Q) : PW X e t' := ⟨fun wh pins s σ H Q I q => h.run wh pins s σ H Q I (i _ _ _ q)⟩
theorem PA.imp {X : Cx} {e : List Expr} {t t' : TA} (h : PA X e t) (i : ∀ σ H Q, t' σ H Q → t σ H Q) : PA X e t' := ⟨fun pos pins s σ H Q I q => h.run pos pins s σ H Q I (i _ _ _ q)⟩
theorem PS.imp {X : Cx} {e : Stmt} {t t' : TS} (h : PS X e t) (i : ∀ D σ H, t' D σ H → t D σ H) : PS X e t' := ⟨fun pins s σ H D I q => h.run pins s σ H D I (i _ _ _ q)⟩
theorem PSs.imp {X : Cx} {e : List Stmt} {t t' : TS} (h : PSs X e t) (i : ∀ D σ H, t' D σ H → t D σ H) : PSs X e t' := ⟨fun pins s σ H D I q => h.run pins s σ H D I (i _ _ _ q)⟩
theorem PI.imp {X : Cx} {tg e : Expr} {t t' : TI} (h : PI X tg e t) (i : ∀ σ H Q, t' σ H Q → t σ H Q) : PI X tg e t' := ⟨fun pins s σ H Q I q => h.run pins s σ H Q I (i _ _ _ q)⟩
theorem PE.or {X : Cx} {e : Expr} {t t' : TE} (h : PE X e t) (h' : PE X e t') : PE X e (fun σ H Q => t σ H Q ∨ t' σ H Q) := ⟨fun pins s σ H Q I q => q.elim (h.run pins s σ H Q I) (h'.run pins s σ H Q I)⟩
theorem PI.or {X : Cx} {tg e : Expr} {t t' : TI} (h : PI X tg e t) (h' : PI X tg e t') : PI X tg e (fun σ H Q => t σ H Q ∨ t' σ H Q) := ⟨fun pins s σ H Q I q => q.elim (h.run pins s σ H Q I) (h'.run pins s σ H Q I)⟩
/-- an expression that is not starred, no slice -/
def plainE : Expr → Bool
  | .Starred .. => false
  | .Slice .. => false
  | .Set .. => false
  | _ => true
theorem star_of {e : Expr} (h : plainE e = true) (es : List Expr) (env : Env) : starEach (e :: es) env = (false, eval e env) :: starEach es env := by
  cases e <;> first | rfl | cases h
theorem plainIx {e : Expr} (h : plainE e = true) : PlainIx e := fun o i => by
  cases e <;> first | rfl | cases h
theorem stars_no : ∀ {es : List Expr} {env : Env} {pos : Pos}, es.all plainE = true → (backTo pos (starEach es env)).any (·.1) = false
  | [], _, _, _ => rfl
  | e :: es, env, pos, h => by
    rw [List.all_cons, Bool.and_eq_true] at h
    rw [star_of h.1]
    have := stars_no (env := env) (pos := pos) h.2
    unfold backTo at this ⊢
    rw [List.map_cons, List.any_cons, this]; rfl
theorem pa_cons' {X : Cx} {e : Expr} {es : List Expr} {te : TE} {t : TA} (p : plainE e = true) (ha : PE X e te) (hr : PA X es t) : PA X (e :: es) (tCons te t) := pa_cons ha hr (star_of p es X.env)
end Hw
set_option Elab.async false
set_option linter.all false
set_option maxRecDepth 100000
set_option maxHeartbeats 1000000
/-! the matcher, the context, primitive operations -/
namespace Hw
open PySem PySem.Spec PyProof.Rows L2

/-- what a def promises, by its run -/
def spF (K : PySem.W.Frag) (mg : Str → Option Value) (n : Nat) (run : List Tr → Option FR) : Sp := fun vs H Q E => vs.length = n ∧ ∃ ts f pr ga, RepL K H f ts vs ga ∧ (∀ a, f a ≤ 1) ∧ Alc H f ∧ (∀ a, ga a + pr a ≤ f a) ∧ match run ts with
  | some (.ok t os) => ∀ v H' f', Stp H f pr H' f' → (∀ a, f' a ≤ 1) → Alc H' f' → (∃ g go, Rep K H' f' t v g ∧ RepL K H' f' os vs go ∧ ∀ a, g a + (go a + pr a) ≤ f' a) → Q v H'
  | some (.ex x) => ∀ C H' f', mg x = some (.ref C) → Stp H f pr H' f' → (∀ a, f' a ≤ 1) → Alc H' f' → (∀ a, pr a ≤ f' a) → E (.ref C) none H'
  | none => False

structure MC where
  N : List Str
  sc : Scope
  fnc : Str → Bool
def bltNames : List Str := ["bool", "repr", "sorted", "set", "dict", "len", "abs", "max", "min", "sum", "all", "any", "tuple", "list", "int", "str", "isinstance", "range", "enumerate", "zip"]
structure XOk (R : RC) (M : MC) (X : Cx) : Prop where
  K : X.K = R.K
  mg : X.mg = R.mg
  N : X.N = M.N
  sc : X.env.scope = M.sc
  fnc : X.fn = M.fnc
  nd : M.N.Nodup
  calm : X.calm = true
  tk : Takes X R.W
  un : X.A.units + 65 < cLine
  fns : ∀ x run, R.F.fn x = some run → ∃ n f fd ps k, FnOk X.prog X.w X.K X.mg X.base (L2.CX X.prog X.w) k f fd ps (spF R.K R.mg n run) ∧ X.mg x = some (.ref f) ∧ PySem.W.keepIn X.K (.ref f) = true ∧ Binds X.K fd ps [] ∧ Room k X.A ∧ ∀ ts r, run ts = some r → ts.length = n
  gls : ∀ x d, R.F.gl x = some d → ∃ v u, X.mg x = some u ∧ RelV v u ∧ ∀ K H, Dr K H d v
  blt : ∀ x ∈ bltNames, X.mg x = none

/-! ### the matcher -/
def okName (x : Str) : Bool := !(x == ("__debug__" : Str)) && !(x == ("__classdict__" : Str)) && !(x == ("__name__" : Str))
def MC.vis (M : MC) (i : Nat) (x : Str) : Bool := decide (M.N[i]? = some x) && (match M.sc.names.lookup x with | some .local => true | some .cell => true | some .free => true | _ => false) && okName x
def MC.glo (M : MC) (x : Str) : Bool := (match M.sc.names.lookup x with | some .globalImplicit => true | _ => false) && okName x
def MC.loc (M : MC) (i : Nat) (x : Str) : Bool := decide (M.N[i]? = some x) && (match M.sc.names.lookup x with | some .local => true | some .cell => M.fnc x | _ => false)
def MC.blk (M : MC) (s : Scope) : MC := { N := M.N, sc := relS s M.sc, fnc := fun x => s.names.lookup x == some .cell }
def eqOp (a b : CmpOp) : Bool := match a, b with
  | .Eq, .Eq => true | .NotEq, .NotEq => true | .Lt, .Lt => true | .LtE, .LtE => true | .Gt, .Gt => true | .GtE, .GtE => true
  | .Is, .Is => true | .IsNot, .IsNot => true | .In, .In => true | .NotIn, .NotIn => true
  | _, _ => false
theorem eqOp_of {a b : CmpOp} (h : eqOp a b = true) : a = b := by cases a <;> cases b <;> first | rfl | cases h
/-- a primitive operation's operands in the text -/
def primArgs (M : MC) : P → Expr → Option (List Expr)
  | .add, .BinOp a .Add b _ => some [a, b]
  | .sub, .BinOp a .Sub b _ => some [a, b]
  | .mul, .BinOp a .Mult b _ => some [a, b]
  | .fdiv, .BinOp a .FloorDiv b _ => some [a, b]
  | .mod, .BinOp a .Mod b _ => some [a, b]
  | .pow, .BinOp a .Pow b _ => some [a, b]
  | .neg, .UnaryOp .USub a _ => some [a]
  | .cmp o, .Compare a [o'] [b] _ => if eqOp o o' then some [a, b] else none
  | .sl false false, .Subscript a (.Slice none none none _) _ => some [a]
  | .sl true false, .Subscript a (.Slice (some b) none none _) _ => some [a, b]
  | .sl false true, .Subscript a (.Slice none (some b) none _) _ => some [a, b]
  | .rev, .Subscript a (.Slice none none (some (.UnaryOp .USub (.Constant (.int 1) _ _) _)) _) _ => some [a]
  | .ix, .Subscript a b _ => some [a, b]
  | .bi b, .Call (.Name x _) args [] _ => if x = b.nm ∧ M.glo x = true ∧ args.length = b.ar then some args else none
  | .isi T, .Call (.Name x _) [a, .Name t _] [] _ => if x = "isinstance" ∧ M.glo x = true ∧ t = Str.ofString T ∧ M.glo t = true ∧ bltNames.contains t = true ∧ bootBuiltins t = some (.type T) then some [a] else none
  | .lrg false, .Call (.Name x _) [.Call (.Name y _) [a] [] _] [] _ => if x = "list" ∧ M.glo x = true ∧ y = "range" ∧ M.glo y = true then some [a] else none
  | .lrg true, .Call (.Name x _) [.Call (.Name y _) [a, b] [] _] [] _ => if x = "list" ∧ M.glo x = true ∧ y = "range" ∧ M.glo y = true then some [a, b] else none
  | .trg false, .Call (.Name x _) [.Call (.Name y _) [a] [] _] [] _ => if x = "tuple" ∧ M.glo x = true ∧ y = "range" ∧ M.glo y = true then some [a] else none
  | .trg true, .Call (.Name x _) [.Call (.Name y _) [a, b] [] _] [] _ => if x = "tuple" ∧ M.glo x = true ∧ y = "range" ∧ M.glo y = true then some [a, b] else none
  | _, _ => none

/-! ### primitive operations -/
def PEs (X : Cx) (R : RC) : List CA → List Expr → Prop
  | [], es => es = []
  | c :: cs, es => ∃ e r, es = e :: r ∧ plainE e = true ∧ PE X e (tA R c) ∧ PEs X R cs r
section
variable {R : RC} {M : MC} {X : Cx}
theorem PEs.pa : ∀ {cs : List CA} {es : List Expr}, PEs X R cs es → PA X es (tAs R cs)
  | [], _, h => by unfold PEs at h; rw [h]; exact PA.imp pa_nil fun _ _ _ q => as_nil q
  | c :: cs, _, h => by
    obtain ⟨e, r, rfl, h1, h2, h3⟩ := h
    exact PA.imp (pa_cons' h1 h2 (PEs.pa h3)) fun _ _ _ q => as_cons q
theorem PEs.one {c : CA} {es : List Expr} (h : PEs X R [c] es) : ∃ e, es = [e] ∧ plainE e = true ∧ PE X e (tA R c) := by
  obtain ⟨e, r, rfl, h1, h2, h3⟩ := h
  unfold PEs at h3
  exact ⟨e, by rw [h3], h1, h2⟩
theorem PEs.two {c d : CA} {es : List Expr} (h : PEs X R [c, d] es) : ∃ e e2, es = [e, e2] ∧ plainE e = true ∧ PE X e (tA R c) ∧ plainE e2 = true ∧ PE X e2 (tA R d) := by
  obtain ⟨e, r, rfl, h1, h2, h3⟩ := h
  obtain ⟨e2, rfl, h4, h5⟩ := PEs.one h3
  exact ⟨e, e2, rfl, h1, h2, h4, h5⟩
theorem PEs.three {c d e0 : CA} {es : List Expr} (h : PEs X R [c, d, e0] es) : ∃ e e2 e3, es = [e, e2, e3] ∧ plainE e = true ∧ PE X e (tA R c) ∧ plainE e2 = true ∧ PE X e2 (tA R d) ∧ plainE e3 = true ∧ PE X e3 (tA R e0) := by
  obtain ⟨e, r, rfl, h1, h2, h3⟩ := h
  obtain ⟨e2, e3, rfl, h4, h5⟩ := PEs.two h3
  exact ⟨e, e2, e3, rfl, h1, h2, h4, h5⟩
theorem PEs.length : ∀ {cs : List CA} {es : List Expr}, PEs X R cs es → es.length = cs.length
  | [], _, h => by unfold PEs at h; rw [h]; rfl
  | c :: cs, _, h => by
    obtain ⟨e, r, rfl, h1, h2, h3⟩ := h
    simp [PEs.length h3]
theorem PEs.plain : ∀ {cs : List CA} {es : List Expr}, PEs X R cs es → es.all plainE = true
  | [], _, h => by unfold PEs at h; rw [h]; rfl
  | c :: cs, _, h => by
    obtain ⟨e, r, rfl, h1, h2, h3⟩ := h
    rw [List.all_cons, h1, PEs.plain h3]; rfl
theorem tE.mono {c : CE} {σ : Sig} {H : Hp} {Q Q' : VK} (h : tE R c σ H Q) (q : ∀ v H', Q v H' → Q' v H') : tE R c σ H Q' := by
  obtain ⟨Γ, f, pr, st, h⟩ := h
  refine ⟨Γ, f, pr, st, ?_⟩
  split at h
  · exact fun v H' f' s s1 => q _ _ (h v H' f' s s1)
  · exact h
  · exact h
theorem tA.mono {c : CA} {σ : Sig} {H : Hp} {Q Q' : VK} (h : tA R c σ H Q) (q : ∀ v H', Q v H' → Q' v H') : tA R c σ H Q' := by
  cases c with
  | e a => exact tE.mono h q
  | pk i => obtain ⟨v, h1, h2⟩ := h; exact ⟨v, h1, q _ _ h2⟩
  | io i => obtain ⟨v, h1, h2⟩ := h; exact ⟨v, h1, q _ _ h2⟩
theorem as1 {a : CA} {σ : Sig} {H : Hp} {Q : List V → Hp → Prop} (h : tAs R [a] σ H Q) : tA R a σ H fun x H1 => Q [x] H1 := tA.mono (as_cons h) fun _ _ q => as_nil q
theorem as2 {a b : CA} {σ : Sig} {H : Hp} {Q : List V → Hp → Prop} (h : tAs R [a, b] σ H Q) : tA R a σ H fun x H1 => tA R b σ H1 fun y H2 => Q [x, y] H2 := tA.mono (as_cons h) fun _ _ q => as1 q
theorem as3 {a b c : CA} {σ : Sig} {H : Hp} {Q : List V → Hp → Prop} (h : tAs R [a, b, c] σ H Q) : tA R a σ H fun x H1 => tA R b σ H1 fun y H2 => tA R c σ H2 fun z H3 => Q [x, y, z] H3 := tA.mono (as_cons h) fun _ _ q => as2 q
/-- what the operands' trees are -/
theorem resolves_rep {K : PySem.W.Frag} {H : Hp} {f : Fp} {Γ : List Tr} {σ : Sig} {g : Fp} (hs : RepS K H f Γ σ g) : ∀ {avs : List AV} {vs : List V} {ga : Fp} {ts : List Tr}, RepA K H f σ avs vs ga → resolves Γ avs = some ts → RepWs K H f ts vs
  | [], _, _, _, h, e => by unfold resolves at e; cases e; unfold RepA at h; exact h
  | av :: avs, _, _, _, h, e => by
    unfold resolves at e
    split at e
    · rename_i t ts e1 e2
      cases e
      cases av with
      | tmp t' =>
        obtain ⟨v, r, g1, g2, rfl, h1, h2, h3⟩ := h
        unfold resolve at e1; cases e1
        exact ⟨v, r, rfl, ⟨g1, h1⟩, resolves_rep hs h2 e2⟩
      | pk i =>
        obtain ⟨v, r, rfl, h1, h2⟩ := h
        unfold resolve at e1
        refine ⟨v, r, rfl, ?_, resolves_rep hs h2 e2⟩
        by_cases n : t = .gone
        · subst n; exact ⟨fun _ => 0, by unfold Rep; trivial⟩
        · obtain ⟨w, g', e3, r3, _⟩ := hs.val e1 n
          rw [h1] at e3; cases e3
          exact ⟨g', r3⟩
      | io i => unfold resolve at e1; cases e1
    · cases e
/-- what a primitive operation asks of the operands -/
def rPrim (K : PySem.W.Frag) (p : P) : RL := fun vs H Q => ∃ f ts t, Alc H f ∧ RepWs K H f ts vs ∧ primEv p ts = some t ∧ ∀ v H' f', New K H f H' f' t v → Q v H'
theorem prim_as {p : P} {as : List CA} {σ : Sig} {H : Hp} {Q : VK} (h : tE R (.prim p as) σ H Q) : tAs R as σ H fun vs H1 => rPrim R.K p vs H1 Q := by
  obtain ⟨Γ, f, pr, st, h⟩ := h
  refine ⟨Γ, f, pr, st, ?_⟩
  simp only [ev] at h
  cases q : evAs R.F as Γ with
  | none => simp only [q] at h
  | some r =>
    cases r with
    | ex y Γ1 => simp only [q] at h; exact h
    | ok avs Γ1 =>
      simp only [q] at h
      intro vs H1 f1 s1 st1
      cases q1 : resolves Γ1 avs with
      | none => simp only [q1, Option.bind_none] at h
      | some ts =>
        simp only [q1, Option.bind_some] at h
        cases q2 : primEv p ts with
        | none => simp only [q2, Option.map_none] at h
        | some t =>
          simp only [q2, Option.map_some] at h
          obtain ⟨g, ga, hs, hg, hl⟩ := id st1.2.2
          refine ⟨f1, ts, t, st1.alc, resolves_rep hs hg q1, q2, fun v H' f' n => ?_⟩
          exact h v H' f' (s1.trans (n.stp pr) fun _ => Nat.le_refl _) (st1.drop.new n)
theorem kOf {α : Type} {K K' : PySem.W.Frag} (e : K = K') : K' = K := e.symm
/-- two operands -/
theorem prim2 {p : P} {a b : CA} {r : R2} {σ : Sig} {H : Hp} {Q : VK} (hr : ∀ x y H1, rPrim R.K p [x, y] H1 Q → r x y H1 Q) (h : tE R (.prim p [a, b]) σ H Q) : tOp r (tA R a) (tA R b) σ H Q :=
  tA.mono (as2 (prim_as h)) fun _ _ q => tA.mono q fun _ _ q => hr _ _ _ q
theorem prim1 {p : P} {a : CA} {r : V → Hp → VK → Prop} {σ : Sig} {H : Hp} {Q : VK} (hr : ∀ x H1, rPrim R.K p [x] H1 Q → r x H1 Q) (h : tE R (.prim p [a]) σ H Q) : tA R a σ H fun x H1 => r x H1 Q :=
  tA.mono (as1 (prim_as h)) fun _ _ q => hr _ _ q
theorem rprim2 {K : PySem.W.Frag} {p : P} {x y : V} {H : Hp} {Q : VK} (h : rPrim K p [x, y] H Q) : ∃ f a b t, Alc H f ∧ RepW K H f a x ∧ RepW K H f b y ∧ primEv p [a, b] = some t ∧ ∀ v H' f', New K H f H' f' t v → Q v H' := by
  obtain ⟨f, ts, t, al, r, e, q⟩ := h
  cases ts with
  | nil => unfold RepWs at r; cases r
  | cons a ts =>
    obtain ⟨v, w, h0, r1, r2⟩ := r
    cases h0
    cases ts with
    | nil => unfold RepWs at r2; cases r2
    | cons b ts =>
      obtain ⟨v, w, h0, r3, r4⟩ := r2
      cases h0
      cases ts with
      | nil => exact ⟨f, a, b, t, al, r1, r3, e, q⟩
      | cons c ts => obtain ⟨v, w, h0, _⟩ := r4; cases h0
theorem rprim1 {K : PySem.W.Frag} {p : P} {x : V} {H : Hp} {Q : VK} (h : rPrim K p [x] H Q) : ∃ f a t, Alc H f ∧ RepW K H f a x ∧ primEv p [a] = some t ∧ ∀ v H' f', New K H f H' f' t v → Q v H' := by
  obtain ⟨f, ts, t, al, r, e, q⟩ := h
  cases ts with
  | nil => unfold RepWs at r; cases r
  | cons a ts =>
    obtain ⟨v, w, h0, r1, r2⟩ := r
    cases h0
    cases ts with
    | nil => exact ⟨f, a, t, al, r1, e, q⟩
    | cons b ts => obtain ⟨v, w, h0, _⟩ := r2; cases h0
theorem rprim3 {K : PySem.W.Frag} {p : P} {x y z : V} {H : Hp} {Q : VK} (h : rPrim K p [x, y, z] H Q) : ∃ f a b c t, Alc H f ∧ RepW K H f a x ∧ RepW K H f b y ∧ RepW K H f c z ∧ primEv p [a, b, c] = some t ∧ ∀ v H' f', New K H f H' f' t v → Q v H' := by
  obtain ⟨f, ts, t, al, r, e, q⟩ := h
  cases ts with
  | nil => unfold RepWs at r; cases r
  | cons a ts =>
    obtain ⟨v, w, h0, r1, r2⟩ := r
    cases h0
    cases ts with
    | nil => unfold RepWs at r2; cases r2
    | cons b ts =>
      obtain ⟨v, w, h0, r3, r4⟩ := r2
      cases h0
      cases ts with
      | nil => unfold RepWs at r4; cases r4
      | cons c ts =>
        obtain ⟨v, w, h0, r5, r6⟩ := r4
        cases h0
        cases ts with
        | nil => exact ⟨f, a, b, c, t, al, r1, r3, r5, e, q⟩
        | cons d ts => obtain ⟨v, w, h0, _⟩ := r6; cases h0
theorem XOk.gl (ok : XOk R M X) {x : Str} (h : M.glo x = true) : Gl X x ∧ (x == ("__debug__" : Str)) = false ∧ x ≠ "__name__" := by
  unfold MC.glo at h
  rw [Bool.and_eq_true] at h
  obtain ⟨h1, h2⟩ := h
  simp only [okName, Bool.and_eq_true, Bool.not_eq_true', beq_eq_false_iff_ne, ne_eq] at h2
  refine ⟨?_, beq_eq_false_iff_ne.mpr h2.1.1, h2.2⟩
  show X.env.scope.names.lookup x = some .globalImplicit
  rw [ok.sc]
  split at h1
  · assumption
  · cases h1
theorem XOk.vi (ok : XOk R M X) {i : Nat} {x : Str} (h : M.vis i x = true) : X.N[i]? = some x ∧ Vis X.env.scope x ∧ (x == ("__debug__" : Str)) = false ∧ (x == ("__classdict__" : Str)) = false := by
  unfold MC.vis at h
  simp only [Bool.and_eq_true, decide_eq_true_eq] at h
  obtain ⟨⟨h0, h1⟩, h2⟩ := h
  simp only [okName, Bool.and_eq_true, Bool.not_eq_true', beq_eq_false_iff_ne, ne_eq] at h2
  refine ⟨by rw [ok.N]; exact h0, ?_, beq_eq_false_iff_ne.mpr h2.1.1, beq_eq_false_iff_ne.mpr h2.1.2⟩
  unfold Vis
  rw [ok.sc]
  split at h1 <;> first | exact .inl (by assumption) | exact .inr (.inl (by assumption)) | exact .inr (.inr (by assumption)) | cases h1
theorem pe_slot (ok : XOk R M X) {i : Nat} {x : Str} {pos : Pos} (h : M.vis i x = true) : PE X (.Name x pos) (tVar i) := by
  obtain ⟨h1, h2, h3, h4⟩ := ok.vi h
  exact pe_var h1 h2 h3 h4
theorem bi_boot (b : Bi) : bootBuiltins b.nm = some b.val := by
  cases b <;> first | exact boot_len | exact boot_abs | exact boot_max | exact boot_min | exact boot_sum | exact boot_all | exact boot_any | exact PySem.boot_tuple | exact PySem.boot_list | exact PySem.boot_int | exact PySem.boot_str | decide +kernel
theorem bi_blt (b : Bi) : b.nm ∈ bltNames := by cases b <;> decide +kernel
theorem bi_call (ok : XOk R M X) {b : Bi} {e : Expr} {es : List Expr} {t : TA} {p pos : Pos} (hg : M.glo b.nm = true) (hp : plainE e = true) (hps : es.all plainE = true) (ha : PA X (e :: es) t) : PE X (.Call (.Name b.nm p) (e :: es) [] pos) (tCB (rBi X.K b) t) := by
  obtain ⟨g1, g2, g3⟩ := ok.gl hg
  have hm := ok.blt _ (bi_blt b)
  have hv := bi_boot b
  have hc := call_bi (X := X) ok.calm b
  cases b <;> first
    | exact pe_callB hc g1 hm hv ha g3 g2 (star_of hp _ _) (stars_no hps)
    | exact pe_callTy hc g1 hm hv ha g3 g2 (star_of hp _ _) (stars_no hps)
end
end Hw
set_option Elab.async false
set_option linter.all false
set_option maxRecDepth 100000
set_option maxHeartbeats 1000000
/-! primitive operations keep the interpreter's word -/
namespace Hw
open PySem PySem.Spec PyProof.Rows L2
section
variable {R : RC} {M : MC} {X : Cx}
theorem PEs.inv1 {as : List CA} {e : Expr} (h : PEs X R as [e]) : ∃ c, as = [c] ∧ plainE e = true ∧ PE X e (tA R c) := by
  cases as with
  | nil => unfold PEs at h; cases h
  | cons c as =>
    cases as with
    | nil => obtain ⟨e', h0, h1, h2⟩ := PEs.one h; cases h0; exact ⟨c, rfl, h1, h2⟩
    | cons d as => have := PEs.length h; simp at this
theorem PEs.inv2 {as : List CA} {e e2 : Expr} (h : PEs X R as [e, e2]) : ∃ c d, as = [c, d] ∧ plainE e = true ∧ PE X e (tA R c) ∧ plainE e2 = true ∧ PE X e2 (tA R d) := by
  have l := PEs.length h
  match as, l, h with
  | [c, d], _, h => obtain ⟨e', e2', h0, h1, h2, h3, h4⟩ := PEs.two h; cases h0; exact ⟨c, d, rfl, h1, h2, h3, h4⟩
theorem PEs.inv3 {as : List CA} {e e2 e3 : Expr} (h : PEs X R as [e, e2, e3]) : ∃ c d f, as = [c, d, f] ∧ plainE e = true ∧ PE X e (tA R c) ∧ plainE e2 = true ∧ PE X e2 (tA R d) ∧ plainE e3 = true ∧ PE X e3 (tA R f) := by
  have l := PEs.length h
  match as, l, h with
  | [c, d, f], _, h => obtain ⟨e', e2', e3', h0, h1, h2, h3, h4, h5, h6⟩ := PEs.three h; cases h0; exact ⟨c, d, f, rfl, h1, h2, h3, h4, h5, h6⟩
theorem po_int {e : Expr} {te : TE} (h : PE X e te) : PO X (some e) (tPart te) := po_some h
theorem int2_q {K : PySem.W.Frag} {f : Fp} {H : Hp} {p : P} {x y : V} {Q : VK} {g : Int → Int → Option Int} {a b t : Tr} (r1 : RepW K H f a x) (r2 : RepW K H f b y) (e : int2 g a b = some t) (q : ∀ v H' f', New K H f H' f' t v → Q v H') :
    ∃ i j k, x = .int i ∧ y = .int j ∧ g i j = some k ∧ Q (.int k) H := by
  obtain ⟨i, j, k, h1, h2, h3, rfl⟩ := int2_ok (K := K) r1 r2 e
  exact ⟨i, j, k, h1, h2, h3, q _ _ _ (New.int _)⟩
theorem noMark {e : Expr} (h : plainE e = true) (o : CmpOp) : behindInMarks o e = false := by
  cases e <;> first | rfl | cases h
theorem slice_of {K : PySem.W.Frag} {f : Fp} {H : Hp} {x : V} {lo hi : Option Int} {a t : Tr} {Q : VK} (al : Alc H f) (r1 : RepW K H f a x) (e : slEv a lo hi = some t) (q : ∀ v H' f', New K H f H' f' t v → Q v H') : rSl2 K x lo hi H Q := sl_ok al r1 e q
theorem rg_ok {i j : Int} (h : rgOkB i j = true) : RgOk i j := by
  unfold rgOkB at h
  simp only [Bool.and_eq_true, decide_eq_true_eq] at h
  exact ⟨h.1.1.1.1, h.1.1.1.2, h.1.1.2, h.1.2, h.2⟩
theorem prim_sound (ok : XOk R M X) {p : P} {e : Expr} {es : List Expr} {as : List CA} (h : primArgs M p e = some es) (hs : PEs X R as es) : PE X e (tE R (.prim p as)) := by
  have hK := ok.K
  unfold primArgs at h
  split at h
  · cases h
    obtain ⟨c, d, rfl, p1, h1, p2, h2⟩ := hs.inv2
    refine PE.imp (pe_op op_add4 h1 h2) fun σ H Q q => prim2 (r := rAdd4 X.K) (fun x y H1 q => ?_) q
    obtain ⟨f, a, b, t, al, r1, r2, e, q⟩ := rprim2 q
    rw [hK]
    exact add_ok al r1 r2 e q
  · cases h
    obtain ⟨c, d, rfl, p1, h1, p2, h2⟩ := hs.inv2
    refine PE.imp (pe_op op_sub h1 h2) fun σ H Q q => prim2 (fun x y H1 q => ?_) q
    obtain ⟨f, a, b, t, al, r1, r2, e, q⟩ := rprim2 q
    obtain ⟨i, j, k, h1, h2, h3, q⟩ := int2_q (p := .sub) r1 r2 e q
    cases h3
    exact ⟨i, j, h1, h2, q⟩
  · cases h
    obtain ⟨c, d, rfl, p1, h1, p2, h2⟩ := hs.inv2
    refine PE.imp (pe_op op_mul4 h1 h2) fun σ H Q q => prim2 (r := rMul4 X.K) (fun x y H1 q => ?_) q
    obtain ⟨f, a, b, t, al, r1, r2, e, q⟩ := rprim2 q
    rw [hK]
    exact mul_ok al r1 r2 e q
  · cases h
    obtain ⟨c, d, rfl, p1, h1, p2, h2⟩ := hs.inv2
    refine PE.imp (pe_op op_fdivW h1 h2) fun σ H Q q => prim2 (fun x y H1 q => ?_) q
    obtain ⟨f, a, b, t, al, r1, r2, e, q⟩ := rprim2 q
    obtain ⟨i, j, k, h1, h2, h3, q⟩ := int2_q (p := .sub) r1 r2 e q
    split at h3
    · rename_i hc
      cases h3
      exact ⟨i, j, h1, h2, hc, q⟩
    · cases h3
  · cases h
    obtain ⟨c, d, rfl, p1, h1, p2, h2⟩ := hs.inv2
    refine PE.imp (pe_op op_mod h1 h2) fun σ H Q q => prim2 (fun x y H1 q => ?_) q
    obtain ⟨f, a, b, t, al, r1, r2, e, q⟩ := rprim2 q
    obtain ⟨i, j, k, h1, h2, h3, q⟩ := int2_q (p := .sub) r1 r2 e q
    split at h3
    · rename_i hc
      cases h3
      exact ⟨i, j, h1, h2, hc, q⟩
    · cases h3
  · cases h
    obtain ⟨c, d, rfl, p1, h1, p2, h2⟩ := hs.inv2
    refine PE.imp (pe_op op_pow h1 h2) fun σ H Q q => prim2 (fun x y H1 q => ?_) q
    obtain ⟨f, a, b, t, al, r1, r2, e, q⟩ := rprim2 q
    obtain ⟨i, j, k, h1, h2, h3, q⟩ := int2_q (p := .sub) r1 r2 e q
    split at h3
    · rename_i hc
      cases h3
      exact ⟨i, j, h1, h2, hc, q⟩
    · cases h3
  · cases h
    obtain ⟨c, rfl, p1, h1⟩ := hs.inv1
    refine PE.imp (pe_un un_neg h1) fun σ H Q q => prim1 (r := rU fun i => .int (-i)) (fun x H1 q => ?_) q
    obtain ⟨f, a, t, al, r1, e, q⟩ := rprim1 q
    obtain ⟨i, e1, rfl⟩ := Option.map_eq_some_iff.mp e
    exact ⟨i, asInt_rep r1 e1, q _ _ _ (New.int _)⟩
  · rename_i o a0 o' b0 pos
    split at h
    · rename_i ho
      cases h
      have ho := eqOp_of ho
      subst ho
      obtain ⟨c, d, rfl, p1, h1, p2, h2⟩ := hs.inv2
      refine PE.imp (pe_cmpR (op_cmp ok.un o) h1 h2 (noMark p2 o)) fun σ H Q q => prim2 (r := rCmp X.K o) (fun x y H1 q => ?_) q
      obtain ⟨f, a, b, t, al, r1, r2, e, q⟩ := rprim2 q
      obtain ⟨r, e1, rfl⟩ := Option.map_eq_some_iff.mp e
      rw [hK]
      exact cmp_ok r1 r2 e1 (q _ _ _ (New.bool _))
    · cases h
  · cases h
    obtain ⟨c, rfl, p1, h1⟩ := hs.inv1
    refine PE.imp (pe_slice (sl_2 (X := X)) h1 po_none po_none) fun σ H Q q => ?_
    refine prim1 (r := fun x H Q => rSl2 X.K x none none H Q) (fun x H1 q => ?_) q
    obtain ⟨f, a, t, al, r1, e, q⟩ := rprim1 q
    rw [hK]
    exact sl_ok al r1 e q
  · cases h
    obtain ⟨c, d, rfl, p1, h1, p2, h2⟩ := hs.inv2
    refine PE.imp (pe_slice (sl_2 (X := X)) h1 (po_some h2) po_none) fun σ H Q q => ?_
    refine prim2 (r := fun x y H Q => ∃ i, y = .int i ∧ rSl2 X.K x (some i) none H Q) (fun x y H1 q => ?_) q
    obtain ⟨f, a, b, t, al, r1, r2, e, q⟩ := rprim2 q
    obtain ⟨i, e1, e2⟩ := Option.bind_eq_some_iff.mp e
    rw [hK]
    exact ⟨i, asInt_rep r2 e1, sl_ok al r1 e2 q⟩
  · cases h
    obtain ⟨c, d, rfl, p1, h1, p2, h2⟩ := hs.inv2
    refine PE.imp (pe_slice (sl_2 (X := X)) h1 po_none (po_some h2)) fun σ H Q q => ?_
    refine prim2 (r := fun x y H Q => ∃ i, y = .int i ∧ rSl2 X.K x none (some i) H Q) (fun x y H1 q => ?_) q
    obtain ⟨f, a, b, t, al, r1, r2, e, q⟩ := rprim2 q
    obtain ⟨i, e1, e2⟩ := Option.bind_eq_some_iff.mp e
    rw [hK]
    exact ⟨i, asInt_rep r2 e1, sl_ok al r1 e2 q⟩
  · cases h
    obtain ⟨c, rfl, p1, h1⟩ := hs.inv1
    refine PE.imp (pe_revL h1) fun σ H Q q => ?_
    refine prim1 (r := fun x H1 Q => ∃ a xs, x = .ref a ∧ SqL X.K H1 a xs ∧ ∀ p, H1 p = none → Q (.ref p) (upd H1 p (.lst xs.reverse))) (fun x H1 q => ?_) q
    obtain ⟨f, a, t, al, r1, e, qq⟩ := rprim1 q
    obtain ⟨xs, e1, rfl⟩ := Option.map_eq_some_iff.mp e
    obtain ⟨p, vs, rfl, h1, d1⟩ := asList_rep r1 e1
    exact ⟨p, vs, rfl, SqL.of h1, fun l hl => qq _ _ _ (New.lst hl al d1.reverse)⟩
  · cases h
    obtain ⟨c, d, rfl, p1, h1, p2, h2⟩ := hs.inv2
    refine PE.imp (pe_ix ix_seq h1 h2 (plainIx p2)) fun σ H Q q => prim2 (r := rIx X.K) (fun x y H1 q => ?_) q
    obtain ⟨f, a, b, t, al, r1, r2, e, q⟩ := rprim2 q
    rw [hK]
    exact ix_ok r1 r2 e q
  · rename_i b x pos args pos2
    split at h
    · rename_i hc
      obtain ⟨rfl, hg, hl⟩ := hc
      cases h
      have hpl := hs.plain
      have hpa := hs.pa
      cases es with
      | nil => cases b <;> cases hl
      | cons e0 er =>
        rw [List.all_cons, Bool.and_eq_true] at hpl
        refine PE.imp (bi_call ok hg hpl.1 hpl.2 hpa) fun σ H Q q => ?_
        have q := prim_as q
        obtain ⟨Γ, f, pr, st, q⟩ := q
        refine ⟨Γ, f, pr, st, ?_⟩
        have key : ∀ vs H1, rPrim R.K (.bi b) vs H1 Q → rBi X.K b vs H1 Q := fun vs H1 q => by
          obtain ⟨f, ts, t, al, r, e, q⟩ := q
          rw [hK]
          exact bi_ok al r e q
        split at q
        · exact fun vs H' f' s s1 => key _ _ (q vs H' f' s s1)
        · exact q
        · exact q
    · cases h
  · rename_i T x pos a t pos2 pos3
    split at h
    · rename_i hc
      obtain ⟨rfl, hg, rfl, hg2, hb, hv⟩ := hc
      cases h
      obtain ⟨c, rfl, p1, h1⟩ := hs.inv1
      obtain ⟨g1, g2, g3⟩ := ok.gl hg
      obtain ⟨k1, k2, k3⟩ := ok.gl hg2
      have hT : PE X (.Name (Str.ofString T) pos2) (tC (.ty T)) := pe_bltn k1 (ok.blt _ (by simpa using hb)) hv rfl k3 k2
      have ha := pa_cons' p1 h1 (pa_cons' (e := .Name (Str.ofString T) pos2) rfl hT pa_nil)
      refine PE.imp (pe_callB call_isi g1 (ok.blt _ (by decide +kernel)) boot_isinstance ha g3 g2 (star_of p1 _ _) rfl) fun σ H Q q => ?_
      refine prim1 (r := fun x H1 Q => rIsi X.K [x, .ty T] H1 Q) (fun x H1 q => ?_) q
      obtain ⟨f, a, t, al, r1, e, qq⟩ := rprim1 q
      have e : (match tyName a with | some n => (kitB n T).map bT | none => none : Option Tr) = some t := e
      cases e1 : tyName a with
      | none => rw [e1] at e; cases e
      | some n =>
        rw [e1] at e
        obtain ⟨r, e2, rfl⟩ := Option.map_eq_some_iff.mp e
        rw [hK]
        exact ⟨x, .ty T, .type n, .type T, r, rfl, .ty T, tyName_rep r1 e1, kit_ty e2, qq _ _ _ (New.bool _)⟩
    · cases h
  · rename_i x pos y pos2 a pos3 pos4
    split at h
    · rename_i hc
      obtain ⟨rfl, hg, rfl, hg2⟩ := hc
      cases h
      obtain ⟨c, rfl, p1, h1⟩ := hs.inv1
      obtain ⟨g1, g2, g3⟩ := ok.gl hg
      obtain ⟨k1, k2, k3⟩ := ok.gl hg2
      refine PE.imp (pe_listRg ok.calm g1 (ok.blt _ (by decide +kernel)) (prg_1 k1 (ok.blt _ (by decide +kernel)) h1 (star_of p1 _ _))) fun σ H Q q => ?_
      refine prim1 (r := fun x H1 Q => ∃ n, x = .int n ∧ RgOk 0 n ∧ ∀ q, H1 q = none → Q (.ref q) (upd H1 q (.lst (rgV 0 n)))) (fun x H1 q => ?_) q
      obtain ⟨f, a, t, al, r1, e, q⟩ := rprim1 q
      obtain ⟨n, e1, e2⟩ := Option.bind_eq_some_iff.mp e
      split at e2
      · rename_i hr
        cases e2
        exact ⟨n, asInt_rep r1 e1, rg_ok hr, fun l hl => q _ _ _ (New.lst hl al rg_dr)⟩
      · cases e2
    · cases h
  · rename_i x pos y pos2 a b pos3 pos4
    split at h
    · rename_i hc
      obtain ⟨rfl, hg, rfl, hg2⟩ := hc
      cases h
      obtain ⟨c, d, rfl, p1, h1, p2, h2⟩ := hs.inv2
      obtain ⟨g1, g2, g3⟩ := ok.gl hg
      obtain ⟨k1, k2, k3⟩ := ok.gl hg2
      refine PE.imp (pe_listRg ok.calm g1 (ok.blt _ (by decide +kernel)) (prg_2 k1 (ok.blt _ (by decide +kernel)) h1 h2 (star_of p1 _ _) (star_of p2 _ _) (stars_no (es := [b]) (by rw [List.all_cons, p2]; rfl)))) fun σ H Q q => ?_
      refine prim2 (r := fun x y H1 Q => ∃ i j, x = .int i ∧ y = .int j ∧ RgOk i j ∧ ∀ q, H1 q = none → Q (.ref q) (upd H1 q (.lst (rgV i j)))) (fun x y H1 q => ?_) q
      obtain ⟨f, a, b, t, al, r1, r2, e, q⟩ := rprim2 q
      obtain ⟨i, e1, e2⟩ := Option.bind_eq_some_iff.mp e
      obtain ⟨j, e3, e4⟩ := Option.bind_eq_some_iff.mp e2
      split at e4
      · rename_i hr
        cases e4
        exact ⟨i, j, asInt_rep r1 e1, asInt_rep r2 e3, rg_ok hr, fun l hl => q _ _ _ (New.lst hl al rg_dr)⟩
      · cases e4
    · cases h
  · rename_i x pos y pos2 a pos3 pos4
    split at h
    · rename_i hc
      obtain ⟨rfl, hg, rfl, hg2⟩ := hc
      cases h
      obtain ⟨c, rfl, p1, h1⟩ := hs.inv1
      obtain ⟨g1, g2, g3⟩ := ok.gl hg
      obtain ⟨k1, k2, k3⟩ := ok.gl hg2
      refine PE.imp (pe_tupRg ok.calm g1 (ok.blt _ (by decide +kernel)) (prg_1 k1 (ok.blt _ (by decide +kernel)) h1 (star_of p1 _ _))) fun σ H Q q => ?_
      refine prim1 (r := fun x H1 Q => ∃ n, x = .int n ∧ RgOk 0 n ∧ ∀ q, H1 q = none → Q (.ref q) (upd H1 q (.tup (rgV 0 n)))) (fun x H1 q => ?_) q
      obtain ⟨f, a, t, al, r1, e, q⟩ := rprim1 q
      obtain ⟨n, e1, e2⟩ := Option.bind_eq_some_iff.mp e
      split at e2
      · rename_i hr
        cases e2
        exact ⟨n, asInt_rep r1 e1, rg_ok hr, fun l hl => q _ _ _ (New.tup hl al rg_dr)⟩
      · cases e2
    · cases h
  · rename_i x pos y pos2 a b pos3 pos4
    split at h
    · rename_i hc
      obtain ⟨rfl, hg, rfl, hg2⟩ := hc
      cases h
      obtain ⟨c, d, rfl, p1, h1, p2, h2⟩ := hs.inv2
      obtain ⟨g1, g2, g3⟩ := ok.gl hg
      obtain ⟨k1, k2, k3⟩ := ok.gl hg2
      refine PE.imp (pe_tupRg ok.calm g1 (ok.blt _ (by decide +kernel)) (prg_2 k1 (ok.blt _ (by decide +kernel)) h1 h2 (star_of p1 _ _) (star_of p2 _ _) (stars_no (es := [b]) (by rw [List.all_cons, p2]; rfl)))) fun σ H Q q => ?_
      refine prim2 (r := fun x y H1 Q => ∃ i j, x = .int i ∧ y = .int j ∧ RgOk i j ∧ ∀ q, H1 q = none → Q (.ref q) (upd H1 q (.tup (rgV i j)))) (fun x y H1 q => ?_) q
      obtain ⟨f, a, b, t, al, r1, r2, e, q⟩ := rprim2 q
      obtain ⟨i, e1, e2⟩ := Option.bind_eq_some_iff.mp e
      obtain ⟨j, e3, e4⟩ := Option.bind_eq_some_iff.mp e2
      split at e4
      · rename_i hr
        cases e4
        exact ⟨i, j, asInt_rep r1 e1, asInt_rep r2 e3, rg_ok hr, fun l hl => q _ _ _ (New.tup hl al rg_dr)⟩
      · cases e4
    · cases h
  · cases h
end
end Hw
set_option Elab.async false
set_option linter.all false
set_option maxRecDepth 100000
set_option maxHeartbeats 1000000
/-! expressions match and keep the interpreter's word: helpers -/
namespace Hw
open PySem PySem.Spec PyProof.Rows L2

def pathOf : Expr → Option (Str × List Expr)
  | .Name x _ => some (x, [])
  | .Subscript a b _ => (pathOf a).map fun p => (p.1, p.2 ++ [b])
  | _ => none
def mLit : PyData → Const → Bool
  | .none, .none => true
  | .bool a, .bool b => a == b
  | .int i, .int j => i == j
  | .str x, .str y => decide (x = y)
  | _, _ => false
def mNames (M : MC) : List Nat → List Expr → Bool
  | [], [] => true
  | i :: is, .Name x _ :: es => M.loc i x && mNames M is es
  | _, _ => false
def mTg (M : MC) : CTg → Expr → Bool
  | .nm i, .Name x _ => M.loc i x
  | .tp is, .Tuple es _ _ => mNames M is es
  | _, _ => false
def CTg.slots : CTg → List Nat
  | .nm i => [i]
  | .tp is => is
def ownN (M : MC) (own : List Nat) : List (Str × Nat) := own.map fun i => (M.N.getD i Str.empty, i)
/-- a test whose truth is its value's -/
def tstE : Expr → Bool
  | .BoolOp .. => false
  | .UnaryOp .Not _ _ => false
  | .IfExp .. => false
  | _ => true
def isTupE : Expr → Bool
  | .Tuple .. => true
  | _ => false
mutual
def mE (M : MC) : CE → Expr → Bool
  | .var i, .Name x _ => M.vis i x
  | .mv i, .Name x _ => M.vis i x
  | .lit d, .Constant c _ _ => mLit d c
  | .glb x, .Name y _ => decide (x = y) && M.glo x
  | .prim p as, e => (match primArgs M p e with
    | some es => mAs M as es
    | none => false)
  | .tup as, .Tuple es _ _ => mAs M as es
  | .lst as, .List es _ => mAs M as es
  | .and_ a b, .BoolOp .And [v, w] _ => mE M a v && mE M b w
  | .and_ a b, .BoolOp .And (v :: w :: u :: r) pos => mE M a v && mE M b (.BoolOp .And (w :: u :: r) pos)
  | .or_ a b, .BoolOp .Or [v, w] _ => mE M a v && mE M b w
  | .or_ a b, .BoolOp .Or (v :: w :: u :: r) pos => mE M a v && mE M b (.BoolOp .Or (w :: u :: r) pos)
  | .not_ a, .UnaryOp .Not v _ => mE M a v
  | .ife c a b, .IfExp t v w _ => mT M c t && (mE M a v && mE M b w)
  | .chain o1 o2 ab c, .Compare a [p1, p2] [b, c'] _ => eqOp o1 p1 && eqOp o2 p2 && mAs M ab [a, b] && (plainE c' && mE M c c')
  | .call x as, .Call (.Name y _) (e :: es) [] _ => decide (x = y) && M.glo x && mAs M as (e :: es)
  | .lc own tg it cond elt, .ListComp e [⟨t, i, ifs, 0⟩] s _ => blkC M.N M.sc s (ownN M own) && mTg (M.blk s) tg t && (tg.slots.all fun j => own.contains j) && mIt M (isTupE t) it i && (mC (M.blk s) cond ifs && mE (M.blk s) elt e)
  | .pth i es, e => (match pathOf e with
    | some (x, bs) => M.vis i x && mEs M es bs
    | none => false)
  | .pop i as, .Call (.Attribute (.Name x _) m apos) args [] cpos => decide (m = "pop") && M.vis i x && (apos.endLine == cpos.line) && decide (as.length ≤ 1) && mAs M as args
  | _, _ => false
def mAs (M : MC) : List CA → List Expr → Bool
  | [], [] => true
  | a :: as, e :: es => plainE e && mA M a e && mAs M as es
  | _, _ => false
def mA (M : MC) : CA → Expr → Bool
  | .e a, e => mE M a e
  | .pk i, .Name x _ => M.vis i x
  | .io i, .Name x _ => M.vis i x
  | _, _ => false
def mEs (M : MC) : List CE → List Expr → Bool
  | [], [] => true
  | a :: as, e :: es => plainE e && mE M a e && mEs M as es
  | _, _ => false
def mT (M : MC) : CT → Expr → Bool
  | .pk i, .Name x _ => M.vis i x
  | .and_ a b, .BoolOp .And [v, w] _ => mT M a v && mT M b w
  | .and_ a b, .BoolOp .And (v :: w :: u :: r) pos => mT M a v && mT M b (.BoolOp .And (w :: u :: r) pos)
  | .or_ a b, .BoolOp .Or [v, w] _ => mT M a v && mT M b w
  | .or_ a b, .BoolOp .Or (v :: w :: u :: r) pos => mT M a v && mT M b (.BoolOp .Or (w :: u :: r) pos)
  | .not_ a, .UnaryOp .Not v _ => mT M a v
  | .e a, e => tstE e && mE M a e
  | _, _ => false
def mC (M : MC) : List CT → List Expr → Bool
  | [], [] => true
  | [c], [e] => mT M c e
  | _, _ => false
def mIt (M : MC) (tup : Bool) : CIt → Expr → Bool
  | .sq a, e => plainE e && mE M a e
  | .rng1 a, .Call (.Name x _) [e] [] _ => decide (x = "range") && M.glo x && (plainE e && mE M a e)
  | .rng2 as, .Call (.Name x _) [e, e2] [] _ => decide (x = "range") && M.glo x && mAs M as [e, e2]
  | .enm a, .Call (.Name x _) [e] [] _ => tup && decide (x = "enumerate") && M.glo x && (plainE e && mE M a e)
  | .zip as, .Call (.Name x _) [e, e2] [] _ => tup && decide (x = "zip") && M.glo x && mAs M as [e, e2]
  | _, _ => false
end
end Hw
set_option Elab.async false
set_option linter.all false
set_option maxRecDepth 100000
set_option maxHeartbeats 1000000
/-! expressions, one by one -/
namespace Hw
open PySem PySem.Spec PyProof.Rows L2
section
variable {R : RC} {M : MC} {X : Cx} {σ : Sig} {H : Hp} {Q : VK}
theorem var_ok (h : tE R (.var i) σ H Q) : tVar i σ H Q := by
  obtain ⟨Γ, f, pr, st, h⟩ := h
  obtain ⟨h1, h2, g, ga, hs, hg, hl⟩ := id st
  simp only [ev] at h
  have easy : ∀ t : Tr, Γ[i]? = some t → t ≠ .gone → (∀ v g g', Rep R.K H f t v g → Rep R.K H f t v g') → (∀ v H' f', Stp H f pr H' f' → St1 R.K Γ σ H' f' pr v t → Q v H') → tVar i σ H Q := by
    intro t e n hz q
    obtain ⟨v, g', e1, r, _⟩ := hs.val e n
    exact ⟨v, e1, q v H f Stp.refl ⟨h1, h2, g, fun _ => 0, hs, hz _ _ _ r, fun a => by have := hl a; show 0 + (g a + pr a) ≤ f a; omega⟩⟩
  have hard : ∀ t : Tr, Γ[i]? = some t → t ≠ .gone → ∀ d, frz t = some d → (∀ v H' f', Stp H f pr H' f' → St1 R.K (Γ.set i (.c d)) σ H' f' pr v (.c d) → Q v H') → tVar i σ H Q := by
    intro t e n d e2 q
    obtain ⟨o, g1, g2, e3, ro, rs, hgl⟩ := hs.take e
    obtain ⟨v, rfl, r⟩ := ro.get n
    refine ⟨v, e3, ?_⟩
    have l : ∀ a, (fun a => f a - g1 a) a ≤ f a := fun a => Nat.sub_le _ _
    have dr : Dr R.K (mn H fun a => f a - g1 a) d v := r.frz l e2 fun a => by have := hl a; have := hgl a; have := h1 a; show g1 a + (f a - g1 a) ≤ 1; omega
    have rs' := rs.stp (stp_less (pr := g2) l) (fun _ => Nat.le_refl _)
    have il : i < (Γ.set i .gone).length := by rw [List.length_set]; exact (List.getElem?_eq_some_iff.mp e).1
    have put := RepS.put (i := i) (x := .c d) (o := some v) (g' := fun _ => 0) rs' (by rw [List.getElem?_set_self (by simpa using il)]) e3 (.mk (by unfold Rep; exact dr))
    rw [List.set_set] at put
    exact q v H _ (stp_less l) ⟨fun a => by have := h1 a; show f a - g1 a ≤ 1; omega, fun a ha => h2 a (Nat.le_trans ha (l a)), _, fun _ => 0, put, by unfold Rep; exact dr, fun a => by
      have := hl a; have := hgl a; show 0 + (0 + g2 a + pr a) ≤ f a - g1 a; omega⟩
  cases e : Γ[i]? with
  | none => simp only [e] at h
  | some t =>
    cases t with
    | c d => simp only [e] at h; exact easy _ e (by simp) (fun v g g' r => by unfold Rep at r ⊢; exact r) h
    | s ns => simp only [e] at h; exact easy _ e (by simp) (fun v g g' r => by unfold Rep at r ⊢; exact r) h
    | gone => simp only [e, frz, Option.map_none] at h
    | l xs =>
      simp only [e] at h
      cases e2 : frz (.l xs) with
      | none => simp only [e2, Option.map_none] at h
      | some d => simp only [e2, Option.map_some] at h; exact hard _ e (by simp) d e2 h
    | t xs =>
      simp only [e] at h
      cases e2 : frz (.t xs) with
      | none => simp only [e2, Option.map_none] at h
      | some d => simp only [e2, Option.map_some] at h; exact hard _ e (by simp) d e2 h
theorem mv_ok (h : tE R (.mv i) σ H Q) : tVar i σ H Q := by
  obtain ⟨Γ, f, pr, st, h⟩ := h
  obtain ⟨h1, h2, g, ga, hs, hg, hl⟩ := id st
  simp only [ev] at h
  cases e : Γ[i]? with
  | none => simp only [e] at h
  | some t =>
    by_cases n : t = .gone
    · subst n; simp only [e] at h
    · obtain ⟨o, g1, g2, e3, ro, rs, hgl⟩ := hs.take e
      obtain ⟨v, rfl, r⟩ := ro.get n
      have h' : ∀ v H' f', Stp H f pr H' f' → St1 R.K (Γ.set i .gone) σ H' f' pr v t → Q v H' := by
        cases t <;> first | exact absurd rfl n | (simp only [e] at h; exact h)
      exact ⟨v, e3, h' v H f Stp.refl ⟨h1, h2, g2, g1, rs, r, fun a => by have := hl a; have := hgl a; omega⟩⟩
theorem lit_ok {d : PyData} {c : Const} {j : Nat} {pos : Pos} (m : mLit d c = true) : PE X (.Constant c j pos) (tE R (.lit d)) := by
  have go : ∀ {v : V}, (∀ K H, Dr K H d v) → flatD d = true → ∀ σ H Q, tE R (.lit d) σ H Q → Q v H := by
    intro v hv fd σ H Q h
    obtain ⟨Γ, f, pr, st, h⟩ := h
    simp only [ev, fd, if_true] at h
    exact h v H f Stp.refl (st.new (New.flat (hv _ _)))
  cases d <;> cases c <;> first | (unfold mLit at m; cases m; done) | skip
  · exact PE.imp pe_non (go (fun _ _ => by unfold Dr; rfl) rfl)
  · have e := eq_of_beq (show (_ == _) = true from m)
    subst e
    exact PE.imp pe_bl (go (fun _ _ => by unfold Dr; rfl) rfl)
  · have e := eq_of_beq (show (_ == _) = true from m)
    subst e
    exact PE.imp pe_int (go (fun _ _ => by unfold Dr; rfl) rfl)
  · have e := of_decide_eq_true (show decide (_ = _) = true from m)
    subst e
    exact PE.imp pe_str (go (fun _ _ => by unfold Dr; rfl) rfl)
theorem glb_ok (ok : XOk R M X) {x : Str} {pos : Pos} (m : M.glo x = true) : PE X (.Name x pos) (tE R (.glb x)) := by
  obtain ⟨g1, g2, g3⟩ := ok.gl m
  cases e : R.F.gl x with
  | none =>
    exact ⟨fun pins s σ H Q I h => by
      obtain ⟨Γ, f, pr, st, h⟩ := h
      simp only [ev, e, Option.bind_none] at h⟩
  | some d =>
    obtain ⟨v, u, hm, r, hd⟩ := ok.gls x d e
    refine PE.imp (pe_glob g1 hm r g2) fun σ H Q h => ?_
    obtain ⟨Γ, f, pr, st, h⟩ := h
    simp only [ev, e, Option.bind_some] at h
    by_cases fd : flatD d = true
    · simp only [fd, if_true] at h
      exact h v H f Stp.refl (st.new (New.flat (hd _ _)))
    · simp only [fd] at h
      exact h.elim
theorem tmps_rep {K : PySem.W.Frag} {H : Hp} {f : Fp} {σ : Sig} : ∀ {avs : List AV} {vs : List V} {g : Fp} {ts : List Tr}, RepA K H f σ avs vs g → tmps avs = some ts → RepL K H f ts vs g
  | [], _, _, _, h, e => by unfold tmps at e; cases e; unfold RepA at h; unfold RepL; exact h
  | .tmp t :: avs, _, _, _, h, e => by
    unfold tmps at e
    obtain ⟨ts, e1, rfl⟩ := Option.map_eq_some_iff.mp e
    obtain ⟨v, r, g1, g2, rfl, h1, h2, h3⟩ := h
    unfold RepL
    exact ⟨v, r, g1, g2, rfl, h1, tmps_rep h2 e1, h3⟩
  | .pk _ :: _, _, _, _, _, e => by unfold tmps at e; cases e
  | .io _ :: _, _, _, _, _, e => by unfold tmps at e; cases e
theorem RepL.length {K : PySem.W.Frag} {H : Hp} {f : Fp} : ∀ {ts : List Tr} {vs : List V} {g : Fp}, RepL K H f ts vs g → vs.length = ts.length
  | [], _, _, h => by unfold RepL at h; rw [h]; rfl
  | t :: ts, _, _, h => by
    unfold RepL at h
    obtain ⟨v, r, g1, g2, rfl, h1, h2, h3⟩ := h
    simp [RepL.length h2]
/-- a new object beside the state, what is owned grows by g1 -/
theorem StA.laid {K : PySem.W.Frag} {Γ : List Tr} {f pr : Fp} {G G' : Fp → Prop} {p : Addr} {o : HO} (st : StA K Γ σ H f pr G) (n : H p = none) (g1 : Fp) (hg1 : ∀ a, g1 a ≤ one p a)
    (q : ∀ ga, G ga → Stp H f ga (upd H p o) (padd f g1) → G' (padd ga g1)) : StA K Γ σ (upd H p o) (padd f g1) pr G' ∧ Stp H f pr (upd H p o) (padd f g1) := by
  have al := st.alc
  obtain ⟨h1, h2, g, ga, hs, hg, hl⟩ := st
  have z := al.zero n
  have s : ∀ pr, Stp H f pr (upd H p o) (padd f g1) := fun pr => ⟨fun a u e e0 => ⟨Ext.new n a u e, by
    have hp : a ≠ p := ne_of_none e n
    have := hg1 a
    rw [one_ne hp] at this
    rw [padd_at]; omega⟩, fun a u _ e => Ext.new n a u e⟩
  refine ⟨⟨fun a => ?_, fun a ha => ?_, g, padd ga g1, hs.stp (s g) (fun _ => Nat.le_refl _), q ga hg (s ga), fun a => by have := hl a; simp only [padd_at]; omega⟩, s pr⟩
  · have := hg1 a
    by_cases hp : a = p
    · subst hp; rw [one_self] at this; rw [padd_at]; omega
    · rw [one_ne hp] at this; rw [padd_at]; have := h1 a; omega
  · by_cases hp : a = p
    · subst hp; exact ⟨o, upd_same⟩
    · have := hg1 a
      rw [one_ne hp] at this
      rw [padd_at] at ha
      obtain ⟨u, hu⟩ := h2 a (by omega)
      exact ⟨u, Ext.new n a u hu⟩
def zfp : Fp := fun _ => 0
theorem tup_ok {as : List CA} (h : tE R (.tup as) σ H Q) : tTup (tAs R as) σ H Q := by
  obtain ⟨Γ, f, pr, st, h⟩ := h
  refine ⟨Γ, f, pr, st, ?_⟩
  simp only [ev] at h
  cases q : evAs R.F as Γ with
  | none => simp only [q] at h
  | some r =>
    cases r with
    | ex y Γ1 => simp only [q] at h; exact h
    | ok avs Γ1 =>
      simp only [q] at h
      intro vs H1 f1 s1 st1
      cases q1 : tmps avs with
      | none => simp only [q1, Option.bind_none] at h
      | some ts =>
        simp only [q1, Option.bind_some] at h
        by_cases hl : ts.length ≤ sizeLine
        · rw [if_pos hl] at h
          obtain ⟨_, _, _, ga0, _, hg0, _⟩ := id st1
          refine ⟨by rw [(tmps_rep hg0 q1).length]; exact hl, fun p hp => ?_⟩
          have := StA.laid (p := p) (o := .tup vs) (G' := fun ga => Rep R.K (upd H1 p (.tup vs)) (padd f1 zfp) (tupT ts) (.ref p) ga) st1 hp zfp (fun a => Nat.zero_le _) fun ga hg s => by
            have rl := (tmps_rep hg q1).stp s (fun _ => Nat.le_refl _)
            have hz : mn (upd H1 p (.tup vs)) (padd f1 zfp) p = some (.tup vs) := mn_of (by rw [padd_at, st1.alc.zero hp]; rfl) upd_same
            unfold tupT
            split
            · rename_i ds e
              unfold Rep Dr
              exact ⟨p, vs, rfl, hz, stl_rep rl e⟩
            · unfold Rep
              exact ⟨p, vs, rfl, hz, rl.mono fun a => by rw [padd_at]; exact Nat.le_add_right _ _⟩
          exact h _ _ _ (s1.trans this.2 fun _ => Nat.le_refl _) this.1
        · rw [if_neg hl] at h; exact h.elim
theorem lst_ok {as : List CA} (h : tE R (.lst as) σ H Q) : tLst (tAs R as) σ H Q := by
  obtain ⟨Γ, f, pr, st, h⟩ := h
  refine ⟨Γ, f, pr, st, ?_⟩
  simp only [ev] at h
  cases q : evAs R.F as Γ with
  | none => simp only [q] at h
  | some r =>
    cases r with
    | ex y Γ1 => simp only [q] at h; exact h
    | ok avs Γ1 =>
      simp only [q] at h
      intro vs H1 f1 s1 st1
      cases q1 : tmps avs with
      | none => simp only [q1, Option.bind_none] at h
      | some ts =>
        simp only [q1, Option.bind_some] at h
        by_cases hl : ts.length ≤ sizeLine
        · rw [if_pos hl] at h
          obtain ⟨_, _, _, ga0, _, hg0, _⟩ := id st1
          refine ⟨by rw [(tmps_rep hg0 q1).length]; exact hl, fun p hp => ?_⟩
          have := StA.laid (p := p) (o := .lst vs) (G' := fun ga => Rep R.K (upd H1 p (.lst vs)) (padd f1 (one p)) (.l ts) (.ref p) ga) st1 hp (one p) (fun a => Nat.le_refl _) fun ga hg s => by
            have rl := (tmps_rep hg q1).stp s (fun _ => Nat.le_refl _)
            unfold Rep
            exact ⟨p, vs, ga, rfl, upd_same, rl, fun a => by rw [padd_at]; omega⟩
          exact h _ _ _ (s1.trans this.2 fun _ => Nat.le_refl _) this.1
        · rw [if_neg hl] at h; exact h.elim
/-- what is wished of an exception, from a longer way -/
theorem bT_val {K : PySem.W.Frag} {H : Hp} {f : Fp} {b : Bool} {v : V} {g : Fp} (h : Rep K H f (bT b) v g) : v = .bl b := by
  unfold bT Rep Dr at h; exact h
theorem asBool_bT {t : Tr} {b : Bool} (h : asBool t = some b) : t = bT b := by
  unfold asBool at h; split at h
  · cases h; rfl
  · cases h
theorem and_ok {a b : CE} (h : tE R (.and_ a b) σ H Q) : tAndV (tE R a) (tE R b) σ H Q := by
  obtain ⟨Γ, f, pr, st, h⟩ := h
  refine ⟨Γ, f, pr, st, ?_⟩
  simp only [ev] at h
  cases q : ev R.F a Γ with
  | none => simp only [q] at h
  | some r =>
    cases r with
    | ex y Γ1 => simp only [q] at h; exact h
    | ok t Γ1 =>
      simp only [q] at h
      intro v H1 f1 s1 st1
      cases q1 : asBool t with
      | none => simp only [q1] at h
      | some k =>
        have et := asBool_bT q1
        subst et
        obtain ⟨_, _, _, ga0, _, hg0, _⟩ := id st1
        refine ⟨k, bT_val hg0, ?_⟩
        cases k with
        | true =>
          simp only [q1] at h
          refine ⟨Γ1, f1, pr, st1.drop, ?_⟩
          cases q2 : ev R.F b Γ1 with
          | none => simp only [q2] at h
          | some r2 =>
            cases r2 with
            | ex y Γ2 => simp only [q2] at h; exact fun C H' f' hm s2 st2 => h C H' f' hm (s1.trans s2 fun _ => Nat.le_refl _) st2
            | ok u Γ2 => simp only [q2] at h; exact fun v H' f' s2 st2 => h v H' f' (s1.trans s2 fun _ => Nat.le_refl _) st2
        | false =>
          simp only [q1] at h
          exact h (.bl false) H1 f1 s1 (st1.drop.new (New.bool false))
theorem or_ok {a b : CE} (h : tE R (.or_ a b) σ H Q) : tOrV (tE R a) (tE R b) σ H Q := by
  obtain ⟨Γ, f, pr, st, h⟩ := h
  refine ⟨Γ, f, pr, st, ?_⟩
  simp only [ev] at h
  cases q : ev R.F a Γ with
  | none => simp only [q] at h
  | some r =>
    cases r with
    | ex y Γ1 => simp only [q] at h; exact h
    | ok t Γ1 =>
      simp only [q] at h
      intro v H1 f1 s1 st1
      cases q1 : asBool t with
      | none => simp only [q1] at h
      | some k =>
        have et := asBool_bT q1
        subst et
        obtain ⟨_, _, _, ga0, _, hg0, _⟩ := id st1
        refine ⟨k, bT_val hg0, ?_⟩
        cases k with
        | false =>
          simp only [q1] at h
          refine ⟨Γ1, f1, pr, st1.drop, ?_⟩
          cases q2 : ev R.F b Γ1 with
          | none => simp only [q2] at h
          | some r2 =>
            cases r2 with
            | ex y Γ2 => simp only [q2] at h; exact fun C H' f' hm s2 st2 => h C H' f' hm (s1.trans s2 fun _ => Nat.le_refl _) st2
            | ok u Γ2 => simp only [q2] at h; exact fun v H' f' s2 st2 => h v H' f' (s1.trans s2 fun _ => Nat.le_refl _) st2
        | true =>
          simp only [q1] at h
          exact h (.bl true) H1 f1 s1 (st1.drop.new (New.bool true))
theorem not_ok {K : PySem.W.Frag} (hK : K = R.K) {a : CE} (h : tE R (.not_ a) σ H Q) : tNotT K (tE R a) σ H Q := by
  subst hK
  obtain ⟨Γ, f, pr, st, h⟩ := h
  refine ⟨Γ, f, pr, st, ?_⟩
  simp only [ev] at h
  cases q : ev R.F a Γ with
  | none => simp only [q] at h
  | some r =>
    cases r with
    | ex y Γ1 => simp only [q] at h; exact h
    | ok t Γ1 =>
      simp only [q] at h
      intro v H1 f1 s1 st1
      cases q1 : truth t with
      | none => simp only [q1, Option.map_none] at h
      | some k =>
        simp only [q1, Option.map_some] at h
        obtain ⟨_, _, _, ga0, _, hg0, _⟩ := id st1
        exact ⟨k, truth_rep ⟨ga0, hg0⟩ q1, h _ H1 f1 s1 (st1.drop.new (New.bool _))⟩
theorem ife_ok {c : CT} {a b : CE} (h : tE R (.ife c a b) σ H Q) : tIf (tT R c) (tE R a) (tE R b) σ H Q := by
  obtain ⟨Γ, f, pr, st, h⟩ := h
  refine ⟨Γ, f, pr, st, ?_⟩
  simp only [ev] at h
  cases q : evT R.F c Γ with
  | none => simp only [q] at h
  | some r =>
    cases r with
    | ex y Γ1 => simp only [q] at h; exact h
    | ok k Γ1 =>
      intro H1 f1 s1 st1
      have go : ∀ d : CE, (match ev R.F d Γ1 with
          | some (.ok t Γ') => ∀ v H' f', Stp H f pr H' f' → St1 R.K Γ' σ H' f' pr v t → Q v H'
          | some (.ex x Γ') => ∀ C H' f', R.mg x = some (.ref C) → Stp H f pr H' f' → St0 R.K Γ' σ H' f' pr → R.W (.ref C) none σ H'
          | none => False) → tE R d σ H1 Q := by
        intro d h
        refine ⟨Γ1, f1, pr, st1, ?_⟩
        cases q2 : ev R.F d Γ1 with
        | none => simp only [q2] at h
        | some r2 =>
          cases r2 with
          | ex y Γ2 => simp only [q2] at h; exact fun C H' f' hm s2 st2 => h C H' f' hm (s1.trans s2 fun _ => Nat.le_refl _) st2
          | ok u Γ2 => simp only [q2] at h; exact fun v H' f' s2 st2 => h v H' f' (s1.trans s2 fun _ => Nat.le_refl _) st2
      cases k with
      | true => simp only [q] at h; exact go a h
      | false => simp only [q] at h; exact go b h
theorem flat_dr {K : PySem.W.Frag} {H H' : Hp} {d : PyData} {v : V} (h : Dp K H v d) (fd : flatD d = true) : Dr K H' d v := by
  cases d <;> first | (unfold flatD at fd; cases fd; done) | (cases h; unfold Dr; rfl)
theorem flat_nd {d : PyData} (fd : flatD d = true) : noDict d = true := by
  cases d <;> first | (unfold flatD at fd; cases fd; done) | rfl
theorem chain_ok {K : PySem.W.Frag} (hK : K = R.K) {o1 o2 : CmpOp} {a b : CA} {c : CE} (h : tE R (.chain o1 o2 [a, b] c) σ H Q) : tChain (rCmp K o1) (rCmp K o2) (tA R a) (tA R b) (tE R c) σ H Q := by
  subst hK
  unfold tChain
  refine tA.mono (as2 (Q := fun vs H2 => ∀ x y, vs = [x, y] → rCmp R.K o1 x y H2 fun z H3 => ∃ k, z = .bl k ∧ (if k = true then tE R c σ H3 fun w' H4 => rCmp R.K o2 y w' H4 Q else Q (.bl false) H3)) ?_) fun x H1 q => tA.mono q fun y H2 q => q x y rfl
  obtain ⟨Γ, f, pr, st, h⟩ := h
  refine ⟨Γ, f, pr, st, ?_⟩
  simp only [ev] at h
  cases q : evAs R.F [a, b] Γ with
  | none => simp only [q] at h
  | some r =>
    cases r with
    | ex y Γ1 => simp only [q] at h; exact h
    | ok avs Γ1 =>
      simp only [q] at h
      intro vs H1 f1 s1 st1 x y hxy
      subst hxy
      obtain ⟨_, _, g, ga0, hs, hg0, _⟩ := id st1
      cases qr : resolves Γ1 avs with
      | none => simp only [qr] at h
      | some ts =>
        have rw2 := resolves_rep hs hg0 qr
        obtain ⟨ta, tb, rfl, ra, rb⟩ : ∃ ta tb, ts = [ta, tb] ∧ RepW R.K H1 f1 ta x ∧ RepW R.K H1 f1 tb y := by
          cases ts with
          | nil => unfold RepWs at rw2; cases rw2
          | cons ta ts =>
            obtain ⟨v, w, h0, r1, r2⟩ := rw2
            cases h0
            cases ts with
            | nil => unfold RepWs at r2; cases r2
            | cons tb ts =>
              obtain ⟨v, w, h0, r3, r4⟩ := r2
              cases h0
              cases ts with
              | nil => exact ⟨ta, tb, rfl, r1, r3⟩
              | cons c ts => obtain ⟨v, w, h0, _⟩ := r4; cases h0
        simp only [qr] at h
        cases qc : cmpEv o1 ta tb with
        | none => simp only [qc] at h
        | some k =>
          refine cmp_ok ra rb qc ⟨k, rfl, ?_⟩
          cases k with
          | false =>
            simp only [qc] at h
            exact h (.bl false) H1 f1 s1 (st1.drop.new (New.bool false))
          | true =>
            simp only [qc] at h
            cases qs : see tb with
            | none => simp only [qs] at h
            | some db =>
              simp only [qs] at h
              by_cases fd : flatD db = true
              · simp only [fd, if_true] at h
                have dp := see_dp rb qs (flat_nd fd)
                refine ⟨Γ1, f1, pr, st1.drop, ?_⟩
                cases q2 : ev R.F c Γ1 with
                | none => simp only [q2] at h
                | some r2 =>
                  cases r2 with
                  | ex z Γ2 => simp only [q2] at h; exact fun C H' f' hm s2 st2 => h C H' f' hm (s1.trans s2 fun _ => Nat.le_refl _) st2
                  | ok tc Γ2 =>
                    simp only [q2] at h
                    intro w H4 f4 s2 st2
                    cases q3 : cmpEv o2 (.c db) tc with
                    | none => simp only [q3, Option.map_none] at h
                    | some k2 =>
                      simp only [q3, Option.map_some] at h
                      obtain ⟨_, _, _, gc, _, hgc, _⟩ := id st2
                      exact cmp_ok ⟨fun _ => 0, by unfold Rep; exact flat_dr dp fd⟩ ⟨gc, hgc⟩ q3 (h (.bl k2) H4 f4 (s1.trans s2 fun _ => Nat.le_refl _) (st2.drop.new (New.bool k2)))
              · simp only [fd] at h
                exact h.elim
end
end Hw
set_option Elab.async false
set_option linter.all false
set_option maxRecDepth 100000
set_option maxHeartbeats 1000000
/-! calls -/
namespace Hw
open PySem PySem.Spec PyProof.Rows L2
theorem argsOf_set {Γ : List Tr} {i : Nat} {x : Tr} : ∀ {avs : List AV}, i ∉ slotsOf avs → argsOf (Γ.set i x) avs = argsOf Γ avs
  | [], _ => rfl
  | .tmp t :: avs, h => by
    unfold slotsOf at h
    unfold argsOf
    rw [argsOf_set h]; rfl
  | .pk j :: avs, h => by
    unfold slotsOf at h
    simp only [List.mem_cons, not_or] at h
    simp only [argsOf, argOf]
    rw [argsOf_set h.2, List.getElem?_set_ne h.1]
  | .io j :: avs, h => by
    unfold slotsOf at h
    simp only [List.mem_cons, not_or] at h
    simp only [argsOf, argOf]
    rw [argsOf_set h.2, List.getElem?_set_ne h.1]
theorem lost_set {i : Nat} {x : Tr} : ∀ {avs : List AV} {Γ : List Tr}, i ∉ slotsOf avs → lost (Γ.set i x) avs = (lost Γ avs).set i x
  | [], _, _ => rfl
  | .tmp t :: avs, Γ, h => by unfold slotsOf at h; exact lost_set (avs := avs) h
  | .pk j :: avs, Γ, h => by
    unfold slotsOf at h
    simp only [List.mem_cons, not_or] at h
    exact lost_set (avs := avs) h.2
  | .io j :: avs, Γ, h => by
    unfold slotsOf at h
    simp only [List.mem_cons, not_or] at h
    show lost ((Γ.set i x).set j .gone) avs = (lost (Γ.set j .gone) avs).set i x
    rw [List.set_comm _ _ h.1]
    exact lost_set h.2
theorem lost_length : ∀ {avs : List AV} {Γ : List Tr}, (lost Γ avs).length = Γ.length
  | [], _ => rfl
  | .tmp t :: avs, Γ => lost_length (avs := avs)
  | .pk j :: avs, Γ => lost_length (avs := avs)
  | .io j :: avs, Γ => by show (lost (Γ.set j .gone) avs).length = _; rw [lost_length, List.length_set]
section
variable {K : PySem.W.Frag} {H H' : Hp} {f f' pr : Fp} {σ : Sig}
theorem settle_rep {t t' : Tr} {v : V} {g fs : Fp} (e : settle t = some t') (r : Rep K H f t v g) (l : ∀ a, fs a ≤ f a) (d : ∀ a, g a + fs a ≤ 1) : Rep K H fs t' v (fun _ => 0) := by
  unfold settle at e
  split at e
  · cases e
    have := r.lef l
    unfold Rep at this ⊢
    exact this
  · obtain ⟨d', e1, rfl⟩ := Option.map_eq_some_iff.mp e
    unfold Rep
    exact r.frz l e1 d
theorem lend : ∀ {avs : List AV} {Γ : List Tr} {vs : List V} {ts : List Tr} {g ga : Fp}, RepS K H f Γ σ g → RepA K H f σ avs vs ga → argsOf Γ avs = some ts → hasPk avs = false → (slotsOf avs).Nodup →
    ∃ gd g0 gio : Fp, (∀ a, g0 a + gio a + gd a ≤ g a + ga a) ∧ RepS K H f (lost Γ avs) σ g0 ∧ ∀ fs : Fp, (∀ a, fs a ≤ f a) → (∀ a, gd a + fs a ≤ 1) → RepL K H fs ts vs gio
  | [], Γ, vs, ts, g, ga, hs, ha, e, _, _ => by
    unfold argsOf at e; cases e
    unfold RepA at ha
    exact ⟨fun _ => 0, g, fun _ => 0, fun a => by show g a + 0 + 0 ≤ _; omega, hs, fun fs _ _ => by unfold RepL; exact ha⟩
  | .pk i :: avs, _, _, _, _, _, _, _, _, p, _ => by unfold hasPk at p; cases p
  | .tmp t :: avs, Γ, vs, ts, g, ga, hs, ha, e, p, nd => by
    unfold hasPk at p
    unfold slotsOf at nd
    unfold argsOf at e
    split at e <;> first | (cases e; done) | skip
    rename_i t' ts' e1 e2
    cases e
    obtain ⟨v, r, g1, g2, rfl, h1, h2, h3⟩ := ha
    obtain ⟨gd, g0, gio, hb, hl, hr⟩ := lend hs h2 e2 p nd
    refine ⟨padd g1 gd, g0, gio, fun a => by have := hb a; have := h3 a; simp only [padd_at]; omega, hl, fun fs l d => ?_⟩
    unfold RepL
    exact ⟨v, r, fun _ => 0, gio, rfl, settle_rep e1 h1 l fun a => by have := d a; rw [padd_at] at this; omega, hr fs l fun a => by have := d a; rw [padd_at] at this; omega, fun a => by show 0 + gio a ≤ _; omega⟩
  | .io i :: avs, Γ, vs, ts, g, ga, hs, ha, e, p, nd => by
    unfold hasPk at p
    unfold slotsOf at nd
    rw [List.nodup_cons] at nd
    unfold argsOf at e
    split at e <;> first | (cases e; done) | skip
    rename_i x ts' e1 e2
    cases e
    obtain ⟨v, r, rfl, ev, h2⟩ := ha
    have ex : Γ[i]? = some x ∧ x ≠ .gone := by
      simp only [argOf] at e1
      split at e1
      · cases e1
      · rename_i n
        exact ⟨e1, fun z => by subst z; exact n e1⟩
    obtain ⟨o, g1, g2, eo, ro, rs, hgl⟩ := hs.take ex.1
    obtain ⟨w, rfl, rx⟩ := ro.get ex.2
    rw [ev] at eo; cases eo
    obtain ⟨gd, g0, gio, hb, hl, hr⟩ := lend (ts := ts') rs h2 (by rw [argsOf_set nd.1]; exact e2) p nd.2
    refine ⟨gd, g0, padd g1 gio, fun a => by have := hb a; have := hgl a; simp only [padd_at]; omega, hl, fun fs l d => ?_⟩
    unfold RepL
    exact ⟨v, r, g1, gio, rfl, rx.lef l, hr fs l d, fun a => Nat.le_refl _⟩
def IoAt (σ : Sig) : List AV → List V → Prop
  | [], _ => True
  | .io i :: as, vs => ∃ v r, vs = v :: r ∧ σ[i]? = some (some v) ∧ IoAt σ as r
  | _ :: as, vs => ∃ v r, vs = v :: r ∧ IoAt σ as r
theorem RepA.io : ∀ {avs : List AV} {vs : List V} {g : Fp}, RepA K H f σ avs vs g → IoAt σ avs vs
  | [], _, _, _ => trivial
  | .tmp t :: avs, _, _, h => by obtain ⟨v, r, g1, g2, rfl, h1, h2, h3⟩ := h; exact ⟨v, r, rfl, RepA.io h2⟩
  | .pk t :: avs, _, _, h => by obtain ⟨v, r, rfl, h1, h2⟩ := h; exact ⟨v, r, rfl, RepA.io h2⟩
  | .io t :: avs, _, _, h => by obtain ⟨v, r, rfl, h1, h2⟩ := h; exact ⟨v, r, rfl, h1, RepA.io h2⟩
theorem give_back : ∀ {avs : List AV} {Γ : List Tr} {vs : List V} {os : List Tr} {g0 go : Fp}, RepS K H f (lost Γ avs) σ g0 → RepL K H f os vs go → IoAt σ avs vs → os.length = avs.length → (slotsOf avs).Nodup → (∀ i ∈ slotsOf avs, i < Γ.length) →
    RepS K H f (backs Γ avs os) σ (padd g0 go)
  | [], Γ, vs, os, g0, go, hs, hl, _, len, _, _ => by
    have : os = [] := List.eq_nil_of_length_eq_zero len
    subst this
    show RepS K H f Γ σ _
    exact hs.mono (le_padd _ _)
  | .tmp t :: avs, Γ, vs, [], _, _, _, _, _, len, _, _ => by cases len
  | .pk t :: avs, Γ, vs, [], _, _, _, _, _, len, _, _ => by cases len
  | .io t :: avs, Γ, vs, [], _, _, _, _, _, len, _, _ => by cases len
  | .tmp t :: avs, Γ, vs, o :: os, g0, go, hs, hl, io, len, nd, lt => by
    unfold slotsOf at nd lt
    unfold RepL at hl
    obtain ⟨v, r, g1, g2, rfl, h1, h2, h3⟩ := hl
    obtain ⟨v', r', e, io⟩ := io
    cases e
    exact (give_back (avs := avs) hs h2 io (by simpa using len) nd lt).mono fun a => by have := h3 a; simp only [padd_at]; omega
  | .pk i :: avs, Γ, vs, o :: os, g0, go, hs, hl, io, len, nd, lt => by
    unfold slotsOf at nd lt
    rw [List.nodup_cons] at nd
    unfold RepL at hl
    obtain ⟨v, r, g1, g2, rfl, h1, h2, h3⟩ := hl
    obtain ⟨v', r', e, io⟩ := io
    cases e
    exact (give_back (avs := avs) hs h2 io (by simpa using len) nd.2 fun j hj => lt j (List.mem_cons_of_mem _ hj)).mono fun a => by have := h3 a; simp only [padd_at]; omega
  | .io i :: avs, Γ, vs, o :: os, g0, go, hs, hl, io, len, nd, lt => by
    unfold slotsOf at nd lt
    rw [List.nodup_cons] at nd
    unfold RepL at hl
    obtain ⟨v, r, g1, g2, rfl, h1, h2, h3⟩ := hl
    obtain ⟨v', r', e, ev, io⟩ := io
    cases e
    have hs' : RepS K H f (lost (Γ.set i .gone) avs) σ g0 := hs
    have hi : i < Γ.length := lt i List.mem_cons_self
    have hg : (lost (Γ.set i .gone) avs)[i]? = some .gone := by
      rw [lost_set nd.1, List.getElem?_set_self (by rw [lost_length]; exact hi)]
    have put := RepS.put hs' hg ev (.mk h1)
    rw [lost_set nd.1, List.set_set, ← lost_set nd.1] at put
    show RepS K H f (backs (Γ.set i o) avs os) σ _
    exact (give_back (avs := avs) put h2 io (by simpa using len) nd.2 fun j hj => by rw [List.length_set]; exact lt j (List.mem_cons_of_mem _ hj)).mono fun a => by have := h3 a; simp only [padd_at]; omega
theorem args_lt {Γ : List Tr} : ∀ {avs : List AV} {ts : List Tr}, argsOf Γ avs = some ts → hasPk avs = false → ∀ i ∈ slotsOf avs, i < Γ.length
  | [], _, _, _, _, h => by unfold slotsOf at h; cases h
  | .tmp t :: avs, _, e, p, i, h => by
    unfold argsOf at e
    split at e <;> first | (cases e; done) | skip
    rename_i e2
    exact args_lt e2 (by unfold hasPk at p; exact p) i (by unfold slotsOf at h; exact h)
  | .pk j :: avs, _, e, p, _, _ => by unfold hasPk at p; cases p
  | .io j :: avs, _, e, p, i, h => by
    unfold argsOf at e
    split at e <;> first | (cases e; done) | skip
    rename_i x ts' e1 e2
    unfold slotsOf at h
    rcases List.mem_cons.mp h with rfl | h
    · simp only [argOf] at e1
      split at e1
      · cases e1
      · exact (List.getElem?_eq_some_iff.mp e1).1
    · exact args_lt e2 (by unfold hasPk at p; exact p) i h
end
section
variable {R : RC} {M : MC} {X : Cx} {σ : Sig} {H : Hp} {Q : VK}
theorem call_ok {x : Str} {as : List CA} {run : List Tr → Option FR} {n : Nat} (hf : R.F.fn x = some run) (hn : ∀ ts r, run ts = some r → ts.length = n) (h : tE R (.call x as) σ H Q) : tCallS (spF R.K R.mg n run) (WE R.W) (tAs R as) σ H Q := by
  obtain ⟨Γ, f, pr, st, h⟩ := h
  refine ⟨Γ, f, pr, st, ?_⟩
  simp only [ev, hf] at h
  cases q : evAs R.F as Γ with
  | none => simp only [q] at h
  | some r =>
    cases r with
    | ex y Γ1 => simp only [q] at h; exact h
    | ok avs Γ1 =>
      simp only [q] at h
      intro vs H1 f1 s1 st1
      by_cases nd : (slotsOf avs).Nodup
      · simp only [nd, if_true] at h
        cases q1 : argsOf Γ1 avs with
        | none => simp only [q1, Option.bind_none] at h
        | some ts =>
          simp only [q1, Option.bind_some] at h
          have al := st1.alc
          obtain ⟨h1, h2, g, ga, hs, hg, hl⟩ := id st1
          cases q2 : run ts with
          | none => simp only [q2] at h
          | some fr =>
            have len := hn ts fr q2
            cases fr with
            | ok t os =>
              simp only [q2] at h
              by_cases hc : hasPk avs = false ∧ os.length = avs.length
              · simp only [hc, and_self, if_true] at h
                obtain ⟨gd, g0, gio, hb, hlo, hr⟩ := lend hs hg q1 hc.1 nd
                have l : ∀ a, (fun a => f1 a - gd a) a ≤ f1 a := fun a => Nat.sub_le _ _
                have rl := hr (fun a => f1 a - gd a) l fun a => by have := hb a; have := hl a; have := h1 a; show gd a + (f1 a - gd a) ≤ 1; omega
                refine ⟨by rw [rl.length]; exact len, ts, fun a => f1 a - gd a, padd pr g0, gio, rl, fun a => Nat.le_trans (l a) (h1 a), fun a ha => al a (Nat.le_trans ha (l a)), fun a => by
                  have := hb a; have := hl a; rw [padd_at]; show gio a + (pr a + g0 a) ≤ f1 a - gd a; omega, ?_⟩
                rw [q2]
                intro v H' f' s2 l1 al' ⟨g', go, rv, ro, hbl⟩
                have s3 : Stp H1 f1 (padd pr g0) H' f' := (stp_less l).trans s2 fun _ => Nat.le_refl _
                refine h v H' f' (s1.trans s3 (le_padd _ _)) ⟨l1, al', _, g', give_back (hlo.stp s3 (le_padd' _ _)) ro hg.io hc.2 nd (args_lt q1 hc.1), rv, fun a => by have := hbl a; simp only [padd_at] at this ⊢; omega⟩
              · rw [if_neg hc] at h
                exact h.elim
            | ex y =>
              simp only [q2] at h
              by_cases hc : hasPk avs = false
              · simp only [hc, if_true] at h
                obtain ⟨gd, g0, gio, hb, hlo, hr⟩ := lend hs hg q1 hc nd
                have l : ∀ a, (fun a => f1 a - gd a) a ≤ f1 a := fun a => Nat.sub_le _ _
                have rl := hr (fun a => f1 a - gd a) l fun a => by have := hb a; have := hl a; have := h1 a; show gd a + (f1 a - gd a) ≤ 1; omega
                refine ⟨by rw [rl.length]; exact len, ts, fun a => f1 a - gd a, padd pr g0, gio, rl, fun a => Nat.le_trans (l a) (h1 a), fun a ha => al a (Nat.le_trans ha (l a)), fun a => by
                  have := hb a; have := hl a; rw [padd_at]; show gio a + (pr a + g0 a) ≤ f1 a - gd a; omega, ?_⟩
                rw [q2]
                intro C H' f' hm s2 l1 al' hp
                have s3 : Stp H1 f1 (padd pr g0) H' f' := (stp_less l).trans s2 fun _ => Nat.le_refl _
                exact h C H' f' hm (s1.trans s3 (le_padd _ _)) ⟨l1, al', g0, fun _ => 0, hlo.stp s3 (le_padd' _ _), trivial, fun a => by have := hp a; simp only [padd_at] at this; show 0 + (g0 a + pr a) ≤ f' a; omega⟩
              · rw [if_neg hc] at h
                exact h.elim
      · rw [if_neg nd] at h
        exact h.elim
end
end Hw
set_option Elab.async false
set_option linter.all false
set_option maxRecDepth 100000
set_option maxHeartbeats 1000000
/-! what is walked; targets; comprehensions -/
namespace Hw
open PySem PySem.Spec PyProof.Rows L2

/-! ### walks over data -/
def WalkD (K : PySem.W.Frag) (J : It) (ds : List PyData) (R0 : Hp) : Prop := ∀ i H f, Alc H f → Ext R0 (mn H f) →
  (∀ d, ds[i]? = some d → J.go i H ∧ ∀ x H', J.yld i H x H' → Ext H H' ∧ Dr K (mn H' f) d x) ∧ (ds.length ≤ i → J.stop i H)
section
variable {K : PySem.W.Frag} {R0 : Hp}
theorem SqL.of' {H : Hp} {a : Addr} {xs : List V} (h : H a = some (.lst xs)) : SqL K H a xs := SqL.of h
theorem walk_l {p : Addr} {xs : List V} {ds : List PyData} (h : SqL K R0 p xs) (d : DrL K R0 ds xs) : WalkD K (Itl K p) ds R0 := by
  intro i H f al e
  have hS : SqL K H p xs := (e.trans (mn_ext H f)).sql h
  refine ⟨fun d' hd => ?_, fun hl => ⟨xs, hS, by rw [d.length]; exact hl⟩⟩
  obtain ⟨v, hv, hr⟩ := d.get hd
  refine ⟨⟨xs, v, hS, hv⟩, fun x H' hy => ?_⟩
  obtain ⟨rfl, q⟩ := hy
  have := q xs hS
  rw [hv] at this; cases this
  exact ⟨Ext.refl _, Dr.ext e hr⟩
theorem walk_t {p : Addr} {xs : List V} {ds : List PyData} (h : R0 p = some (.tup xs)) (d : DrL K R0 ds xs) : WalkD K (Itt K p) ds R0 := by
  intro i H f al e
  have hS : SqT K H p xs := SqT.of (mn_ext H f _ _ (e _ _ h))
  refine ⟨fun d' hd => ?_, fun hl => ⟨xs, hS, by rw [d.length]; exact hl⟩⟩
  obtain ⟨v, hv, hr⟩ := d.get hd
  refine ⟨⟨xs, v, hS, hv⟩, fun x H' hy => ?_⟩
  obtain ⟨rfl, q⟩ := hy
  have := q xs hS
  rw [hv] at this; cases this
  exact ⟨Ext.refl _, Dr.ext e hr⟩
theorem rgD_length (a b : Int) : (rgD a b).length = (b - a).toNat := by unfold rgD; simp
theorem rgD_get {a b : Int} {i : Nat} {d : PyData} (h : (rgD a b)[i]? = some d) : i < (b - a).toNat ∧ d = .int (a + (i : Nat)) := by
  have hi : i < (rgD a b).length := (List.getElem?_eq_some_iff.mp h).1
  rw [rgD_length] at hi
  refine ⟨hi, ?_⟩
  unfold rgD at h
  rw [List.getElem?_map, List.getElem?_range hi] at h
  cases h; rfl
theorem walk_r {a b : Int} : WalkD K (Itr a (b - a).toNat) (rgD a b) R0 := by
  intro i H f al e
  refine ⟨fun d hd => ?_, fun hl => by rw [rgD_length] at hl; exact hl⟩
  obtain ⟨hi, rfl⟩ := rgD_get hd
  refine ⟨hi, fun x H' hy => ?_⟩
  obtain ⟨rfl, rfl⟩ := hy
  exact ⟨Ext.refl _, by unfold Dr; rfl⟩
theorem pair_dr {H : Hp} {f : Fp} {T : Addr} {x y : V} {c d : PyData} (n : H T = none) (al : Alc H f) (h1 : Dr K (mn H f) c x) (h2 : Dr K (mn H f) d y) : Dr K (mn (upd H T (.tup [x, y])) f) (.tuple [c, d]) (.ref T) := by
  have e := mn_new (o := .tup [x, y]) n al
  unfold Dr
  refine ⟨T, [x, y], rfl, mn_of (al.zero n) upd_same, ?_⟩
  unfold DrL
  refine ⟨x, [y], rfl, Dr.ext e h1, ?_⟩
  unfold DrL
  refine ⟨y, [], rfl, Dr.ext e h2, ?_⟩
  unfold DrL; rfl
def enmD (ds : List PyData) : List PyData := ds.zipIdx.map fun p => .tuple [.int (p.2 : Nat), p.1]
theorem enmD_get {ds : List PyData} {i : Nat} {d : PyData} (h : (enmD ds)[i]? = some d) : ∃ e, ds[i]? = some e ∧ d = .tuple [.int (i : Nat), e] := by
  unfold enmD at h
  rw [List.getElem?_map] at h
  obtain ⟨p, h1, rfl⟩ := Option.map_eq_some_iff.mp h
  rw [List.getElem?_zipIdx] at h1
  obtain ⟨e, h2, rfl⟩ := Option.map_eq_some_iff.mp h1
  exact ⟨e, h2, by simp⟩
theorem enmD_length (ds : List PyData) : (enmD ds).length = ds.length := by unfold enmD; simp
theorem walk_e {p : Addr} {xs : List V} {ds : List PyData} (h : SqL K R0 p xs) (d : DrL K R0 ds xs) : WalkD K (Ite K p) (enmD ds) R0 := by
  intro i H f al e
  have hS : SqL K H p xs := (e.trans (mn_ext H f)).sql h
  refine ⟨fun d' hd => ?_, fun hl => ⟨xs, hS, by rw [d.length]; rw [enmD_length] at hl; exact hl⟩⟩
  obtain ⟨c, hc, rfl⟩ := enmD_get hd
  obtain ⟨v, hv, hr⟩ := d.get hc
  refine ⟨⟨xs, v, hS, hv⟩, fun x H' hy => ?_⟩
  obtain ⟨T, y, rfl, hT, rfl, q⟩ := hy
  have := q xs hS
  rw [hv] at this; cases this
  exact ⟨Ext.new hT, pair_dr hT al (by unfold Dr; rfl) (Dr.ext e hr)⟩
def zipD (ds es : List PyData) : List PyData := (ds.zip es).map fun p => .tuple [p.1, p.2]
theorem zipD_get {ds es : List PyData} {i : Nat} {d : PyData} (h : (zipD ds es)[i]? = some d) : ∃ a b, ds[i]? = some a ∧ es[i]? = some b ∧ d = .tuple [a, b] := by
  unfold zipD at h
  rw [List.getElem?_map] at h
  obtain ⟨p, h1, rfl⟩ := Option.map_eq_some_iff.mp h
  obtain ⟨h2, h3⟩ := List.getElem?_zip_eq_some.mp h1
  exact ⟨p.1, p.2, h2, h3, rfl⟩
theorem zipD_length (ds es : List PyData) : (zipD ds es).length = min ds.length es.length := by unfold zipD; simp
theorem walk_zl {p q : Addr} {xs ys : List V} {ds es : List PyData} (h : SqL K R0 p xs) (h' : SqL K R0 q ys) (d : DrL K R0 ds xs) (d2 : DrL K R0 es ys) : WalkD K (Itz K p q) (zipD ds es) R0 := by
  intro i H f al e
  have hS : SqL K H p xs := (e.trans (mn_ext H f)).sql h
  have hS' : SqL K H q ys := (e.trans (mn_ext H f)).sql h'
  refine ⟨fun d' hd => ?_, fun hl => ⟨xs, ys, hS, hS', by rw [d.length, d2.length]; rw [zipD_length] at hl; omega⟩⟩
  obtain ⟨a, b, ha, hb, rfl⟩ := zipD_get hd
  obtain ⟨v, hv, hr⟩ := d.get ha
  obtain ⟨v2, hv2, hr2⟩ := d2.get hb
  refine ⟨⟨xs, ys, v, v2, hS, hS', hv, hv2⟩, fun x H' hy => ?_⟩
  obtain ⟨T, y, z, rfl, hT, rfl, q1, q2⟩ := hy
  have := q1 xs hS
  rw [hv] at this; cases this
  have := q2 ys hS'
  rw [hv2] at this; cases this
  exact ⟨Ext.new hT, pair_dr hT al (Dr.ext e hr) (Dr.ext e hr2)⟩
theorem walk_zt {p q : Addr} {xs ys : List V} {ds es : List PyData} (h : R0 p = some (.tup xs)) (h' : R0 q = some (.tup ys)) (d : DrL K R0 ds xs) (d2 : DrL K R0 es ys) : WalkD K (RZ.ItzT K p q) (zipD ds es) R0 := by
  intro i H f al e
  have hS : SqT K H p xs := SqT.of (mn_ext H f _ _ (e _ _ h))
  have hS' : SqT K H q ys := SqT.of (mn_ext H f _ _ (e _ _ h'))
  refine ⟨fun d' hd => ?_, fun hl => ⟨xs, ys, hS, hS', by rw [d.length, d2.length]; rw [zipD_length] at hl; omega⟩⟩
  obtain ⟨a, b, ha, hb, rfl⟩ := zipD_get hd
  obtain ⟨v, hv, hr⟩ := d.get ha
  obtain ⟨v2, hv2, hr2⟩ := d2.get hb
  refine ⟨⟨xs, ys, v, v2, hS, hS', hv, hv2⟩, fun x H' hy => ?_⟩
  obtain ⟨T, y, z, rfl, hT, rfl, q1, q2⟩ := hy
  have := q1 xs hS
  rw [hv] at this; cases this
  have := q2 ys hS'
  rw [hv2] at this; cases this
  exact ⟨Ext.new hT, pair_dr hT al (Dr.ext e hr) (Dr.ext e hr2)⟩
end

/-! ### the state, a little more -/
section
variable {K : PySem.W.Frag} {Γ Γ' : List Tr} {σ σ' : Sig} {H H' : Hp} {f f' pr : Fp}
theorem St0.grow (st : St0 K Γ σ H f pr) (e : Ext H H') : St0 K Γ σ H' f pr ∧ ∀ pr, Stp H f pr H' f := by
  obtain ⟨h1, h2, g, ga, hs, _, hl⟩ := st
  have s : ∀ pr, Stp H f pr H' f := fun pr => ⟨fun a o h h0 => ⟨e a o h, h0⟩, fun a o _ h => e a o h⟩
  exact ⟨⟨h1, fun a ha => let ⟨o, ho⟩ := h2 a ha; ⟨o, e a o ho⟩, g, fun _ => 0, hs.stp (s g) (fun _ => Nat.le_refl _), trivial, fun a => by have := hl a; show 0 + (g a + pr a) ≤ f a; omega⟩, s⟩
theorem RepS.agree : ∀ {Γ : List Tr} {σ σ' : Sig} {g : Fp}, RepS K H f Γ σ g → σ'.length = σ.length → (∀ (j : Nat) (x : Tr), Γ[j]? = some x → x ≠ Tr.gone → σ'[j]? = σ[j]?) → RepS K H f Γ σ' g
  | [], _, _, _, h, l, _ => by unfold RepS at h; subst h; unfold RepS; exact List.eq_nil_of_length_eq_zero l
  | x :: Γ, _, [], _, h, l, _ => by obtain ⟨o, r, g1, g2, rfl, _⟩ := h; cases l
  | x :: Γ, _, o' :: σ', _, h, l, q => by
    obtain ⟨o, r, g1, g2, rfl, h1, h2, h3⟩ := h
    refine ⟨o', σ', g1, g2, rfl, ?_, RepS.agree h2 (by simpa using l) fun j y e n => by simpa using q (j + 1) y (by simpa using e) n, h3⟩
    by_cases n : x = .gone
    · subst n; trivial
    · have := q 0 x rfl n
      simp only [List.getElem?_cons_zero, Option.some.injEq] at this
      rw [this]; exact h1
theorem wipeT_length (Γ : List Tr) : ∀ own : List Nat, (wipeT Γ own).length = Γ.length
  | [] => rfl
  | i :: is => by unfold wipeT; rw [List.length_set, wipeT_length Γ is]
theorem wipeT_out {Γ : List Tr} {j : Nat} : ∀ {own : List Nat}, j ∉ own → (wipeT Γ own)[j]? = Γ[j]?
  | [], _ => rfl
  | i :: is, h => by
    simp only [List.mem_cons, not_or] at h
    unfold wipeT
    rw [List.getElem?_set_ne (Ne.symm h.1)]
    exact wipeT_out h.2
theorem wipeT_in {Γ : List Tr} {j : Nat} {x : Tr} : ∀ {own : List Nat}, j ∈ own → (wipeT Γ own)[j]? = some x → x = .gone
  | i :: is, h, e => by
    unfold wipeT at e
    by_cases hi : i = j
    · subst hi
      have hl : i < ((wipeT Γ is).set i .gone).length := (List.getElem?_eq_some_iff.mp e).1
      rw [List.getElem?_set_self (by simpa using hl)] at e
      cases e; rfl
    · rw [List.getElem?_set_ne hi] at e
      rcases List.mem_cons.mp h with z | h
      · exact absurd z.symm hi
      · exact wipeT_in h e
theorem RepS.drop {i : Nat} (h : RepS K H f Γ σ g) : RepS K H f (Γ.set i .gone) σ g := by
  cases e : Γ[i]? with
  | none =>
    have : Γ.set i .gone = Γ := List.set_eq_of_length_le (List.getElem?_eq_none_iff.mp e)
    rw [this]; exact h
  | some x =>
    obtain ⟨o, g1, g2, _, _, h3, h4⟩ := h.take e
    exact h3.mono fun a => by have := h4 a; omega
theorem RepS.wipeT (h : RepS K H f Γ σ g) : ∀ own : List Nat, RepS K H f (Hw.wipeT Γ own) σ g
  | [] => h
  | i :: is => by unfold Hw.wipeT; exact (RepS.wipeT h is).drop
theorem wipe_len (σ : Sig) (own : List Nat) : (wipe σ own).length = σ.length := wipe_length σ own
theorem wipe_at {σ : Sig} {j : Nat} : ∀ {own : List Nat}, j ∈ own → (wipe σ own)[j]? = if j < σ.length then some none else none
  | i :: is, h => by
    unfold wipe
    by_cases hi : i = j
    · subst hi
      by_cases hl : i < σ.length
      · rw [if_pos hl, List.getElem?_set_self (by rw [wipe_len]; exact hl)]
      · rw [if_neg hl]
        exact List.getElem?_eq_none (by rw [List.length_set, wipe_len]; omega)
    · rw [List.getElem?_set_ne hi]
      rcases List.mem_cons.mp h with z | h
      · exact absurd z.symm hi
      · exact wipe_at h
theorem wipe_out' {σ : Sig} {j : Nat} {own : List Nat} (h : j ∉ own) : (wipe σ own)[j]? = σ[j]? := wipe_out h
theorem wipe_eq {own : List Nat} (l : σ'.length = σ.length) (q : ∀ j, j ∉ own → σ'[j]? = σ[j]?) : wipe σ' own = wipe σ own := by
  refine List.ext_getElem? fun j => ?_
  by_cases h : j ∈ own
  · rw [wipe_at h, wipe_at h, l]
  · rw [wipe_out' h, wipe_out' h, q j h]
/-- slots that are wiped may hold anything -/
theorem RepS.own {own : List Nat} {g : Fp} (h : RepS K H f (Hw.wipeT Γ own) σ g) (l : σ'.length = σ.length) (q : ∀ j, j ∉ own → σ'[j]? = σ[j]?) : RepS K H f (Hw.wipeT Γ own) σ' g :=
  h.agree l fun j x e n => by
    by_cases hj : j ∈ own
    · exact absurd (wipeT_in hj e) n
    · exact q j hj
end

/-! ### targets -/
def gNames : List Nat → TGs
  | [] => gNil
  | i :: is => gCons (gName i) (gNames is)
def gTg (K : PySem.W.Frag) : CTg → TG
  | .nm i => gName i
  | .tp is => gTup K is.length (gNames is)
section
variable {K : PySem.W.Frag} {Γ Γ1 : List Tr} {σ : Sig} {H : Hp} {f pr : Fp}
theorem St0.store {d : PyData} {x : V} {i : Nat} (st : St0 K Γ σ H f pr) (dx : Dr K (mn H f) d x) : St0 K (Γ.set i (.c d)) (σ.set i (some x)) H f pr := by
  obtain ⟨h1, h2, g, ga, hs, _, hl⟩ := st
  refine ⟨h1, h2, _, fun _ => 0, RepS.store (g' := fun _ => 0) hs (.mk (by unfold Rep; exact dx)), trivial, fun a => by have := hl a; show 0 + (0 + g a + pr a) ≤ f a; omega⟩
theorem bindTp_ok : ∀ {is : List Nat} {ds : List PyData} {xs : List V} {Γ Γ1 : List Tr} {σ : Sig} {Q : Sig → Hp → Prop}, St0 K Γ σ H f pr → DrL K (mn H f) ds xs → bindTp Γ is ds = some Γ1 →
    (∀ σ1, St0 K Γ1 σ1 H f pr → σ1.length = σ.length → (∀ j, j ∉ is → σ1[j]? = σ[j]?) → Q σ1 H) → gNames is xs σ H Q
  | [], [], _, _, _, _, _, st, d, e, q => by
    unfold bindTp at e; cases e
    unfold DrL at d
    exact ⟨d, q _ st rfl fun _ _ => rfl⟩
  | [], _ :: _, _, _, _, _, _, _, _, e, _ => by unfold bindTp at e; cases e
  | _ :: _, [], _, _, _, _, _, _, _, e, _ => by unfold bindTp at e; cases e
  | i :: is, d :: ds, _, Γ, Γ1, σ, Q, st, hd, e, q => by
    unfold bindTp at e
    unfold DrL at hd
    obtain ⟨v, r, rfl, h1, h2⟩ := hd
    refine ⟨v, r, rfl, ?_⟩
    exact bindTp_ok (st.store h1) h2 e fun σ1 st1 l o => q σ1 st1 (by rw [l, List.length_set]) fun j hj => by
      simp only [List.mem_cons, not_or] at hj
      rw [o j hj.2, List.getElem?_set_ne (Ne.symm hj.1)]
theorem bind_ok {tg : CTg} {d : PyData} {x : V} {Q : Sig → Hp → Prop} (st : St0 K Γ σ H f pr) (dx : Dr K (mn H f) d x) (e : bindTg Γ tg d = some Γ1)
    (q : ∀ σ1, St0 K Γ1 σ1 H f pr → σ1.length = σ.length → (∀ j, j ∉ tg.slots → σ1[j]? = σ[j]?) → Q σ1 H) : gTg K tg x σ H Q := by
  cases tg with
  | nm i =>
    unfold bindTg at e; cases e
    exact q _ (st.store dx) (by rw [List.length_set]) fun j hj => by
      unfold CTg.slots at hj
      simp only [List.mem_singleton] at hj
      rw [List.getElem?_set_ne (Ne.symm hj)]
  | tp is =>
    cases d with
    | tuple ds =>
      simp only [bindTg] at e
      split at e
      · rename_i hl
        unfold Dr at dx
        obtain ⟨a, xs, rfl, h1, h2⟩ := dx
        exact ⟨a, xs, rfl, SqT.of (mn_ext _ _ _ _ h1), by rw [h2.length, hl], bindTp_ok st h2 e q⟩
      · cases e
    | none => unfold bindTg at e; cases e
    | bool b => unfold bindTg at e; cases e
    | int b => unfold bindTg at e; cases e
    | str b => unfold bindTg at e; cases e
    | list b => unfold bindTg at e; cases e
    | dict b => unfold bindTg at e; cases e
end
end Hw
set_option Elab.async false
set_option linter.all false
set_option maxRecDepth 100000
set_option maxHeartbeats 1000000
/-! what is walked, comprehensions: readings -/
namespace Hw
open PySem PySem.Spec PyProof.Rows L2
def tI (R : RC) (it : CIt) : TI := fun σ H RR => ∃ Γ f pr, St0 R.K Γ σ H f pr ∧ match evIt R.F it Γ with
  | some (.ok ds Γ') => ∀ J H' f', Stp H f pr H' f' → St0 R.K Γ' σ H' f' pr → WalkD R.K J ds (mn H' f') → RR J H'
  | some (.ex x Γ') => ∀ C H' f', R.mg x = some (.ref C) → Stp H f pr H' f' → St0 R.K Γ' σ H' f' pr → R.W (.ref C) none σ H'
  | none => False
def tC (R : RC) : List CT → TT
  | [] => tYes
  | c :: _ => tT R c
def RC.quiet (R : RC) : RC := { R with W := fun _ _ _ _ => False }
section
variable {R : RC} {σ : Sig} {H : Hp} {Q : VK} {RR : It → Hp → Prop}
theorem St1.settleS {K : PySem.W.Frag} {Γ : List Tr} {f pr : Fp} {v : V} {t : Tr} {d : PyData} (h : St1 K Γ σ H f pr v t) (e : frz t = some d) : ∃ f', (∀ pr, Stp H f pr H f') ∧ St0 K Γ σ H f' pr ∧ Dr K (mn H f') d v := by
  obtain ⟨f', s, st, dr⟩ := StA.settle h e
  exact ⟨f', fun pr => ⟨s.1, fun _ _ _ e => e⟩, st, dr⟩
theorem sq_read {K : PySem.W.Frag} (hK : K = R.K) {a : CE} (h : tI R (.sq a) σ H RR) : iList K (tE R a) σ H RR ∨ iTup K (tE R a) σ H RR := by
  subst hK
  obtain ⟨Γ, f, pr, st, h⟩ := h
  simp only [evIt] at h
  cases q : ev R.F a Γ with
  | none => simp only [q] at h
  | some r =>
    cases r with
    | ex y Γ1 => simp only [q] at h; exact .inl ⟨Γ, f, pr, st, by simp only [q]; exact h⟩
    | ok t Γ1 =>
      simp only [q] at h
      have lst : ∀ ds, frz t = some (.list ds) → (∀ J H' f', Stp H f pr H' f' → St0 R.K Γ1 σ H' f' pr → WalkD R.K J ds (mn H' f') → RR J H') → iList R.K (tE R a) σ H RR := by
        intro ds e h
        refine ⟨Γ, f, pr, st, ?_⟩
        simp only [q]
        intro v H1 f1 s1 st1
        obtain ⟨f2, s2, st2, dr⟩ := St1.settleS st1 e
        unfold Dr at dr
        obtain ⟨p, xs, rfl, h1, h2⟩ := dr
        exact ⟨p, rfl, ⟨xs, SqL.of (mn_ext _ _ _ _ h1)⟩, h _ H1 f2 (s1.trans (s2 pr) fun _ => Nat.le_refl _) st2 (walk_l (SqL.of h1) h2)⟩
      have tup : ∀ ds, frz t = some (.tuple ds) → (∀ J H' f', Stp H f pr H' f' → St0 R.K Γ1 σ H' f' pr → WalkD R.K J ds (mn H' f') → RR J H') → iTup R.K (tE R a) σ H RR := by
        intro ds e h
        refine ⟨Γ, f, pr, st, ?_⟩
        simp only [q]
        intro v H1 f1 s1 st1
        obtain ⟨f2, s2, st2, dr⟩ := St1.settleS st1 e
        unfold Dr at dr
        obtain ⟨p, xs, rfl, h1, h2⟩ := dr
        exact ⟨p, rfl, ⟨xs, SqT.of (mn_ext _ _ _ _ h1)⟩, h _ H1 f2 (s1.trans (s2 pr) fun _ => Nat.le_refl _) st2 (walk_t h1 h2)⟩
      have gen : ∀ (t' : Tr), t = t' → (match frz t' with
          | some (.list ds) => some (IR.ok ds Γ1) | some (.tuple ds) => some (.ok ds Γ1) | _ => none : Option IR) = (match frz t with
          | some (.list ds) => some (IR.ok ds Γ1) | some (.tuple ds) => some (.ok ds Γ1) | _ => none : Option IR) := fun t' e => by rw [e]
      have fin : (match (match frz t with
          | some (.list ds) => some (IR.ok ds Γ1) | some (.tuple ds) => some (.ok ds Γ1) | _ => none : Option IR) with
          | some (.ok ds Γ') => ∀ J H' f', Stp H f pr H' f' → St0 R.K Γ' σ H' f' pr → WalkD R.K J ds (mn H' f') → RR J H'
          | some (.ex x Γ') => ∀ C H' f', R.mg x = some (.ref C) → Stp H f pr H' f' → St0 R.K Γ' σ H' f' pr → R.W (.ref C) none σ H'
          | none => False) → iList R.K (tE R a) σ H RR ∨ iTup R.K (tE R a) σ H RR := by
        intro h
        cases e : frz t with
        | none => simp only [e] at h
        | some d =>
          cases d with
          | list ds => simp only [e] at h; exact .inl (lst ds e h)
          | tuple ds => simp only [e] at h; exact .inr (tup ds e h)
          | none => simp only [e] at h
          | bool b => simp only [e] at h
          | int b => simp only [e] at h
          | str b => simp only [e] at h
          | dict b => simp only [e] at h
      cases t with
      | s ns =>
        simp only at h
        refine .inl ⟨Γ, f, pr, st, ?_⟩
        simp only [q]
        intro v H1 f1 s1 st1
        obtain ⟨_, _, _, ga, _, hg, _⟩ := id st1
        unfold Rep at hg
        obtain ⟨p, rfl, hp⟩ := hg
        exact ⟨p, rfl, ⟨_, (mn_ext H1 f1).sql hp⟩, h _ H1 f1 s1 st1.drop (walk_l hp script_dr)⟩
      | c d => exact fin h
      | l xs => exact fin h
      | t xs => exact fin h
      | gone => exact fin h
theorem rng1_read {a : CE} (h : tI R (.rng1 a) σ H RR) : iRng1 (tCons (tE R a) tNil) σ H RR := by
  obtain ⟨Γ, f, pr, st, h⟩ := h
  simp only [evIt] at h
  refine ⟨Γ, f, pr, st, ?_⟩
  cases q : ev R.F a Γ with
  | none => simp only [q] at h
  | some r =>
    cases r with
    | ex y Γ1 => simp only [q] at h; exact h
    | ok t Γ1 =>
      simp only [q] at h
      intro v H1 f1 s1 st1
      cases q1 : asInt t with
      | none => simp only [q1, Option.bind_none] at h
      | some j =>
        simp only [q1, Option.bind_some] at h
        by_cases hb : -(2 ^ 62) ≤ j ∧ j < 2 ^ 62
        · rw [if_pos hb] at h
          obtain ⟨_, _, _, ga, _, hg, _⟩ := id st1
          have hv := asInt_rep ⟨ga, hg⟩ q1
          subst hv
          refine ⟨j, rfl, hb.1, hb.2, h _ H1 f1 s1 st1.drop ?_⟩
          have := walk_r (K := R.K) (R0 := mn H1 f1) (a := 0) (b := j)
          rw [Int.sub_zero] at this
          exact this
        · rw [if_neg hb] at h; exact h.elim
theorem pair_of {K : PySem.W.Frag} {f : Fp} {ts : List Tr} {x y : V} (h : RepWs K H f ts [x, y]) : ∃ ta tb, ts = [ta, tb] ∧ RepW K H f ta x ∧ RepW K H f tb y := by
  cases ts with
  | nil => unfold RepWs at h; cases h
  | cons ta ts =>
    obtain ⟨v, w, h0, r1, r2⟩ := h
    cases h0
    cases ts with
    | nil => unfold RepWs at r2; cases r2
    | cons tb ts =>
      obtain ⟨v, w, h0, r3, r4⟩ := r2
      cases h0
      cases ts with
      | nil => exact ⟨ta, tb, rfl, r1, r3⟩
      | cons c ts => obtain ⟨v, w, h0, _⟩ := r4; cases h0
theorem rng2_read {as : List CA} (h : tI R (.rng2 as) σ H RR) : iRng2 (tAs R as) σ H RR := by
  obtain ⟨Γ, f, pr, st, h⟩ := h
  simp only [evIt] at h
  refine ⟨Γ, f, pr, st, ?_⟩
  cases q : evAs R.F as Γ with
  | none => simp only [q] at h
  | some r =>
    cases r with
    | ex y Γ1 => simp only [q] at h; exact h
    | ok avs Γ1 =>
      simp only [q] at h
      intro vs H1 f1 s1 st1
      obtain ⟨_, _, g, ga, hs, hg, _⟩ := id st1
      cases qr : resolves Γ1 avs with
      | none => simp only [qr] at h
      | some ts =>
        have rw2 := resolves_rep hs hg qr
        simp only [qr] at h
        match ts, rw2, h with
        | [ta, tb], rw2, h =>
          obtain ⟨x, y, rfl, ra, rb⟩ := rw2.two
          simp only at h
          cases q1 : asInt ta with
          | none => simp only [q1, Option.bind_none] at h
          | some i =>
            cases q2 : asInt tb with
            | none => simp only [q1, q2, Option.bind_some, Option.bind_none] at h
            | some j =>
              simp only [q1, q2, Option.bind_some] at h
              by_cases hb : -(2 ^ 62) ≤ i ∧ i < 2 ^ 62 ∧ -(2 ^ 62) ≤ j ∧ j < 2 ^ 62
              · rw [if_pos hb] at h
                exact ⟨i, j, by rw [asInt_rep ra q1, asInt_rep rb q2], hb, h _ H1 f1 s1 st1.drop walk_r⟩
              · rw [if_neg hb] at h; exact h.elim
        | [], _, h => simp only at h
        | [_], _, h => simp only at h
        | _ :: _ :: _ :: _, _, h => simp only at h
theorem enm_read {K : PySem.W.Frag} (hK : K = R.K) {a : CE} (h : tI R (.enm a) σ H RR) : iEnum K (tCons (tE R a) tNil) σ H RR := by
  subst hK
  obtain ⟨Γ, f, pr, st, h⟩ := h
  simp only [evIt] at h
  refine ⟨Γ, f, pr, st, ?_⟩
  cases q : ev R.F a Γ with
  | none => simp only [q] at h
  | some r =>
    cases r with
    | ex y Γ1 => simp only [q] at h; exact h
    | ok t Γ1 =>
      simp only [q] at h
      intro v H1 f1 s1 st1
      cases e : frz t with
      | none => simp only [e] at h
      | some d =>
        obtain ⟨f2, s2, st2, dr⟩ := St1.settleS st1 e
        cases d with
        | list ds =>
          simp only [e] at h
          unfold Dr at dr
          obtain ⟨p, xs, rfl, h1, h2⟩ := dr
          exact ⟨p, xs, rfl, SqL.of (mn_ext _ _ _ _ h1), h _ H1 f2 (s1.trans (s2 pr) fun _ => Nat.le_refl _) st2 (walk_e (SqL.of h1) h2)⟩
        | tuple ds => simp only [e] at h
        | none => simp only [e] at h
        | bool b => simp only [e] at h
        | int b => simp only [e] at h
        | str b => simp only [e] at h
        | dict b => simp only [e] at h
theorem zip_read {K : PySem.W.Frag} (hK : K = R.K) {as : List CA} (h : tI R (.zip as) σ H RR) : RZ.iZipA K (tAs R as) σ H RR := by
  subst hK
  obtain ⟨Γ, f, pr, st, h⟩ := h
  simp only [evIt] at h
  refine ⟨Γ, f, pr, st, ?_⟩
  cases q : evAs R.F as Γ with
  | none => simp only [q] at h
  | some r =>
    cases r with
    | ex y Γ1 => simp only [q] at h; exact h
    | ok avs Γ1 =>
      simp only [q] at h
      intro vs H1 f1 s1 st1
      cases qr : tmps avs with
      | none => simp only [qr] at h
      | some ts =>
        simp only [qr] at h
        match ts, qr, h with
        | [], _, h => simp only at h
        | [_], _, h => simp only at h
        | _ :: _ :: _ :: _, _, h => simp only at h
        | [ta, tb], qr, h =>
          simp only at h
          obtain ⟨ga, hg, st1'⟩ := st1.out
          have rl := tmps_rep hg qr
          unfold RepL at rl
          obtain ⟨x, r1, g1, g2, rfl, ra, rl, hl1⟩ := rl
          unfold RepL at rl
          obtain ⟨y, r2, g3, g4, rfl, rb, rl, hl2⟩ := rl
          unfold RepL at rl
          subst rl
          have key : ∀ {d e : PyData}, frz ta = some d → frz tb = some e → ∃ f2, Stp H1 f1 pr H1 f2 ∧ St0 R.K Γ1 σ H1 f2 pr ∧ Dr R.K (mn H1 f2) d x ∧ Dr R.K (mn H1 f2) e y := by
            intro d e ea eb
            have t1 : St1 R.K Γ1 σ H1 f1 (padd pr g3) x ta := by
              obtain ⟨h1, h2, g, _, hs, _, hl⟩ := st1'
              exact ⟨h1, h2, g, g1, hs, ra, fun a => by have := hl a; have := hl1 a; have := hl2 a; simp only [padd_at] at *; omega⟩
            obtain ⟨f2, s2, st2, d1⟩ := St1.settleS t1 ea
            have t2 : St1 R.K Γ1 σ H1 f2 pr y tb := st2.inn fun gb _ => (rb.stp (s2 g3) fun _ => Nat.le_refl _).mono (le_padd _ _)
            obtain ⟨f3, s3, st3, d2⟩ := St1.settleS t2 eb
            exact ⟨f3, (s2 pr).trans (s3 pr) fun _ => Nat.le_refl _, st3, Dr.ext (s3 pr).ext d1, d2⟩
          cases ea : frz ta with
          | none => simp only [ea] at h
          | some d =>
            cases eb : frz tb with
            | none =>
              simp only [ea, eb] at h
            | some e =>
              obtain ⟨f2, s2, st2, d1, d2⟩ := key ea eb
              cases d <;> cases e <;> simp only [ea, eb] at h <;> first | (exact h.elim) | skip
              · unfold Dr at d1 d2
                obtain ⟨p, xs, rfl, h1, k1⟩ := d1
                obtain ⟨p2, ys, rfl, h2, k2⟩ := d2
                exact ⟨p, p2, xs, ys, rfl, .inl ⟨SqL.of (mn_ext _ _ _ _ h1), SqL.of (mn_ext _ _ _ _ h2), h _ H1 f2 (s1.trans s2 fun _ => Nat.le_refl _) st2 (walk_zl (SqL.of h1) (SqL.of h2) k1 k2)⟩⟩
              · unfold Dr at d1 d2
                obtain ⟨p, xs, rfl, h1, k1⟩ := d1
                obtain ⟨p2, ys, rfl, h2, k2⟩ := d2
                exact ⟨p, p2, xs, ys, rfl, .inr ⟨SqT.of (mn_ext _ _ _ _ h1), SqT.of (mn_ext _ _ _ _ h2), h _ H1 f2 (s1.trans s2 fun _ => Nat.le_refl _) st2 (walk_zt h1 h2 k1 k2)⟩⟩
end
end Hw
set_option Elab.async false
set_option linter.all false
set_option maxRecDepth 100000
set_option maxHeartbeats 1000000
/-! comprehensions, paths, pop, tests -/
namespace Hw
open PySem PySem.Spec PyProof.Rows L2
section
variable {R : RC} {σ : Sig} {H : Hp} {Q : VK}
/-- a list of ours, at D, is written -/
theorem stp_write {K : PySem.W.Frag} {f : Fp} {D : Addr} {o : HO} (hD : 1 ≤ f D) (g : Fp) (hg : g D = 0) : Stp H f g (upd H D o) f := by
  refine ⟨fun a u e e0 => ?_, fun a u e1 e => ?_⟩
  · have : a ≠ D := fun z => by subst z; omega
    exact ⟨by rw [upd_ne this]; exact e, e0⟩
  · have : a ≠ D := fun z => by subst z; omega
    rw [upd_ne this]; exact e
theorem RepL.append {K : PySem.W.Frag} {f : Fp} {t : Tr} {v : V} {g2 : Fp} : ∀ {ts : List Tr} {vs : List V} {g1 : Fp}, RepL K H f ts vs g1 → Rep K H f t v g2 → RepL K H f (ts ++ [t]) (vs ++ [v]) (padd g1 g2)
  | [], vs, g1, h, r => by
    unfold RepL at h; subst h
    show RepL K H f [t] [v] _
    unfold RepL
    refine ⟨v, [], g2, zfp, rfl, r, by unfold RepL; rfl, fun a => ?_⟩
    rw [padd_at]; show g2 a + 0 ≤ _; omega
  | x :: ts, vs, g1, h, r => by
    unfold RepL at h
    obtain ⟨w, r', h1, h2, rfl, k1, k2, k3⟩ := h
    show RepL K H f (x :: (ts ++ [t])) (w :: (r' ++ [v])) _
    unfold RepL
    refine ⟨w, _, h1, padd h2 g2, rfl, k1, RepL.append k2 r, fun a => ?_⟩
    have := k3 a
    simp only [padd_at]; omega
def EPost (R : RC) (σ : Sig) (H : Hp) (f pr : Fp) (Q : VK) : Option ER → Prop
  | some (.ok t Γ') => ∀ v H' f', Stp H f pr H' f' → St1 R.K Γ' σ H' f' pr v t → Q v H'
  | some (.ex x Γ') => ∀ C H' f', R.mg x = some (.ref C) → Stp H f pr H' f' → St0 R.K Γ' σ H' f' pr → R.W (.ref C) none σ H'
  | none => False
theorem tE_of {c : CE} {Γ : List Tr} {f pr : Fp} (st : St0 R.K Γ σ H f pr) (h : EPost R σ H f pr Q (ev R.F c Γ)) : tE R c σ H Q := by
  refine ⟨Γ, f, pr, st, ?_⟩
  cases q : ev R.F c Γ with
  | none => rw [q] at h; exact h
  | some r => cases r <;> (rw [q] at h; exact h)
theorem of_tE {c : CE} (h : tE R c σ H Q) : ∃ Γ f pr, St0 R.K Γ σ H f pr ∧ EPost R σ H f pr Q (ev R.F c Γ) := by
  obtain ⟨Γ, f, pr, st, h⟩ := h
  refine ⟨Γ, f, pr, st, ?_⟩
  cases q : ev R.F c Γ with
  | none => simp only [q] at h
  | some r => cases r <;> (simp only [q] at h; exact h)
theorem St0.wipeT {K : PySem.W.Frag} {Γ : List Tr} {f pr : Fp} (st : St0 K Γ σ H f pr) (own : List Nat) : St0 K (Hw.wipeT Γ own) σ H f pr := by
  obtain ⟨h1, h2, g, ga, hs, _, hl⟩ := st
  exact ⟨h1, h2, g, ga, hs.wipeT own, trivial, hl⟩
theorem St0.own {K : PySem.W.Frag} {Γ : List Tr} {f pr : Fp} {own : List Nat} {σ' : Sig} (st : St0 K (Hw.wipeT Γ own) σ H f pr) (l : σ'.length = σ.length) (q : ∀ j, j ∉ own → σ'[j]? = σ[j]?) : St0 K (Hw.wipeT Γ own) σ' H f pr := by
  obtain ⟨h1, h2, g, ga, hs, _, hl⟩ := st
  exact ⟨h1, h2, g, ga, hs.own l q, trivial, hl⟩
theorem lc_read {own : List Nat} {tg : CTg} {it : CIt} {cond : List CT} {elt : CE} (hsub : ∀ j ∈ tg.slots, j ∈ own) (h : tE R (.lc own tg it cond elt) σ H Q) :
    tLc (tI R it) (gTg R.K tg) (tC R.quiet cond) (tE R.quiet elt) own σ H Q := by
  obtain ⟨Γ, f, pr, st, h⟩ := of_tE h
  refine ⟨Γ, f, pr, st, ?_⟩
  simp only [ev] at h
  cases q : evIt R.F it Γ with
  | none => simp only [q] at h; exact h
  | some r =>
    cases r with
    | ex y Γ1 => simp only [q] at h; exact h
    | ok ds Γ1 =>
      simp only [q] at h
      intro J H1 f1 s1 st1 wk D hD
      have lay := StA.laid (p := D) (o := .lst []) (G' := fun ga => ∀ a, one D a ≤ ga a) st1 hD (one D) (fun a => Nat.le_refl _) (fun ga _ _ => le_padd' _ _)
      obtain ⟨ga0, hga0, st2⟩ := lay.1.out
      have st3 : St0 R.K (Hw.wipeT Γ1 own) σ (upd H1 D (.lst [])) (padd f1 (one D)) (padd (padd pr (one D)) zfp) :=
        (st2.wipeT own).less fun a => by have := hga0 a; simp only [padd_at]; show pr a + one D a + 0 ≤ _; omega
      refine ⟨fun i m Hc => m = ds.length - i ∧ i ≤ ds.length ∧ ∃ Γ0 fc acc accV ga, Stp H f pr Hc fc ∧ Ext (mn H1 f1) (mn Hc fc) ∧ St0 R.K (Hw.wipeT Γ0 own) σ Hc fc (padd (padd pr (one D)) ga) ∧ Hc D = some (.lst accV) ∧ RepL R.K Hc fc acc accV ga ∧
        EPost R σ H f pr Q (lcL (fun _ Γ => ev R.F elt Γ) (fun Γ => evC R.F cond Γ) own (fun Γ d => bindTg Γ tg d) (ds.drop i) (Hw.wipeT Γ0 own) acc),
        ⟨ds.length, by simp, Nat.zero_le _, Γ1, padd f1 (one D), [], [], zfp, s1.trans lay.2 (fun _ => Nat.le_refl _), lay.2.ext, st3, upd_same, by unfold RepL; rfl, by simpa using h⟩, ?_⟩
      rintro i m Hc ⟨rfl, hi, Γ0, fc, acc, accV, ga, sc, xc, stc, hDc, rl, hp⟩
      have W := wk i Hc fc stc.alc xc
      have fD : 1 ≤ fc D := by
        obtain ⟨_, _, g, _, _, _, hl⟩ := id stc
        have := hl D
        simp only [padd_at, one_self] at this
        omega
      by_cases hlt : i < ds.length
      · -- a turn
        right
        have hd : ds.drop i = ds[i] :: ds.drop (i + 1) := List.drop_eq_getElem_cons hlt
        rw [hd] at hp
        obtain ⟨go, yl⟩ := W.1 ds[i] (List.getElem?_eq_getElem hlt)
        refine ⟨go, fun H' => ∃ Γ0 fc acc accV ga, Stp H f pr H' fc ∧ Ext (mn H1 f1) (mn H' fc) ∧ St0 R.K (Hw.wipeT Γ0 own) σ H' fc (padd (padd pr (one D)) ga) ∧ H' D = some (.lst accV) ∧ RepL R.K H' fc acc accV ga ∧
          EPost R σ H f pr Q (lcL (fun _ Γ => ev R.F elt Γ) (fun Γ => evC R.F cond Γ) own (fun Γ d => bindTg Γ tg d) (ds.drop (i + 1)) (Hw.wipeT Γ0 own) acc),
          fun H' hN => ⟨ds.length - (i + 1), by omega, rfl, hlt, hN⟩, fun x H' hy => ?_⟩
        obtain ⟨xe, dx⟩ := yl x H' hy
        obtain ⟨stg, sg⟩ := stc.grow xe
        have stw : St0 R.K (Hw.wipeT Γ0 own) (wipe σ own) H' fc (padd (padd pr (one D)) ga) := stg.own (wipe_len σ own) fun j hj => wipe_out' hj
        simp only [lcL] at hp
        cases qb : bindTg (Hw.wipeT Γ0 own) tg ds[i] with
        | none => simp only [qb] at hp; exact hp.elim
        | some Γb =>
          simp only [qb] at hp
          refine bind_ok stw dx qb fun σ2 stb l2 o2 => ?_
          have ow : ∀ j, j ∉ own → σ2[j]? = σ[j]? := fun j hj => by rw [o2 j fun z => hj (hsub j z), wipe_out' hj]
          have lw : σ2.length = σ.length := by rw [l2, wipe_len]
          refine ⟨wipe_eq lw ow, ?_⟩
          -- back among the slots of the def
          have home : ∀ {Γ3 : List Tr} {H3 : Hp} {f3 p3 : Fp}, St0 R.K Γ3 σ2 H3 f3 p3 → St0 R.K (Hw.wipeT Γ3 own) σ H3 f3 p3 := fun st => (st.wipeT own).own lw.symm fun j hj => (ow j hj).symm
          have goOn : ∀ {Γ2 : List Tr} {b : Bool} {H3 : Hp} {f3 : Fp}, evC R.F cond Γb = some (.ok b Γ2) → Stp H' fc (padd (padd pr (one D)) ga) H3 f3 → St0 R.K Γ2 σ2 H3 f3 (padd (padd pr (one D)) ga) →
              if b = true then tE R.quiet elt σ2 H3 fun y H4 => ∃ acc, H4 D = some (.lst acc) ∧ acc.length < sizeLine ∧ (∃ Γ0 fc acc2 accV ga, Stp H f pr (upd H4 D (.lst (acc ++ [y]))) fc ∧ Ext (mn H1 f1) (mn (upd H4 D (.lst (acc ++ [y]))) fc) ∧ St0 R.K (Hw.wipeT Γ0 own) σ (upd H4 D (.lst (acc ++ [y]))) fc (padd (padd pr (one D)) ga) ∧ (upd H4 D (.lst (acc ++ [y]))) D = some (.lst accV) ∧ RepL R.K (upd H4 D (.lst (acc ++ [y]))) fc acc2 accV ga ∧
                EPost R σ H f pr Q (lcL (fun _ Γ => ev R.F elt Γ) (fun Γ => evC R.F cond Γ) own (fun Γ d => bindTg Γ tg d) (ds.drop (i + 1)) (Hw.wipeT Γ0 own) acc2))
              else ∃ Γ0 fc acc accV ga, Stp H f pr H3 fc ∧ Ext (mn H1 f1) (mn H3 fc) ∧ St0 R.K (Hw.wipeT Γ0 own) σ H3 fc (padd (padd pr (one D)) ga) ∧ H3 D = some (.lst accV) ∧ RepL R.K H3 fc acc accV ga ∧
                EPost R σ H f pr Q (lcL (fun _ Γ => ev R.F elt Γ) (fun Γ => evC R.F cond Γ) own (fun Γ d => bindTg Γ tg d) (ds.drop (i + 1)) (Hw.wipeT Γ0 own) acc) := by
            intro Γ2 b H3 f3 qc s3 st3
            have sAll : Stp Hc fc (padd (padd pr (one D)) ga) H3 f3 := (sg _).trans s3 fun _ => Nat.le_refl _
            have lpr : ∀ a, pr a ≤ padd (padd pr (one D)) ga a := fun a => by simp only [padd_at]; omega
            have lD : ∀ a, one D a ≤ padd (padd pr (one D)) ga a := fun a => by simp only [padd_at]; omega
            have lga : ∀ a, ga a ≤ padd (padd pr (one D)) ga a := fun a => by simp only [padd_at]; omega
            have hD3 : H3 D = some (.lst accV) := sAll.2 D _ (by have := lD D; rw [one_self] at this; exact this) hDc
            have rl3 := rl.stp sAll lga
            cases b with
            | false =>
              rw [if_neg Bool.false_ne_true]
              simp only [qc] at hp
              exact ⟨Γ2, f3, acc, accV, ga, sc.trans sAll lpr, xc.trans sAll.ext, home st3, hD3, rl3, hp⟩
            | true =>
              rw [if_pos rfl]
              simp only [qc] at hp
              refine tE_of (Γ := Γ2) (f := f3) (pr := padd (padd pr (one D)) ga) st3 ?_
              cases qe : ev R.F elt Γ2 with
              | none => simp only [qe] at hp; exact hp.elim
              | some r =>
                cases r with
                | ex z Γ3 => simp only [qe] at hp; exact hp.elim
                | ok t Γ3 =>
                  simp only [qe] at hp
                  have qe' : ev R.quiet.F elt Γ2 = some (.ok t Γ3) := qe
                  rw [qe']
                  intro y H4 f4 s4 st4
                  by_cases hlen : acc.length < sizeLine
                  · rw [if_pos hlen] at hp
                    have sB : Stp Hc fc (padd (padd pr (one D)) ga) H4 f4 := sAll.trans s4 fun _ => Nat.le_refl _
                    have hD4 : H4 D = some (.lst accV) := s4.2 D _ (by have := lD D; rw [one_self] at this; exact this) hD3
                    have rl4 := rl3.stp s4 lga
                    have st4' := st4
                    obtain ⟨gt, hgt, st5⟩ := st4'.out
                    have rt : Rep R.K H4 f4 t y gt := hgt
                    obtain ⟨h1, h2, g5, _, hs5, _, hl5⟩ := id st5
                    have total : ∀ a, g5 a + (pr a + one D a + ga a + gt a) ≤ f4 a := fun a => by have := hl5 a; simp only [padd_at] at this; omega
                    have fD4 : 1 ≤ f4 D := by have := total D; rw [one_self] at this; omega
                    have zD : g5 D = 0 ∧ ga D = 0 ∧ gt D = 0 := by have := total D; have := h1 D; rw [one_self] at *; omega
                    refine ⟨accV, hD4, by rw [rl4.length]; exact hlen, Γ3, f4, acc ++ [t], accV ++ [y], padd ga gt, ?_, ?_, ?_, upd_same, ?_, hp⟩
                    · have w1 : Stp H4 f4 zfp (upd H4 D (.lst (accV ++ [y]))) f4 := stp_write (K := R.K) fD4 zfp rfl
                      refine ⟨fun a o e e0 => ?_, fun a o e1 e => ?_⟩
                      · obtain ⟨k1, k2⟩ := (sc.trans sB lpr).1 a o e e0
                        exact w1.1 a o k1 k2
                      · have k1 := (sc.trans sB lpr).2 a o e1 e
                        have : a ≠ D := fun z => by subst z; have := total a; have := h1 a; rw [one_self] at *; omega
                        rw [upd_ne this]; exact k1
                    · exact (xc.trans sB.ext).trans (stp_write (K := R.K) (o := .lst (accV ++ [y])) fD4 zfp rfl).ext
                    · have hs6 := hs5.stp (stp_write (K := R.K) (o := .lst (accV ++ [y])) fD4 g5 zD.1) (fun _ => Nat.le_refl _)
                      refine home ⟨h1, fun a ha => ?_, g5, fun _ => 0, hs6, trivial, fun a => by have := total a; simp only [padd_at]; omega⟩
                      by_cases z : a = D
                      · subst z; exact ⟨_, upd_same⟩
                      · obtain ⟨o, ho⟩ := h2 a ha
                        exact ⟨o, by rw [upd_ne z]; exact ho⟩
                    · exact (rl4.stp (stp_write (K := R.K) (o := .lst (accV ++ [y])) fD4 ga zD.2.1) (fun _ => Nat.le_refl _)).append (rt.stp (stp_write (K := R.K) (o := .lst (accV ++ [y])) fD4 gt zD.2.2) (fun _ => Nat.le_refl _))
                  · rw [if_neg hlen] at hp; exact hp.elim
          cases cond with
          | nil => exact goOn rfl Stp.refl stb
          | cons c cs =>
            refine ⟨Γb, fc, padd (padd pr (one D)) ga, stb, ?_⟩
            have ec : evC R.F (c :: cs) Γb = evT R.F c Γb := by rw [evC]
            cases qt : evT R.F c Γb with
            | none => rw [ec, qt] at hp; exact hp.elim
            | some r =>
              cases r with
              | ex z Γ2 => rw [ec, qt] at hp; exact hp.elim
              | ok b Γ2 =>
                have qt' : evT R.quiet.F c Γb = some (.ok b Γ2) := qt
                rw [qt']
                exact fun H3 f3 s3 st3 => goOn (by rw [ec, qt]) s3 st3
      · -- the end
        left
        have e : i = ds.length := by omega
        subst e
        refine ⟨W.2 (Nat.le_refl _), ?_⟩
        rw [List.drop_length] at hp
        simp only [lcL] at hp
        refine hp (.ref D) Hc fc sc ?_
        obtain ⟨h1, h2, g, _, hs, _, hl⟩ := stc
        refine ⟨h1, h2, g, padd (one D) ga, hs, ?_, fun a => by have := hl a; simp only [padd_at] at *; omega⟩
        unfold Rep
        exact ⟨D, accV, ga, rfl, hDc, rl, fun a => by rw [padd_at]; exact Nat.le_refl _⟩
end
end Hw
set_option Elab.async false
set_option linter.all false
set_option maxRecDepth 100000
set_option maxHeartbeats 1000000
/-! paths, pop, tests -/
namespace Hw
open PySem PySem.Spec PyProof.Rows L2
section
variable {R : RC} {σ : Sig} {H : Hp} {Q : VK}
/-- x[e1][e2].. from a value on -/
def pthK (R : RC) : List CE → V → Sig → Hp → VK → Prop
  | [], x, _, H, Q => Q x H
  | e :: es, x, σ, H, Q => tE R e σ H fun y H1 => rIx R.K x y H1 fun z H2 => pthK R es z σ H2 Q
def tPth (R : RC) : TE → List CE → TE
  | t, [] => t
  | t, e :: es => tPth R (tOp (rIx R.K) t (tE R e)) es
theorem tPth_eq : ∀ {es : List CE} {t : TE}, tPth R t es σ H Q = t σ H fun x H1 => pthK R es x σ H1 Q
  | [], t => rfl
  | e :: es, t => by
    show tPth R (tOp (rIx R.K) t (tE R e)) es σ H Q = _
    rw [tPth_eq]; rfl
theorem EPost.after {Γ : List Tr} {f pr pr' : Fp} {H1 : Hp} {f1 : Fp} (s : Stp H f pr H1 f1) {r : Option ER} (h : EPost R σ H f pr Q r) : EPost R σ H1 f1 pr Q r := by
  cases r with
  | none => exact h
  | some r =>
    cases r with
    | ok t Γ' => exact fun v H' f' s2 st => h v H' f' (s.trans s2 fun _ => Nat.le_refl _) st
    | ex x Γ' => exact fun C H' f' hm s2 st => h C H' f' hm (s.trans s2 fun _ => Nat.le_refl _) st
/-- .. where more is protected meanwhile -/
theorem EPost.under {f pr pr' : Fp} (l : ∀ a, pr a ≤ pr' a) {r : Option ER} (h : EPost R σ H f pr Q r) : EPost R σ H f pr' Q r := by
  cases r with
  | none => exact h
  | some r =>
    cases r with
    | ok t Γ' => exact fun v H' f' s2 st => h v H' f' (s2.weak l) (st.less l)
    | ex x Γ' => exact fun C H' f' hm s2 st => h C H' f' hm (s2.weak l) (st.less l)
theorem kid_rep {K : PySem.W.Frag} {f : Fp} {d d' : PyData} {k : Int} {x : V} (h : Dr K (mn H f) d x) (e : kidD d k = some d') {Q : VK} (q : ∀ z, Dr K (mn H f) d' z → Q z H) : rIx K x (.int k) H Q := by
  cases d with
  | list ds =>
    unfold kidD at e
    unfold Dr at h
    obtain ⟨p, xs, rfl, h1, h2⟩ := h
    obtain ⟨v, e4, d2⟩ := atI_rep h2 e
    exact .inl ⟨p, xs, k, v, rfl, rfl, SqL.of (mn_ext _ _ _ _ h1), e4, q _ d2⟩
  | tuple ds =>
    unfold kidD at e
    unfold Dr at h
    obtain ⟨p, xs, rfl, h1, h2⟩ := h
    obtain ⟨v, e4, d2⟩ := atI_rep h2 e
    exact .inr (.inl ⟨p, xs, k, v, rfl, rfl, SqT.of (mn_ext _ _ _ _ h1), e4, q _ d2⟩)
  | none => unfold kidD at e; cases e
  | bool b => unfold kidD at e; cases e
  | int b => unfold kidD at e; cases e
  | str b => unfold kidD at e; cases e
  | dict b => unfold kidD at e; cases e
theorem RepL.get {K : PySem.W.Frag} {f : Fp} : ∀ {ts : List Tr} {vs : List V} {g : Fp} {i : Nat} {t : Tr}, RepL K H f ts vs g → ts[i]? = some t → ∃ v g', vs[i]? = some v ∧ Rep K H f t v g' ∧ ∀ a, g' a ≤ g a
  | [], _, _, _, _, _, e => by simp at e
  | x :: ts, _, _, 0, _, h, e => by
    unfold RepL at h
    obtain ⟨v, r, g1, g2, rfl, h1, h2, h3⟩ := h
    simp at e; subst e
    exact ⟨v, g1, rfl, h1, fun a => by have := h3 a; omega⟩
  | x :: ts, _, _, i + 1, _, h, e => by
    unfold RepL at h
    obtain ⟨v, r, g1, g2, rfl, h1, h2, h3⟩ := h
    obtain ⟨w, g', e1, r1, l1⟩ := RepL.get (i := i) h2 (by simpa using e)
    exact ⟨w, g', by simpa using e1, r1, fun a => by have := h3 a; have := l1 a; omega⟩
theorem atI_repL {K : PySem.W.Frag} {f : Fp} {ts : List Tr} {vs : List V} {g : Fp} {k : Int} {t : Tr} (h : RepL K H f ts vs g) (e : atI ts k = some t) : ∃ v g', atI vs k = some v ∧ Rep K H f t v g' ∧ ∀ a, g' a ≤ g a := by
  unfold atI at e ⊢
  rw [h.length]
  cases q : ixN ts.length k with
  | none => rw [q] at e; cases e
  | some j => rw [q] at e; exact h.get e
theorem kidT_rep {K : PySem.W.Frag} {f g : Fp} {t t' : Tr} {k : Int} {x : V} (h : Rep K H f t x g) (e : kidT t k = some t') {Q : VK} (q : ∀ z g', Rep K H f t' z g' → (∀ a, g' a ≤ g a) → Q z H) : rIx K x (.int k) H Q := by
  cases t with
  | l xs =>
    unfold kidT at e
    unfold Rep at h
    obtain ⟨p, vs, g0, rfl, hp, rl, l0⟩ := h
    obtain ⟨z, g', e1, rz, lz⟩ := atI_repL rl e
    exact .inl ⟨p, vs, k, z, rfl, rfl, SqL.of hp, e1, q z g' rz fun a => by have := l0 a; have := lz a; omega⟩
  | t xs =>
    unfold kidT at e
    unfold Rep at h
    obtain ⟨p, vs, rfl, hp, rl⟩ := h
    obtain ⟨z, g', e1, rz, lz⟩ := atI_repL rl e
    exact .inr (.inl ⟨p, vs, k, z, rfl, rfl, SqT.of (mn_ext _ _ _ _ hp), e1, q z g' rz lz⟩)
  | c d =>
    unfold kidT at e
    obtain ⟨d', e1, rfl⟩ := Option.map_eq_some_iff.mp e
    unfold Rep at h
    exact kid_rep h e1 fun z dz => q z (fun _ => 0) (by unfold Rep; exact dz) fun _ => Nat.zero_le _
  | s ns =>
    unfold kidT at e
    obtain ⟨n, e1, rfl⟩ := Option.map_eq_some_iff.mp e
    unfold Rep at h
    obtain ⟨p, rfl, hp⟩ := h
    exact .inl ⟨p, _, k, .int n, rfl, rfl, (mn_ext H f).sql hp, by rw [atI_map, e1]; rfl, q _ (fun _ => 0) (by unfold iT Rep Dr; rfl) fun _ => Nat.zero_le _⟩
  | gone => unfold kidT at e; cases e
theorem stl_any {K : PySem.W.Frag} {f g g' : Fp} {t : Tr} {x : V} (h : Rep K H f t x g) (e : isStl t = true) : Rep K H f t x g' := by
  cases t <;> first | (unfold isStl at e; cases e; done) | (unfold Rep at h ⊢; exact h)
/-- a path in a tree that is settled, or out of its slot -/
theorem pt_read : ∀ {es : List CE} {t : Tr} {Γ : List Tr} {f pr g : Fp} {H : Hp} {x : V}, St0 R.K Γ σ H f pr → Rep R.K H f t x g → (∀ a, g a ≤ pr a) → EPost R σ H f pr Q (evPt R.F t es Γ) → pthK R es x σ H Q
  | [], t, Γ, f, pr, g, H, x, st, rx, lg, h => by
    simp only [evPt] at h
    by_cases s : isStl t = true
    · rw [if_pos s] at h
      obtain ⟨h1, h2, g0, ga, hs, _, hl⟩ := id st
      exact h x H f Stp.refl ⟨h1, h2, g0, fun _ => 0, hs, stl_any rx s, fun a => by have := hl a; show 0 + (g0 a + pr a) ≤ f a; omega⟩
    · rw [if_neg s] at h; exact h.elim
  | e :: es, t, Γ, f, pr, g, H, x, st, rx, lg, h => by
    simp only [evPt] at h
    refine tE_of st ?_
    cases q : ev R.F e Γ with
    | none => simp only [q] at h; exact h
    | some r =>
      cases r with
      | ex y Γ1 => simp only [q] at h; exact h
      | ok te Γ1 =>
        simp only [q] at h
        intro y H1 f1 s1 st1
        cases q1 : asInt te with
        | none => simp only [q1] at h; exact h.elim
        | some k =>
          simp only [q1] at h
          cases q2 : kidT t k with
          | none => simp only [q2] at h; exact h.elim
          | some t' =>
            simp only [q2] at h
            obtain ⟨_, _, _, ga, _, hg, _⟩ := id st1
            have hv := asInt_rep ⟨ga, hg⟩ q1
            subst hv
            exact kidT_rep (rx.stp s1 lg) q2 fun z g' rz lz => pt_read st1.drop rz (fun a => Nat.le_trans (lz a) (lg a)) (h.after (Γ := Γ) (pr' := pr) s1)
/-- a slot taken out, to be put back -/
theorem St0.takeOut {K : PySem.W.Frag} {Γ : List Tr} {f pr : Fp} {i : Nat} {t : Tr} (st : St0 K Γ σ H f pr) (e : Γ[i]? = some t) (n : t ≠ .gone) : ∃ v g, σ[i]? = some (some v) ∧ Rep K H f t v g ∧ St0 K (Γ.set i .gone) σ H f (padd pr g) := by
  obtain ⟨h1, h2, g, ga, hs, _, hl⟩ := st
  obtain ⟨o, g1, g2, eo, ro, rs, hgl⟩ := hs.take e
  obtain ⟨v, rfl, r⟩ := ro.get n
  exact ⟨v, g1, eo, r, h1, h2, g2, fun _ => 0, rs, trivial, fun a => by have := hl a; have := hgl a; simp only [padd_at]; show 0 + (g2 a + (pr a + g1 a)) ≤ f a; omega⟩
theorem StA.putBack {K : PySem.W.Frag} {Γ : List Tr} {f pr g : Fp} {G : Fp → Prop} {i : Nat} {t : Tr} {v : V} (st : StA K Γ σ H f (padd pr g) G) (e : Γ[i]? = some .gone) (ev : σ[i]? = some (some v)) (r : Rep K H f t v g) : StA K (Γ.set i t) σ H f pr G := by
  obtain ⟨h1, h2, g2, ga, hs, hg, hl⟩ := st
  exact ⟨h1, h2, _, ga, RepS.put hs e ev (.mk r), hg, fun a => by have := hl a; simp only [padd_at] at this; omega⟩
theorem path_read {i : Nat} {es : List CE} (h : tE R (.pth i es) σ H Q) : tPth R (tVar i) es σ H Q := by
  rw [tPth_eq]
  obtain ⟨Γ, f, pr, st, h⟩ := of_tE h
  simp only [ev] at h
  cases es with
  | nil => simp only [evP] at h; exact h.elim
  | cons e es =>
    simp only [evP] at h
    by_cases ok : slotOk Γ i = true
    case neg => rw [if_neg ok] at h; exact h.elim
    rw [if_pos ok] at h
    obtain ⟨x0, e0, n0⟩ := slotOk_get ok
    obtain ⟨v0, g00, hv0, _, _⟩ := st.takeOut e0 n0
    -- the value in the slot, known behind the first index
    have main : ∀ v, σ[i]? = some (some v) → pthK R (e :: es) v σ H Q := by
      intro v hv
      refine tE_of st ?_
      cases q : ev R.F e Γ with
      | none => simp only [q] at h; exact h
      | some r =>
        cases r with
        | ex y Γ1 => simp only [q] at h; exact h
        | ok te Γ1 =>
          simp only [q] at h
          intro y H1 f1 s1 st1
          cases q1 : asInt te with
          | none => simp only [q1] at h; exact h.elim
          | some k =>
            cases q3 : Γ1[i]? with
            | none => simp only [q1, q3] at h; exact h.elim
            | some t =>
              simp only [q1, q3] at h
              cases q2 : kidT t k with
              | none => simp only [q2] at h; exact h.elim
              | some t' =>
                simp only [q2] at h
                obtain ⟨_, _, _, ga, _, hg, _⟩ := id st1
                have hy := asInt_rep ⟨ga, hg⟩ q1
                subst hy
                have n : t ≠ .gone := fun z => by subst z; unfold kidT at q2; cases q2
                obtain ⟨w, g, ew, rw', sto⟩ := st1.drop.takeOut q3 n
                rw [hv] at ew; cases ew
                have h := h.after (Γ := Γ) (pr' := pr) s1
                refine kidT_rep rw' q2 fun z g' rz lz => ?_
                by_cases s : isStl t' = true
                · rw [if_pos s] at h
                  exact pt_read st1.drop (stl_any (g' := fun _ => 0) rz s) (fun _ => Nat.zero_le _) h
                · rw [if_neg s] at h
                  refine pt_read sto rz (fun a => Nat.le_trans (lz a) (le_padd' _ _ a)) ?_
                  cases q5 : evPt R.F t' es (Γ1.set i .gone) with
                  | none => rw [q5] at h; simp only [putIn] at h; exact h.elim
                  | some r5 =>
                    cases r5 with
                    | ex y2 Γ2 => rw [q5] at h; simp only [putIn] at h; exact h.elim
                    | ok r6 Γ2 =>
                      rw [q5] at h
                      simp only [putIn] at h
                      intro v2 H2 f2 s2 st2
                      cases q6 : Γ2[i]? with
                      | none => simp only [q6] at h; exact h.elim
                      | some t6 =>
                        cases t6 <;> (simp only [q6] at h) <;> first | exact h.elim | skip
                        exact h v2 H2 f2 (s2.weak (le_padd _ _)) (st2.putBack q6 hv (rw'.stp s2 (le_padd' _ _)))
    exact main v0 |> fun m => ⟨v0, hv0, m hv0⟩
end
end Hw
set_option Elab.async false
set_option linter.all false
set_option maxRecDepth 100000
set_option maxHeartbeats 1000000
/-! pop, tests, and all expressions together -/
namespace Hw
open PySem PySem.Spec PyProof.Rows L2
section
variable {R : RC} {σ : Sig} {H : Hp} {Q : VK}
theorem dropLast_er {α : Type} : ∀ (l : List α), 0 < l.length → l.dropLast = l.eraseIdx (l.length - 1)
  | [], h => by simp at h
  | [a], _ => rfl
  | a :: b :: r, _ => by
    have := dropLast_er (b :: r) (by simp)
    simp only [List.length_cons, Nat.add_sub_cancel] at this ⊢
    rw [List.dropLast_cons₂, this, List.eraseIdx_cons_succ]
theorem RepL.erase {K : PySem.W.Frag} {f : Fp} : ∀ {ts : List Tr} {vs : List V} {g : Fp} {j : Nat} {t : Tr}, RepL K H f ts vs g → ts[j]? = some t → ∃ v g1 g2, vs[j]? = some v ∧ Rep K H f t v g2 ∧ RepL K H f (ts.eraseIdx j) (vs.eraseIdx j) g1 ∧ ∀ a, g1 a + g2 a ≤ g a
  | [], _, _, _, _, _, e => by simp at e
  | x :: ts, _, _, 0, _, h, e => by
    unfold RepL at h
    obtain ⟨v, r, g1, g2, rfl, h1, h2, h3⟩ := h
    simp at e; subst e
    exact ⟨v, g2, g1, rfl, h1, h2, fun a => by have := h3 a; omega⟩
  | x :: ts, _, _, j + 1, _, h, e => by
    unfold RepL at h
    obtain ⟨v, r, g1, g2, rfl, h1, h2, h3⟩ := h
    obtain ⟨w, k1, k2, e1, r1, r2, l1⟩ := RepL.erase (j := j) h2 (by simpa using e)
    refine ⟨w, padd g1 k1, k2, by simpa using e1, r1, ?_, fun a => by have := h3 a; have := l1 a; simp only [padd_at]; omega⟩
    show RepL K H f (x :: ts.eraseIdx j) (v :: r.eraseIdx j) _
    unfold RepL
    exact ⟨v, _, g1, k1, rfl, h1, r2, fun a => Nat.le_refl _⟩
theorem RepL.last {K : PySem.W.Frag} {f : Fp} {ts : List Tr} {vs : List V} {g : Fp} {t : Tr} (h : RepL K H f ts vs g) (e : ts[ts.length - 1]? = some t) : ∃ v g1 g2, vs[vs.length - 1]? = some v ∧ Rep K H f t v g2 ∧ RepL K H f ts.dropLast vs.dropLast g1 ∧ ∀ a, g1 a + g2 a ≤ g a := by
  have hl := h.length
  obtain ⟨v, g1, g2, e1, r1, r2, l⟩ := h.erase e
  have hp : 0 < ts.length := by
    cases ts with
    | nil => simp at e
    | cons _ _ => exact Nat.succ_pos _
  refine ⟨v, g1, g2, by rw [hl]; exact e1, r1, ?_, l⟩
  rw [dropLast_er ts hp, dropLast_er vs (by omega), hl]
  exact r2
/-- a list that is out of its slot is written -/
theorem St0.wr {K : PySem.W.Frag} {Γ : List Tr} {f pr g : Fp} {p : Addr} {o : HO} (st : St0 K Γ σ H f (padd pr g)) (hp : 1 ≤ g p) : St0 K Γ σ (upd H p o) f (padd pr g) ∧ ∀ pr' : Fp, pr' p = 0 → Stp H f pr' (upd H p o) f := by
  obtain ⟨h1, h2, gs, ga, hs, _, hl⟩ := st
  have fp : 1 ≤ f p := by have := hl p; simp only [padd_at] at this; omega
  have gp : gs p = 0 := by have := hl p; have := h1 p; simp only [padd_at] at *; omega
  refine ⟨⟨h1, fun a ha => ?_, gs, fun _ => 0, hs.stp (stp_write (K := K) fp gs gp) (fun _ => Nat.le_refl _), trivial, fun a => by have := hl a; simp only [padd_at] at *; show 0 + _ ≤ _; omega⟩, fun pr' hz => stp_write (K := K) fp pr' hz⟩
  by_cases z : a = p
  · subst z; exact ⟨o, upd_same⟩
  · obtain ⟨u, hu⟩ := h2 a ha
    exact ⟨u, by rw [upd_ne z]; exact hu⟩
theorem pop_core {K : PySem.W.Frag} {Γ : List Tr} {f pr : Fp} {i : Nat} {xs : List Tr} {v : V} (st : St0 K Γ σ H f pr) (e : Γ[i]? = some (.l xs)) (hv : σ[i]? = some (some v)) :
    ∃ p vs, v = .ref p ∧ H p = some (.lst vs) ∧ vs.length = xs.length ∧ ∀ {j : Nat} {x : Tr}, xs[j]? = some x → ∃ z, vs[j]? = some z ∧ Stp H f pr (upd H p (.lst (vs.eraseIdx j))) f ∧ St1 K (Γ.set i (.l (xs.eraseIdx j))) σ (upd H p (.lst (vs.eraseIdx j))) f pr z x := by
  obtain ⟨w, g, ew, rw', sto⟩ := st.takeOut e (by simp)
  rw [hv] at ew; cases ew
  unfold Rep at rw'
  obtain ⟨p, vs, g0, rfl, hp, rl, l0⟩ := rw'
  refine ⟨p, vs, rfl, hp, rl.length, fun {j x} ej => ?_⟩
  obtain ⟨z, g1, g2, ez, r1, r2, lz⟩ := rl.erase ej
  have gp : 1 ≤ g p := by have := l0 p; rw [one_self] at this; omega
  obtain ⟨sw, ss⟩ := sto.wr (o := .lst (vs.eraseIdx j)) gp
  obtain ⟨h1, h2, gs, ga, hs, _, hl⟩ := id sw
  have zp : gs p = 0 ∧ pr p = 0 ∧ g1 p = 0 ∧ g2 p = 0 := by
    have := hl p; have := h1 p; have := l0 p; have := lz p; simp only [padd_at, one_self] at *; omega
  have rn : Rep K (upd H p (.lst (vs.eraseIdx j))) f (.l (xs.eraseIdx j)) (.ref p) (padd (one p) g1) := by
    unfold Rep
    exact ⟨p, _, g1, rfl, upd_same, r2.stp (ss g1 zp.2.2.1) (fun _ => Nat.le_refl _), fun a => by rw [padd_at]; exact Nat.le_refl _⟩
  have put := RepS.put hs (by rw [List.getElem?_set_self (List.getElem?_eq_some_iff.mp e).1]) hv (.mk rn)
  rw [List.set_set] at put
  refine ⟨z, ez, ss pr zp.2.1, h1, h2, _, g2, put, r1.stp (ss g2 zp.2.2.2) (fun _ => Nat.le_refl _), fun a => ?_⟩
  · have := hl a; have := l0 a; have := lz a; simp only [padd_at] at *; omega
theorem ty_list {K : PySem.W.Frag} {p : Addr} {vs : List V} (h : H p = some (.lst vs)) : tyV K "list" (.ref p) H := Or.inl ⟨rfl, _, SqL.of h⟩
theorem pop0_read {i : Nat} (h : tE R (.pop i []) σ H Q) : tBM0 R.K "list" rPop (tVar i) σ H Q := by
  obtain ⟨Γ, f, pr, st, h⟩ := of_tE h
  simp only [ev, evAs, tmps] at h
  cases e : Γ[i]? with
  | none => simp only [e] at h; exact h.elim
  | some t =>
    cases t with
    | l xs =>
      simp only [e] at h
      cases e2 : xs[xs.length - 1]? with
      | none => simp only [e2] at h; exact h.elim
      | some x =>
        simp only [e2] at h
        obtain ⟨v, g, hv, _, _⟩ := st.takeOut e (by simp)
        obtain ⟨p, vs, rfl, hp, hl, k⟩ := pop_core st e hv
        obtain ⟨z, ez, s, s1⟩ := k e2
        have hpos : 0 < xs.length := by
          cases xs with
          | nil => simp at e2
          | cons _ _ => exact Nat.succ_pos _
        refine ⟨.ref p, hv, ty_list hp, p, vs, z, rfl, rfl, hp, by rw [hl]; exact ez, ?_⟩
        rw [dropLast_er xs hpos] at h
        rw [dropLast_er vs (by omega), hl]
        exact h z _ f s s1
    | c d => simp only [e] at h; exact h.elim
    | t d => simp only [e] at h; exact h.elim
    | s d => simp only [e] at h; exact h.elim
    | gone => simp only [e] at h; exact h.elim
theorem tmps_len : ∀ {avs : List AV} {ts : List Tr}, tmps avs = some ts → ts.length = avs.length
  | [], _, h => by unfold tmps at h; cases h; rfl
  | .tmp t :: as, _, h => by
    unfold tmps at h
    obtain ⟨us, h1, h2⟩ := Option.map_eq_some_iff.mp h
    cases h2
    simp [tmps_len h1]
  | .pk j :: as, _, h => by unfold tmps at h; cases h
  | .io j :: as, _, h => by unfold tmps at h; cases h
theorem pop1_read {i : Nat} {c : CA} (h : tE R (.pop i [c]) σ H Q) : tBM R.K "list" rPopAt (tVar i) (tAs R [c]) σ H Q := by
  obtain ⟨Γ, f, pr, st, h⟩ := of_tE h
  simp only [ev] at h
  cases e : Γ[i]? with
  | none => simp only [e] at h; exact h.elim
  | some t =>
    cases t with
    | l xs0 =>
      simp only [e] at h
      obtain ⟨v, g, hv, r0, _⟩ := st.takeOut e (by simp)
      obtain ⟨p, vs0, rfl, hp, hl0, _⟩ := pop_core st e hv
      refine ⟨.ref p, hv, ty_list hp, Γ, f, pr, st, ?_⟩
      cases q : evAs R.F [c] Γ with
      | none => simp only [q] at h; exact h
      | some r =>
        cases r with
        | ex y Γ1 => simp only [q] at h; exact h
        | ok avs Γ1 =>
          simp only [q] at h
          intro ws H1 f1 s1 st1
          cases q1 : tmps avs with
          | none => simp only [q1] at h; exact h.elim
          | some ts =>
            cases e1 : Γ1[i]? with
            | none => cases ts <;> (simp only [q1, e1] at h; exact h.elim)
            | some t1 =>
              have ra : ∃ ga, RepL R.K H1 f1 ts ws ga := by
                obtain ⟨_, _, g, ga, hs, hg, hl⟩ := id st1
                exact ⟨ga, tmps_rep hg q1⟩
              obtain ⟨ga, ra⟩ := ra
              have la := ra.length
              have lc : avs.length = 1 := by
                cases c <;> simp only [evAs] at q
                · split at q
                  · simp only [AR.cons] at q; cases q; rfl
                  · cases q
                  · cases q
                · split at q
                  · simp only [AR.cons] at q; cases q; rfl
                  · cases q
                · split at q
                  · simp only [AR.cons] at q; cases q; rfl
                  · cases q
              have lt : ts.length = avs.length := tmps_len q1
              obtain ⟨ti, rfl⟩ : ∃ ti, ts = [ti] := List.length_eq_one_iff.mp (by omega)
              cases t1 with
              | l xs =>
                simp only [q1, e1] at h
                cases e3 : asInt ti with
                | none => simp only [e3] at h; exact h.elim
                | some k =>
                  simp only [e3] at h
                  by_cases hk : -(2 ^ 63) ≤ k ∧ k < 2 ^ 63
                  · rw [if_pos hk] at h
                    cases e4 : seqIndex? k xs.length with
                    | none => simp only [e4] at h; exact h.elim
                    | some j =>
                      simp only [e4] at h
                      cases e5 : xs[j]? with
                      | none => simp only [e5] at h; exact h.elim
                      | some x =>
                        simp only [e5] at h
                        obtain ⟨p', vs, hp', hH, hl, kk⟩ := pop_core st1.drop e1 hv
                        cases hp'
                        obtain ⟨z, ez, s, s2⟩ := kk e5
                        unfold RepL at ra
                        obtain ⟨w, r, g1, g2, rfl, rw', rr, _⟩ := ra
                        unfold RepL at rr
                        subst rr
                        have wi : w = .int k := asInt_rep ⟨_, rw'⟩ e3
                        subst wi
                        exact ⟨p, vs, k, j, z, rfl, rfl, hH, hk.1, hk.2, by rw [hl]; exact e4, ez, h z _ f1 (s1.trans s fun _ => Nat.le_refl _) s2⟩
                  · rw [if_neg hk] at h; exact h.elim
              | c d => simp only [q1, e1] at h; exact h.elim
              | t d => simp only [q1, e1] at h; exact h.elim
              | s d => simp only [q1, e1] at h; exact h.elim
              | gone => simp only [q1, e1] at h; exact h.elim
    | c d => simp only [e] at h; exact h.elim
    | t d => simp only [e] at h; exact h.elim
    | s d => simp only [e] at h; exact h.elim
    | gone => simp only [e] at h; exact h.elim
end
end Hw
set_option Elab.async false
set_option linter.all false
set_option maxRecDepth 100000
set_option maxHeartbeats 1000000
/-! all expressions together -/
namespace Hw
open PySem PySem.Spec PyProof.Rows L2
section
variable {R : RC} {M : MC} {X : Cx} {σ : Sig} {H : Hp}
theorem XOk.lo (ok : XOk R M X) {i : Nat} {x : Str} (h : M.loc i x = true) : X.N[i]? = some x ∧ L2.Loc X.env.scope x ∧ (X.fn x = true ∨ X.env.scope.names.lookup x = some .local) := by
  unfold MC.loc at h
  simp only [Bool.and_eq_true, decide_eq_true_eq] at h
  obtain ⟨h0, h1⟩ := h
  refine ⟨by rw [ok.N]; exact h0, ?_⟩
  unfold L2.Loc
  rw [ok.sc, ok.fnc]
  split at h1
  · rename_i e; exact ⟨.inl e, .inr e⟩
  · rename_i e; exact ⟨.inr e, .inl h1⟩
  · cases h1
theorem XOk.ndX (ok : XOk R M X) : X.N.Nodup := by rw [ok.N]; exact ok.nd
theorem pg_nm (ok : XOk R M X) {i : Nat} {x : Str} {pos : Pos} (h : M.loc i x = true) : PG X (.Name x pos) (gName i) := by
  obtain ⟨h1, h2, h3⟩ := ok.lo h
  exact pg_name ok.ndX h1 h2 h3
theorem pgs_nm (ok : XOk R M X) : ∀ {is : List Nat} {es : List Expr}, mNames M is es = true → PGs X es (gNames is) ∧ (assignEach es X.env).length = is.length ∧ (assignEach es X.env).findIdx? (·.1) = none
  | [], [], _ => ⟨pgs_nil, rfl, rfl⟩
  | [], e :: es, h => by cases e <;> (unfold mNames at h; cases h)
  | i :: is, [], h => by unfold mNames at h; cases h
  | i :: is, e :: es, h => by
    cases e <;> first | (unfold mNames at h; cases h; done) | skip
    rename_i x pos
    unfold mNames at h
    rw [Bool.and_eq_true] at h
    obtain ⟨h1, h2, h3⟩ := pgs_nm ok h.2
    refine ⟨pgs_cons (pg_nm ok h.1) h1, ?_, ?_⟩
    · show (assignEach es X.env).length + 1 = _
      rw [h2]; rfl
    · have : assignEach (.Name x pos :: es) X.env = (false, assign (.Name x pos) X.env) :: assignEach es X.env := rfl
      rw [this, List.findIdx?_cons, h3]; rfl
theorem pg_tg (ok : XOk R M X) {tg : CTg} {t : Expr} (h : mTg M tg t = true) : PG X t (gTg R.K tg) := by
  cases tg with
  | nm i =>
    cases t <;> first | (unfold mTg at h; cases h; done) | skip
    exact pg_nm ok (by unfold mTg at h; exact h)
  | tp is =>
    cases t <;> first | (unfold mTg at h; cases h; done) | skip
    rename_i elts k pos
    obtain ⟨h1, h2, h3⟩ := pgs_nm ok (show mNames M is elts = true by unfold mTg at h; exact h)
    have := pg_tup (k := k) (pos := pos) ok.calm h1 (n := is.length) h2 h3
    rw [ok.K] at this
    exact this
theorem XOk.blk (ok : XOk R M X) (s : Shared) (H : Hp) (scope : Scope) (C : Addr) (cl : List (Str × Addr)) (fp : List Addr) : XOk R.quiet (M.blk scope) (X.blk s H scope (compEnvC scope cl C X.env) fp) where
  K := ok.K
  mg := ok.mg
  N := ok.N
  sc := by
    show (compEnvC scope cl C X.env).scope = relS scope M.sc
    rw [← ok.sc]; rfl
  fnc := rfl
  nd := ok.nd
  calm := ok.calm
  tk := takes0
  un := ok.un
  fns := ok.fns
  gls := ok.gls
  blt := ok.blt
theorem tst_he {e : Expr} (h : tstE e = true) (n : ∀ l o c p, e ≠ .Compare l o c p) (env : Env) (whole : Sem Value) : isTrue e env whole = (do let v ← whole; standAt e.pos; holding [v] (truthy v)) := by
  cases e <;> first | rfl | (cases h; done) | skip
  · rename_i op a p
    cases op <;> first | rfl | (cases h; done)
  · exact absurd rfl (n _ _ _ _)
theorem te_truth {K : PySem.W.Frag} (hK : K = R.K) {a : CE} {Q : Bool → Hp → Prop} (h : tT R (.e a) σ H Q) : tE R a σ H fun x H' => ∃ k, TruV K x H' k ∧ Q k H' := by
  subst hK
  obtain ⟨Γ, f, pr, st, h⟩ := h
  simp only [evT] at h
  refine tE_of st ?_
  cases q : ev R.F a Γ with
  | none => simp only [q] at h
  | some r =>
    cases r with
    | ex y Γ1 => simp only [q] at h; exact h
    | ok t Γ1 =>
      simp only [q] at h
      intro v H1 f1 s1 st1
      cases q1 : truth t with
      | none => simp only [q1, Option.map_none] at h
      | some b =>
        simp only [q1, Option.map_some] at h
        obtain ⟨_, _, _, ga, _, hg, _⟩ := id st1
        exact ⟨b, truth_rep ⟨ga, hg⟩ q1, h H1 f1 s1 st1.drop⟩
/-- .. where the value is a truth -/
theorem te_bl {a : CE} {Q : Bool → Hp → Prop} (hb : ∀ Γ t Γ', ev R.F a Γ = some (.ok t Γ') → ∃ b, t = bT b) (h : tT R (.e a) σ H Q) : tE R a σ H fun x H' => ∃ k, x = .bl k ∧ Q k H' := by
  obtain ⟨Γ, f, pr, st, h⟩ := h
  simp only [evT] at h
  refine tE_of st ?_
  cases q : ev R.F a Γ with
  | none => simp only [q] at h
  | some r =>
    cases r with
    | ex y Γ1 => simp only [q] at h; exact h
    | ok t Γ1 =>
      simp only [q] at h
      obtain ⟨b, rfl⟩ := hb _ _ _ q
      intro v H1 f1 s1 st1
      obtain ⟨_, _, _, ga, _, hg, _⟩ := id st1
      exact ⟨b, bT_val hg, h H1 f1 s1 st1.drop⟩
theorem cmp_bl {o : CmpOp} {as : List CA} : ∀ Γ t Γ', ev R.F (.prim (.cmp o) as) Γ = some (.ok t Γ') → ∃ b, t = bT b := by
  intro Γ t Γ' h
  simp only [ev] at h
  cases q : evAs R.F as Γ with
  | none => simp only [q] at h; cases h
  | some r =>
    cases r with
    | ex y Γ1 => simp only [q] at h; cases h
    | ok avs Γ1 =>
      simp only [q] at h
      cases q1 : resolves Γ1 avs with
      | none => simp only [q1, Option.bind_none] at h; cases h
      | some ts =>
        simp only [q1, Option.bind_some] at h
        obtain ⟨t', h1, h2⟩ := Option.map_eq_some_iff.mp h
        cases h2
        match ts, h1 with
        | [a, b], h1 =>
          obtain ⟨r, _, rfl⟩ := Option.map_eq_some_iff.mp (show (cmpEv o a b).map bT = some t from h1)
          exact ⟨r, rfl⟩
        | [], h1 => simp [primEv] at h1
        | [_], h1 => simp [primEv] at h1
        | _ :: _ :: _ :: _, h1 => simp [primEv] at h1
theorem chain_bl {o1 o2 : CmpOp} {ab : List CA} {c : CE} : ∀ Γ t Γ', ev R.F (.chain o1 o2 ab c) Γ = some (.ok t Γ') → ∃ b, t = bT b := by
  intro Γ t Γ' h
  simp only [ev] at h
  cases q : evAs R.F ab Γ with
  | none => simp only [q] at h; cases h
  | some r =>
    cases r with
    | ex y Γ1 => simp only [q] at h; cases h
    | ok avs Γ1 =>
      simp only [q] at h
      cases q1 : resolves Γ1 avs with
      | none => simp only [q1] at h; cases h
      | some ts =>
        match ts, q1 with
        | [ta, tb], q1 =>
          simp only [q1] at h
          cases q2 : cmpEv o1 ta tb with
          | none => simp only [q2] at h; cases h
          | some k =>
            cases k with
            | false => simp only [q2] at h; cases h; exact ⟨_, rfl⟩
            | true =>
              simp only [q2] at h
              cases q3 : see tb with
              | none => simp only [q3] at h; cases h
              | some db =>
                simp only [q3] at h
                by_cases fd : flatD db = true
                · simp only [fd, if_true] at h
                  cases q4 : ev R.F c Γ1 with
                  | none => simp only [q4] at h; cases h
                  | some r4 =>
                    cases r4 with
                    | ex y Γ2 => simp only [q4] at h; cases h
                    | ok tc Γ2 =>
                      simp only [q4] at h
                      obtain ⟨r, _, h2⟩ := Option.map_eq_some_iff.mp h
                      cases h2; exact ⟨_, rfl⟩
                · simp only [fd] at h; cases h
        | [], q1 => simp only [q1] at h; cases h
        | [_], q1 => simp only [q1] at h; cases h
        | _ :: _ :: _ :: _, q1 => simp only [q1] at h; cases h
theorem cmp_read {K : PySem.W.Frag} (hK : K = R.K) {o : CmpOp} {c d : CA} {Q : VK} (q : tE R (.prim (.cmp o) [c, d]) σ H Q) : tOp (rCmp K o) (tA R c) (tA R d) σ H Q := by
  subst hK
  refine prim2 (r := rCmp R.K o) (fun x y H1 q => ?_) q
  obtain ⟨f, a, b, t, al, r1, r2, e, q⟩ := rprim2 q
  obtain ⟨r, e1, rfl⟩ := Option.map_eq_some_iff.mp e
  exact cmp_ok r1 r2 e1 (q _ _ _ (New.bool _))
theorem tpk_read {K : PySem.W.Frag} (hK : K = R.K) {i : Nat} {Q : Bool → Hp → Prop} (h : tT R (.pk i) σ H Q) : tVar i σ H fun x H' => ∃ k, TruV K x H' k ∧ Q k H' := by
  subst hK
  obtain ⟨Γ, f, pr, st, h⟩ := h
  simp only [evT] at h
  cases e : Γ[i]? with
  | none => simp only [e] at h
  | some t =>
    simp only [e] at h
    cases q1 : truth t with
    | none => simp only [q1, Option.map_none] at h
    | some b =>
      simp only [q1, Option.map_some] at h
      have n : t ≠ .gone := fun z => by subst z; cases q1
      obtain ⟨v, g, hv, r, _⟩ := st.takeOut e n
      exact ⟨v, hv, b, truth_rep ⟨g, r⟩ q1, h H f Stp.refl st⟩
def TPost (R : RC) (σ : Sig) (H : Hp) (f pr : Fp) (Q : Bool → Hp → Prop) : Option TR → Prop
  | some (.ok b Γ') => ∀ H' f', Stp H f pr H' f' → St0 R.K Γ' σ H' f' pr → Q b H'
  | some (.ex x Γ') => ∀ C H' f', R.mg x = some (.ref C) → Stp H f pr H' f' → St0 R.K Γ' σ H' f' pr → R.W (.ref C) none σ H'
  | none => False
theorem tT_of {c : CT} {Γ : List Tr} {f pr : Fp} {Q : Bool → Hp → Prop} (st : St0 R.K Γ σ H f pr) (h : TPost R σ H f pr Q (evT R.F c Γ)) : tT R c σ H Q := by
  refine ⟨Γ, f, pr, st, ?_⟩
  cases q : evT R.F c Γ with
  | none => rw [q] at h; exact h
  | some r => cases r <;> (rw [q] at h; exact h)
theorem of_tT {c : CT} {Q : Bool → Hp → Prop} (h : tT R c σ H Q) : ∃ Γ f pr, St0 R.K Γ σ H f pr ∧ TPost R σ H f pr Q (evT R.F c Γ) := by
  obtain ⟨Γ, f, pr, st, h⟩ := h
  refine ⟨Γ, f, pr, st, ?_⟩
  cases q : evT R.F c Γ with
  | none => simp only [q] at h
  | some r => cases r <;> (simp only [q] at h; exact h)
theorem TPost.after {f pr : Fp} {H1 : Hp} {f1 : Fp} {Q : Bool → Hp → Prop} (s : Stp H f pr H1 f1) {r : Option TR} (h : TPost R σ H f pr Q r) : TPost R σ H1 f1 pr Q r := by
  cases r with
  | none => exact h
  | some r =>
    cases r with
    | ok t Γ' => exact fun H' f' s2 st => h H' f' (s.trans s2 fun _ => Nat.le_refl _) st
    | ex x Γ' => exact fun C H' f' hm s2 st => h C H' f' hm (s.trans s2 fun _ => Nat.le_refl _) st
theorem tand_read {a b : CT} {Q : Bool → Hp → Prop} (h : tT R (.and_ a b) σ H Q) : tAnd (tT R a) (tT R b) σ H Q := by
  obtain ⟨Γ, f, pr, st, h⟩ := of_tT h
  simp only [evT] at h
  refine tT_of st ?_
  cases q : evT R.F a Γ with
  | none => simp only [q] at h; exact h
  | some r =>
    cases r with
    | ex y Γ1 => simp only [q] at h; exact h
    | ok k Γ1 =>
      intro H1 f1 s1 st1
      cases k with
      | true => simp only [q] at h; rw [if_pos rfl]; exact tT_of st1 (h.after s1)
      | false => simp only [q] at h; rw [if_neg Bool.false_ne_true]; exact h H1 f1 s1 st1
theorem tor_read {a b : CT} {Q : Bool → Hp → Prop} (h : tT R (.or_ a b) σ H Q) : tOr (tT R a) (tT R b) σ H Q := by
  obtain ⟨Γ, f, pr, st, h⟩ := of_tT h
  simp only [evT] at h
  refine tT_of st ?_
  cases q : evT R.F a Γ with
  | none => simp only [q] at h; exact h
  | some r =>
    cases r with
    | ex y Γ1 => simp only [q] at h; exact h
    | ok k Γ1 =>
      intro H1 f1 s1 st1
      cases k with
      | false => simp only [q] at h; rw [if_neg Bool.false_ne_true]; exact tT_of st1 (h.after s1)
      | true => simp only [q] at h; rw [if_pos rfl]; exact h H1 f1 s1 st1
theorem tnot_read {a : CT} {Q : Bool → Hp → Prop} (h : tT R (.not_ a) σ H Q) : tNot (tT R a) σ H Q := by
  obtain ⟨Γ, f, pr, st, h⟩ := of_tT h
  simp only [evT] at h
  refine tT_of st ?_
  cases q : evT R.F a Γ with
  | none => simp only [q] at h; exact h
  | some r =>
    cases r with
    | ex y Γ1 => simp only [q] at h; exact h
    | ok k Γ1 =>
      simp only [q] at h
      exact fun H1 f1 s1 st1 => h H1 f1 s1 st1
/-- the subscripts of a path -/
theorem pe_path (ok : XOk R M X) {i : Nat} : ∀ {e : Expr} {x : Str} {bs : List Expr} {es : List CE}, pathOf e = some (x, bs) → M.vis i x = true → bs.length = es.length → (∀ (j : Nat) b c, bs[j]? = some b → es[j]? = some c → plainE b = true ∧ PE X b (tE R c)) → PE X e (tPth R (tVar i) es) := by
  intro e
  induction e using pathOf.induct with
  | case1 x pos =>
    intro y bs es h hv hl hp
    unfold pathOf at h
    cases h
    have : es = [] := List.eq_nil_of_length_eq_zero hl.symm
    subst this
    exact pe_slot ok hv
  | case2 a b pos ih =>
    intro y bs es h hv hl hp
    unfold pathOf at h
    obtain ⟨⟨x, cs⟩, h1, h2⟩ := Option.map_eq_some_iff.mp h
    cases h2
    simp only [List.length_append, List.length_singleton] at hl
    obtain ⟨es', c, rfl⟩ : ∃ es' c, es = es' ++ [c] := by
      rcases List.eq_nil_or_concat es with e | ⟨es', c, e⟩
      · subst e; simp at hl
      · exact ⟨es', c, by rw [e, List.concat_eq_append]⟩
    simp only [List.length_append, List.length_singleton, Nat.add_right_cancel_iff] at hl
    have h3 := ih (es := es') h1 hv hl fun j b' c' e1 e2 => hp j b' c' (by rw [List.getElem?_append_left (List.getElem?_eq_some_iff.mp e1).1]; exact e1) (by rw [List.getElem?_append_left (List.getElem?_eq_some_iff.mp e2).1]; exact e2)
    have h4 := hp cs.length b c (by simp) (by rw [hl]; simp)
    have ap : ∀ {es : List CE} {t : TE}, tPth R t (es ++ [c]) = tOp (rIx R.K) (tPth R t es) (tE R c) := by
      intro es
      induction es with
      | nil => intro t; rfl
      | cons d ds ih => intro t; exact ih
    rw [ap]
    have := pe_ix (pos := pos) ix_seq h3 h4.2 (plainIx h4.1)
    rw [ok.K] at this
    exact this
  | case3 e h1 h2 =>
    intro y bs es h
    unfold pathOf at h
    split at h <;> first | (cases h; done) | skip
    · exact absurd rfl (h1 _ _)
    · exact absurd rfl (h2 _ _ _)
end
end Hw
set_option Elab.async false
set_option linter.all false
set_option maxRecDepth 100000
set_option maxHeartbeats 2000000
/-! all expressions together -/
namespace Hw
open PySem PySem.Spec PyProof.Rows L2
theorem plain_marks {c : Expr} (h : plainE c = true) (o : CmpOp) : behindInMarks o c = false := by
  cases o <;> first | rfl | (cases c <;> first | rfl | cases h)
theorem plain_folded {e : Expr} (h : plainE e = true) (env : Env) : ∀ x, foldedSetIterable e env x = pure x := by
  intro x
  cases e <;> first | rfl | cases h
theorem range_folded {f : Expr} {es : List Expr} {ks : List Keyword} {pos : Pos} (env : Env) : ∀ x, foldedSetIterable (.Call f es ks pos) env x = pure x := fun _ => rfl
theorem isTup_of {t : Expr} (h : isTupE t = true) : ∃ elts k pos, t = .Tuple elts k pos := by
  cases t <;> first | exact ⟨_, _, _, rfl⟩ | cases h
theorem call_none {R : RC} {x : Str} {as : List CA} {σ : Sig} {H : Hp} {Q : VK} (hf : R.F.fn x = none) (h : tE R (.call x as) σ H Q) : False := by
  obtain ⟨Γ, f, pr, st, h⟩ := h
  simp only [ev, hf] at h
theorem primArgs_cmp {M : MC} {p : P} {l : Expr} {ops : List CmpOp} {cs : List Expr} {pos : Pos} {es : List Expr} (h : primArgs M p (.Compare l ops cs pos) = some es) : ∃ o b, p = .cmp o ∧ ops = [o] ∧ cs = [b] ∧ es = [l, b] := by
  cases p with
  | cmp o =>
    match ops, cs, h with
    | [o'], [b], h =>
      unfold primArgs at h
      dsimp only at h
      split at h
      · rename_i q
        cases h
        exact ⟨o, b, rfl, by rw [eqOp_of q], rfl, rfl⟩
      · cases h
    | [], _, h => exact absurd h (by simp [primArgs])
    | _ :: _ :: _, _, h => exact absurd h (by simp [primArgs])
    | [_], [], h => exact absurd h (by simp [primArgs])
    | [_], _ :: _ :: _, h => exact absurd h (by simp [primArgs])
  | sl a b => cases a <;> cases b <;> exact absurd h (by simp [primArgs])
  | lrg a => cases a <;> exact absurd h (by simp [primArgs])
  | trg a => cases a <;> exact absurd h (by simp [primArgs])
  | _ => exact absurd h (by simp [primArgs])
def isBoolE : Expr → Bool
  | .BoolOp .. => true
  | _ => false
theorem it_folded {M : MC} {tup : Bool} {it : CIt} {e : Expr} (h : mIt M tup it e = true) (env : Env) : ∀ x, foldedSetIterable e env x = pure x := by
  intro x
  cases e <;> first | rfl | skip
  all_goals (cases it <;> first | (exact absurd h (by unfold mIt; exact Bool.false_ne_true)) | skip)
  all_goals (unfold mIt at h; rw [Bool.and_eq_true] at h; exact absurd h.1 Bool.false_ne_true)
section
variable {R : RC} {M : MC} {X : Cx}
theorem mC_none {M : MC} {c : CT} {cs : List CT} {es : List Expr} (h : mC M (c :: cs) es = true) : cs = [] ∧ ∃ e, es = [e] ∧ mT M c e = true := by
  cases cs with
  | nil =>
    match es, h with
    | [e], h => exact ⟨rfl, e, rfl, by unfold mC at h; exact h⟩
    | [], h => unfold mC at h; cases h
    | _ :: _ :: _, h => unfold mC at h; cases h
  | cons c2 cs2 => 
    unfold mC at h
    cases h
end
mutual
theorem sE : ∀ (c : CE) {R : RC} {M : MC} {X : Cx} (ok : XOk R M X) {e : Expr}, mE M c e = true → PE X e (tE R c)
  | .var i, R, M, X, ok, e, h => by
    cases e <;> first | (exact absurd h (by unfold mE; exact Bool.false_ne_true)) | skip
    exact PE.imp (pe_slot ok (by unfold mE at h; exact h)) fun _ _ _ q => var_ok q
  | .mv i, R, M, X, ok, e, h => by
    cases e <;> first | (exact absurd h (by unfold mE; exact Bool.false_ne_true)) | skip
    exact PE.imp (pe_slot ok (by unfold mE at h; exact h)) fun _ _ _ q => mv_ok q
  | .lit d, R, M, X, ok, e, h => by
    cases e <;> first | (exact absurd h (by unfold mE; exact Bool.false_ne_true)) | skip
    exact lit_ok (by unfold mE at h; exact h)
  | .glb x, R, M, X, ok, e, h => by
    cases e <;> first | (exact absurd h (by unfold mE; exact Bool.false_ne_true)) | skip
    unfold mE at h
    rw [Bool.and_eq_true, decide_eq_true_eq] at h
    obtain ⟨rfl, h⟩ := h
    exact glb_ok ok h
  | .prim p as, R, M, X, ok, e, h => by
    unfold mE at h
    split at h
    · rename_i es q
      exact prim_sound ok q (sAs as ok h)
    · cases h
  | .tup as, R, M, X, ok, e, h => by
    cases e <;> first | (exact absurd h (by unfold mE; exact Bool.false_ne_true)) | skip
    exact PE.imp (pe_tup (sAs as ok (by unfold mE at h; exact h)).pa) fun _ _ _ q => tup_ok q
  | .lst as, R, M, X, ok, e, h => by
    cases e <;> first | (exact absurd h (by unfold mE; exact Bool.false_ne_true)) | skip
    exact PE.imp (pe_lst (sAs as ok (by unfold mE at h; exact h)).pa) fun _ _ _ q => lst_ok q
  | .and_ a b, R, M, X, ok, e, h => by
    cases e <;> first | (exact absurd h (by unfold mE; exact Bool.false_ne_true)) | skip
    rename_i op vs pos
    cases op <;> first | (exact absurd h (by unfold mE; exact Bool.false_ne_true)) | skip
    match vs, h with
    | [v, w], h =>
      unfold mE at h
      rw [Bool.and_eq_true] at h
      exact PE.imp (pe_and (sE a ok h.1) (pe_one (sE b ok h.2))) fun _ _ _ q => and_ok q
    | v :: w :: u :: r, h =>
      unfold mE at h
      rw [Bool.and_eq_true] at h
      exact PE.imp (pe_and (sE a ok h.1) (sE b ok h.2)) fun _ _ _ q => and_ok q
    | [], h => exact absurd h (by unfold mE; exact Bool.false_ne_true)
    | [_], h => exact absurd h (by unfold mE; exact Bool.false_ne_true)
  | .or_ a b, R, M, X, ok, e, h => by
    cases e <;> first | (exact absurd h (by unfold mE; exact Bool.false_ne_true)) | skip
    rename_i op vs pos
    cases op <;> first | (exact absurd h (by unfold mE; exact Bool.false_ne_true)) | skip
    match vs, h with
    | [v, w], h =>
      unfold mE at h
      rw [Bool.and_eq_true] at h
      exact PE.imp (pe_or (sE a ok h.1) (pe_one (sE b ok h.2))) fun _ _ _ q => or_ok q
    | v :: w :: u :: r, h =>
      unfold mE at h
      rw [Bool.and_eq_true] at h
      exact PE.imp (pe_or (sE a ok h.1) (sE b ok h.2)) fun _ _ _ q => or_ok q
    | [], h => exact absurd h (by unfold mE; exact Bool.false_ne_true)
    | [_], h => exact absurd h (by unfold mE; exact Bool.false_ne_true)
  | .not_ a, R, M, X, ok, e, h => by
    cases e <;> first | (exact absurd h (by unfold mE; exact Bool.false_ne_true)) | skip
    rename_i op v pos
    cases op <;> first | (exact absurd h (by unfold mE; exact Bool.false_ne_true)) | skip
    exact PE.imp (pe_notT (sE a ok (by unfold mE at h; exact h))) fun _ _ _ q => not_ok ok.K q
  | .ife c a b, R, M, X, ok, e, h => by
    cases e <;> first | (exact absurd h (by unfold mE; exact Bool.false_ne_true)) | skip
    unfold mE at h
    simp only [Bool.and_eq_true] at h
    exact PE.imp (pe_ifExp ((sT c ok h.1).1) (sE a ok h.2.1) (sE b ok h.2.2)) fun _ _ _ q => ife_ok q
  | .chain o1 o2 ab c, R, M, X, ok, e, h => by
    cases e <;> first | (exact absurd h (by unfold mE; exact Bool.false_ne_true)) | skip
    rename_i l ops cs pos
    match ops, cs, h with
    | [p1, p2], [b, c'], h =>
      unfold mE at h
      simp only [Bool.and_eq_true] at h
      obtain ⟨⟨⟨e1, e2⟩, hab⟩, hp, hc⟩ := h
      have := eqOp_of e1; subst this
      have := eqOp_of e2; subst this
      have pab := sAs ab ok hab
      match ab, pab with
      | [ca, cb], pab =>
        obtain ⟨_, _, ee, p1, h1, p2, h2⟩ := pab.two
        cases ee
        refine PE.imp (pe_chain (op_cmp ok.un _) (op_cmp ok.un _) h1 h2 (sE c ok hc) (plain_marks hp _)) fun _ _ _ q => chain_ok ok.K q
      | [], pab => exact absurd pab.length (by simp)
      | [_], pab => exact absurd pab.length (by simp)
      | _ :: _ :: _ :: _, pab => exact absurd pab.length (by simp)
    | [], _, h => exact absurd h (by unfold mE; exact Bool.false_ne_true)
    | [_], _, h => exact absurd h (by unfold mE; exact Bool.false_ne_true)
    | _ :: _ :: _ :: _, _, h => exact absurd h (by unfold mE; exact Bool.false_ne_true)
    | [_, _], [], h => exact absurd h (by unfold mE; exact Bool.false_ne_true)
    | [_, _], [_], h => exact absurd h (by unfold mE; exact Bool.false_ne_true)
    | [_, _], _ :: _ :: _ :: _, h => exact absurd h (by unfold mE; exact Bool.false_ne_true)
  | .call x as, R, M, X, ok, e, h => by
    cases e <;> first | (exact absurd h (by unfold mE; exact Bool.false_ne_true)) | skip
    rename_i fe es ks pos
    cases fe <;> first | (exact absurd h (by unfold mE; exact Bool.false_ne_true)) | skip
    rename_i y p
    match es, ks, h with
    | e :: es, [], h =>
      unfold mE at h
      simp only [Bool.and_eq_true, decide_eq_true_eq] at h
      obtain ⟨⟨rfl, hg⟩, has⟩ := h
      have pes := sAs as ok has
      have pl := pes.plain
      rw [List.all_cons, Bool.and_eq_true] at pl
      obtain ⟨g1, g2, g3⟩ := ok.gl hg
      cases hf : R.F.fn x with
      | none => exact ⟨fun pins s σ H Q I q => (call_none hf q).elim⟩
      | some run =>
        obtain ⟨n, f, fd, ps, k, F, hm, hk, hb, hr, hn⟩ := ok.fns x run hf
        exact PE.imp (pe_callS F hr g1 hm hk hb (fun σ => passAt ok.tk σ) pes.pa g2 (star_of pl.1 _ _) (stars_no pl.2)) fun _ _ _ q => call_ok hf hn q
    | [], _, h => exact absurd h (by unfold mE; exact Bool.false_ne_true)
    | _ :: _, _ :: _, h => exact absurd h (by unfold mE; exact Bool.false_ne_true)
  | .lc own tg it cond elt, R, M, X, ok, e, h => by
    cases e <;> first | (exact absurd h (by unfold mE; exact Bool.false_ne_true)) | skip
    rename_i ee gens s pos
    match gens, h with
    | [⟨t, i, ifs, 0⟩], h =>
      unfold mE at h
      simp only [Bool.and_eq_true, List.all_eq_true, List.contains_iff_mem] at h
      obtain ⟨⟨⟨⟨hb, ht⟩, ho⟩, hi⟩, hc, he⟩ := h
      have hmap : (ownN M own).map (·.2) = own := by unfold ownN; rw [List.map_map]; exact List.map_id _
      have hblk : blkC X.N X.env.scope s (ownN M own) = true := by rw [ok.N, ok.sc]; exact hb
      have hpi := sIt it ok hi
      have := pe_lc (pos := pos) (elt := ee) (ifs := ifs) ok.calm ok.ndX hpi (blkOk_by hblk) (fun s0 H C cl fp => pg_tg (ok.blk s0 H s C cl fp) ht) (fun s0 H C cl fp => sC cond (ok.blk s0 H s C cl fp) hc) (fun s0 H C cl fp => sE elt (ok.blk s0 H s C cl fp) he) (it_folded hi _)
      rw [hmap] at this
      exact PE.imp this fun _ _ _ q => lc_read ho q
    | [], h => exact absurd h (by unfold mE; exact Bool.false_ne_true)
    | _ :: _ :: _, h => exact absurd h (by unfold mE; simp)
    | [⟨_, _, _, Nat.succ _⟩], h => exact absurd h (by unfold mE; exact Bool.false_ne_true)
  | .pth i es, R, M, X, ok, e, h => by
    unfold mE at h
    split at h
    · rename_i x bs q
      rw [Bool.and_eq_true] at h
      obtain ⟨h1, h2⟩ := sEs es ok h.2
      exact PE.imp (pe_path ok q h.1 h1 h2) fun _ _ _ q => path_read q
    · cases h
  | .pop i as, R, M, X, ok, e, h => by
    cases e <;> first | (exact absurd h (by unfold mE; exact Bool.false_ne_true)) | skip
    rename_i fe es ks pos
    cases fe <;> first | (exact absurd h (by unfold mE; exact Bool.false_ne_true)) | skip
    rename_i oe m apos
    cases oe <;> first | (exact absurd h (by unfold mE; exact Bool.false_ne_true)) | skip
    rename_i x xp
    match ks, h with
    | [], h =>
      unfold mE at h
      simp only [Bool.and_eq_true, decide_eq_true_eq] at h
      obtain ⟨⟨⟨⟨rfl, hv⟩, hl⟩, hn⟩, has⟩ := h
      have pes := sAs as ok has
      match as, pes, hn with
      | [], pes, hn =>
        unfold PEs at pes
        subst pes
        exact PE.imp (pe_bm0 PySem.F.plainAttrs_list PySem.F.slot_list_pop PySem.F.type_list_pop mt_pop (pe_slot ok hv) rfl hl) fun _ _ _ q => by rw [ok.K]; exact pop0_read q
      | [c], pes, hn =>
        obtain ⟨a, rfl, hp, _⟩ := pes.one
        exact PE.imp (pe_bm PySem.F.plainAttrs_list PySem.F.slot_list_pop PySem.F.type_list_pop mt_popAt (pe_slot ok hv) pes.pa rfl (by rw [star_of hp]; rfl) hl (star_of hp _ _) rfl) fun _ _ _ q => by rw [ok.K]; exact pop1_read q
    | _ :: _, h => exact absurd h (by unfold mE; exact Bool.false_ne_true)
theorem sAs : ∀ (cs : List CA) {R : RC} {M : MC} {X : Cx} (ok : XOk R M X) {es : List Expr}, mAs M cs es = true → PEs X R cs es
  | [], R, M, X, ok, es, h => by
    cases es with
    | nil => unfold PEs; rfl
    | cons _ _ => unfold mAs at h; cases h
  | c :: cs, R, M, X, ok, es, h => by
    cases es with
    | nil => unfold mAs at h; cases h
    | cons e es =>
      unfold mAs at h
      simp only [Bool.and_eq_true] at h
      exact ⟨e, es, rfl, h.1.1, sA c ok h.1.2, sAs cs ok h.2⟩
theorem sA : ∀ (c : CA) {R : RC} {M : MC} {X : Cx} (ok : XOk R M X) {e : Expr}, mA M c e = true → PE X e (tA R c)
  | .e a, R, M, X, ok, e, h => sE a ok (by unfold mA at h; exact h)
  | .pk i, R, M, X, ok, e, h => by
    cases e <;> first | (exact absurd h (by unfold mA; exact Bool.false_ne_true)) | skip
    exact pe_slot ok (by unfold mA at h; exact h)
  | .io i, R, M, X, ok, e, h => by
    cases e <;> first | (exact absurd h (by unfold mA; exact Bool.false_ne_true)) | skip
    exact pe_slot ok (by unfold mA at h; exact h)
theorem sEs : ∀ (cs : List CE) {R : RC} {M : MC} {X : Cx} (ok : XOk R M X) {es : List Expr}, mEs M cs es = true → es.length = cs.length ∧ ∀ (j : Nat) b c, es[j]? = some b → cs[j]? = some c → plainE b = true ∧ PE X b (tE R c)
  | [], R, M, X, ok, es, h => by
    cases es with
    | nil => exact ⟨rfl, fun j b c e => by simp at e⟩
    | cons _ _ => unfold mEs at h; cases h
  | c :: cs, R, M, X, ok, es, h => by
    cases es with
    | nil => unfold mEs at h; cases h
    | cons e es =>
      unfold mEs at h
      simp only [Bool.and_eq_true] at h
      obtain ⟨h1, h2⟩ := sEs cs ok h.2
      have h3 := sE c ok h.1.2
      refine ⟨by simp [h1], fun j b d e1 e2 => ?_⟩
      cases j with
      | zero => simp only [List.getElem?_cons_zero, Option.some.injEq] at e1 e2; subst e1 e2; exact ⟨h.1.1, h3⟩
      | succ j => simp only [List.getElem?_cons_succ] at e1 e2; exact h2 j b d e1 e2
theorem sT : ∀ (c : CT) {R : RC} {M : MC} {X : Cx} (ok : XOk R M X) {e : Expr}, mT M c e = true → PT X e (tT R c) ∧ (isBoolE e = true → PW X e (tT R c))
  | .pk i, R, M, X, ok, e, h => by
    cases e <;> first | (exact absurd h (by unfold mT; exact Bool.false_ne_true)) | skip
    exact ⟨PT.imp (pt_truth (pe_slot ok (by unfold mT at h; exact h)) fun _ => rfl) fun _ _ _ q => tpk_read ok.K q, fun z => by cases z⟩
  | .and_ a b, R, M, X, ok, e, h => by
    cases e <;> first | (exact absurd h (by unfold mT; exact Bool.false_ne_true)) | skip
    rename_i op vs pos
    cases op <;> first | (exact absurd h (by unfold mT; exact Bool.false_ne_true)) | skip
    match vs, h with
    | [v, w], h =>
      unfold mT at h
      rw [Bool.and_eq_true] at h
      have := PW.imp (pw_and (pos := pos) (sT a ok h.1).1 (pw_and1 (sT b ok h.2).1)) fun _ _ _ q => tand_read q
      exact ⟨this.pt, fun _ => this⟩
    | v :: w :: u :: r, h =>
      unfold mT at h
      rw [Bool.and_eq_true] at h
      have := PW.imp (pw_and (pos := pos) (sT a ok h.1).1 ((sT b ok h.2).2 rfl)) fun _ _ _ q => tand_read q
      exact ⟨this.pt, fun _ => this⟩
    | [], h => exact absurd h (by unfold mT; exact Bool.false_ne_true)
    | [_], h => exact absurd h (by unfold mT; exact Bool.false_ne_true)
  | .or_ a b, R, M, X, ok, e, h => by
    cases e <;> first | (exact absurd h (by unfold mT; exact Bool.false_ne_true)) | skip
    rename_i op vs pos
    cases op <;> first | (exact absurd h (by unfold mT; exact Bool.false_ne_true)) | skip
    match vs, h with
    | [v, w], h =>
      unfold mT at h
      rw [Bool.and_eq_true] at h
      have := PW.imp (pw_or (pos := pos) (sT a ok h.1).1 (pw_or1 (sT b ok h.2).1)) fun _ _ _ q => tor_read q
      exact ⟨this.pt, fun _ => this⟩
    | v :: w :: u :: r, h =>
      unfold mT at h
      rw [Bool.and_eq_true] at h
      have := PW.imp (pw_or (pos := pos) (sT a ok h.1).1 ((sT b ok h.2).2 rfl)) fun _ _ _ q => tor_read q
      exact ⟨this.pt, fun _ => this⟩
    | [], h => exact absurd h (by unfold mT; exact Bool.false_ne_true)
    | [_], h => exact absurd h (by unfold mT; exact Bool.false_ne_true)
  | .not_ a, R, M, X, ok, e, h => by
    cases e <;> first | (exact absurd h (by unfold mT; exact Bool.false_ne_true)) | skip
    rename_i op v pos
    cases op <;> first | (exact absurd h (by unfold mT; exact Bool.false_ne_true)) | skip
    exact ⟨PT.imp (pt_not (sT a ok (by unfold mT at h; exact h)).1) fun _ _ _ q => tnot_read q, fun z => by cases z⟩
  | .e a, R, M, X, ok, e, h => by
    have hte : tstE e = true ∧ mE M a e = true := by
      unfold mT at h
      rw [Bool.and_eq_true] at h
      exact h
    obtain ⟨ht, he⟩ := hte
    refine ⟨?_, fun z => by cases e <;> first | exact absurd ht Bool.false_ne_true | cases z⟩
    have hE := sE a ok he
    cases e with
    | Compare l ops cs pos =>
      cases a with
      | prim p as =>
        unfold mE at he
        split at he
        · rename_i es q
          obtain ⟨o, b, rfl, rfl, rfl, rfl⟩ := primArgs_cmp q
          have pes := sAs as ok he
          match as, pes with
          | [ca, cb], pes =>
            obtain ⟨_, _, ee, p1, h1, p2, h2⟩ := pes.two
            cases ee
            exact PT.imp (pt_cmpR (op_cmp ok.un _) h1 h2 (plain_marks p2 _)) fun _ _ _ q => cmp_read ok.K (te_bl cmp_bl q)
          | [], pab => exact absurd pab.length (by simp)
          | [_], pab => exact absurd pab.length (by simp)
          | _ :: _ :: _ :: _, pab => exact absurd pab.length (by simp)
        · cases he
      | chain o1 o2 ab c =>
        match ops, cs, he with
        | [p1, p2], [b, c'], he =>
          unfold mE at he
          simp only [Bool.and_eq_true] at he
          obtain ⟨⟨⟨e1, e2⟩, hab⟩, hp, hc⟩ := he
          have := eqOp_of e1; subst this
          have := eqOp_of e2; subst this
          have pab := sAs ab ok hab
          match ab, pab with
          | [ca, cb], pab =>
            obtain ⟨_, _, ee, p1, h1, p2, h2⟩ := pab.two
            cases ee
            exact PT.imp (pt_chain (op_cmp ok.un _) (op_cmp ok.un _) h1 h2 (sE c ok hc) (plain_marks hp _)) fun _ _ _ q => chain_ok ok.K (te_bl chain_bl q)
          | [], pab => exact absurd pab.length (by simp)
          | [_], pab => exact absurd pab.length (by simp)
          | _ :: _ :: _ :: _, pab => exact absurd pab.length (by simp)
        | [], _, h => exact absurd h (by unfold mE; exact Bool.false_ne_true)
        | [_], _, h => exact absurd h (by unfold mE; exact Bool.false_ne_true)
        | _ :: _ :: _ :: _, _, h => exact absurd h (by unfold mE; exact Bool.false_ne_true)
        | [_, _], [], h => exact absurd h (by unfold mE; exact Bool.false_ne_true)
        | [_, _], [_], h => exact absurd h (by unfold mE; exact Bool.false_ne_true)
        | [_, _], _ :: _ :: _ :: _, h => exact absurd h (by unfold mE; exact Bool.false_ne_true)
      | pth i es => exact absurd he (by unfold mE pathOf; exact Bool.false_ne_true)
      | _ => exact absurd he (by unfold mE; exact Bool.false_ne_true)
    | _ => exact PT.imp (pt_truth hE fun w => tst_he ht (fun _ _ _ _ z => by cases z) _ w) fun _ _ _ q => te_truth ok.K q
theorem sC : ∀ (cs : List CT) {R : RC} {M : MC} {X : Cx} (ok : XOk R M X) {es : List Expr}, mC M cs es = true → PTs X es (tC R cs)
  | [], R, M, X, ok, es, h => by
    cases es with
    | nil => exact pts_nil
    | cons _ _ => unfold mC at h; cases h
  | c :: cs, R, M, X, ok, es, h => by
    obtain ⟨rfl, e, rfl, h⟩ := mC_none h
    exact pts_one (sT c ok h).1
theorem sIt : ∀ (it : CIt) {R : RC} {M : MC} {X : Cx} (ok : XOk R M X) {t e : Expr}, mIt M (isTupE t) it e = true → PI X t e (tI R it)
  | .sq a, R, M, X, ok, t, e, h => by
    unfold mIt at h
    rw [Bool.and_eq_true] at h
    have := sE a ok h.2
    exact PI.imp (PI.or (pi_list this) (pi_tup this)) fun _ _ _ q => sq_read ok.K q
  | .rng1 a, R, M, X, ok, t, e, h => by
    cases e <;> first | (exact absurd h (by unfold mIt; exact Bool.false_ne_true)) | skip
    rename_i fe es ks pos
    cases fe <;> first | (exact absurd h (by unfold mIt; exact Bool.false_ne_true)) | skip
    match es, ks, h with
    | [e], [], h =>
      unfold mIt at h
      simp only [Bool.and_eq_true, decide_eq_true_eq] at h
      obtain ⟨⟨rfl, hg⟩, hp, he⟩ := h
      exact PI.imp (pi_range1 (ok.gl hg).1 (ok.blt _ (by decide +kernel)) (pa_cons' hp (sE a ok he) pa_nil) (star_of hp _ _)) fun _ _ _ q => rng1_read q
    | [], _, h => exact absurd h (by unfold mIt; exact Bool.false_ne_true)
    | _ :: _ :: _, _, h => exact absurd h (by unfold mIt; exact Bool.false_ne_true)
    | [_], _ :: _, h => exact absurd h (by unfold mIt; exact Bool.false_ne_true)
  | .rng2 as, R, M, X, ok, t, e, h => by
    cases e <;> first | (exact absurd h (by unfold mIt; exact Bool.false_ne_true)) | skip
    rename_i fe es ks pos
    cases fe <;> first | (exact absurd h (by unfold mIt; exact Bool.false_ne_true)) | skip
    match es, ks, h with
    | [e, e2], [], h =>
      unfold mIt at h
      simp only [Bool.and_eq_true, decide_eq_true_eq] at h
      obtain ⟨⟨rfl, hg⟩, has⟩ := h
      have pes := sAs as ok has
      have pl := pes.plain
      simp only [List.all_cons, List.all_nil, Bool.and_true, Bool.and_eq_true] at pl
      exact PI.imp (pi_range2 (ok.gl hg).1 (ok.blt _ (by decide +kernel)) pes.pa (by rw [star_of pl.1, star_of pl.2]; rfl) (star_of pl.2 _ _)) fun _ _ _ q => rng2_read q
    | [], _, h => exact absurd h (by unfold mIt; exact Bool.false_ne_true)
    | [_], _, h => exact absurd h (by unfold mIt; exact Bool.false_ne_true)
    | _ :: _ :: _ :: _, _, h => exact absurd h (by unfold mIt; exact Bool.false_ne_true)
    | [_, _], _ :: _, h => exact absurd h (by unfold mIt; exact Bool.false_ne_true)
  | .enm a, R, M, X, ok, t, e, h => by
    cases e <;> first | (exact absurd h (by unfold mIt; exact Bool.false_ne_true)) | skip
    rename_i fe es ks pos
    cases fe <;> first | (exact absurd h (by unfold mIt; exact Bool.false_ne_true)) | skip
    match es, ks, h with
    | [e], [], h =>
      unfold mIt at h
      simp only [Bool.and_eq_true, decide_eq_true_eq] at h
      obtain ⟨⟨⟨ht, rfl⟩, hg⟩, hp, he⟩ := h
      obtain ⟨_, _, _, rfl⟩ := isTup_of ht
      exact PI.imp (pi_enum (ok.gl hg).1 (ok.blt _ (by decide +kernel)) (pa_cons' hp (sE a ok he) pa_nil) (star_of hp _ _)) fun _ _ _ q => enm_read ok.K q
    | [], _, h => exact absurd h (by unfold mIt; exact Bool.false_ne_true)
    | _ :: _ :: _, _, h => exact absurd h (by unfold mIt; exact Bool.false_ne_true)
    | [_], _ :: _, h => exact absurd h (by unfold mIt; exact Bool.false_ne_true)
  | .zip as, R, M, X, ok, t, e, h => by
    cases e <;> first | (exact absurd h (by unfold mIt; exact Bool.false_ne_true)) | skip
    rename_i fe es ks pos
    cases fe <;> first | (exact absurd h (by unfold mIt; exact Bool.false_ne_true)) | skip
    match es, ks, h with
    | [e, e2], [], h =>
      unfold mIt at h
      simp only [Bool.and_eq_true, decide_eq_true_eq] at h
      obtain ⟨⟨⟨ht, rfl⟩, hg⟩, has⟩ := h
      obtain ⟨_, _, _, rfl⟩ := isTup_of ht
      have pes := sAs as ok has
      have pl := pes.plain
      simp only [List.all_cons, List.all_nil, Bool.and_true, Bool.and_eq_true] at pl
      exact PI.imp (RZ.pi_zipA (ok.gl hg).1 (ok.blt _ (by decide +kernel)) pes.pa (star_of pl.1 _ _) (stars_no (es := [e2]) (by simp [pl.2]))) fun _ _ _ q => zip_read ok.K q
    | [], _, h => exact absurd h (by unfold mIt; exact Bool.false_ne_true)
    | [_], _, h => exact absurd h (by unfold mIt; exact Bool.false_ne_true)
    | _ :: _ :: _ :: _, _, h => exact absurd h (by unfold mIt; exact Bool.false_ne_true)
    | [_, _], _ :: _, h => exact absurd h (by unfold mIt; exact Bool.false_ne_true)
end
end Hw
set_option Elab.async false
set_option linter.all false
set_option maxRecDepth 100000
set_option maxHeartbeats 1000000
/-! statements: readings -/
namespace Hw
open PySem PySem.Spec PyProof.Rows L2
def Pin (io : List Nat) (σ σ' : Sig) : Prop := σ'.length = σ.length ∧ ∀ i ∈ io, σ'[i]? = σ[i]?
theorem Pin.refl {io : List Nat} {σ : Sig} : Pin io σ σ := ⟨rfl, fun _ _ => rfl⟩
theorem Pin.trans {io : List Nat} {σ σ1 σ2 : Sig} (h : Pin io σ σ1) (h2 : Pin io σ1 σ2) : Pin io σ σ2 := ⟨h2.1.trans h.1, fun i hi => (h2.2 i hi).trans (h.2 i hi)⟩
theorem Pin.set {io : List Nat} {σ : Sig} {i : Nat} {o : Option V} (h : i ∉ io) : Pin io σ (σ.set i o) := ⟨by rw [List.length_set], fun j hj => List.getElem?_set_ne fun e => h (by rw [e]; exact hj)⟩
def SPost (R : RC) (io : List Nat) (D : Ends) (σ : Sig) (H : Hp) (f pr : Fp) : Option SR → Prop
  | some (.nx Γ') => ∀ σ' H' f', Stp H f pr H' f' → Pin io σ σ' → St0 R.K Γ' σ' H' f' pr → D.nx σ' H'
  | some (.bk Γ') => ∀ σ' H' f', Stp H f pr H' f' → Pin io σ σ' → St0 R.K Γ' σ' H' f' pr → D.bk σ' H'
  | some (.ct Γ') => ∀ σ' H' f', Stp H f pr H' f' → Pin io σ σ' → St0 R.K Γ' σ' H' f' pr → D.ct σ' H'
  | some (.rt t Γ') => ∀ v σ' H' f', Stp H f pr H' f' → Pin io σ σ' → St1 R.K Γ' σ' H' f' pr v t → D.rt v H'
  | some (.ex x Γ') => ∀ C σ' H' f', R.mg x = some (.ref C) → Stp H f pr H' f' → Pin io σ σ' → St0 R.K Γ' σ' H' f' pr → R.W (.ref C) none σ' H'
  | none => False
def tS (R : RC) (io : List Nat) (s : CS) : TS := fun D σ H => ∃ Γ f pr, St0 R.K Γ σ H f pr ∧ SPost R io D σ H f pr (exS R.F s Γ)
def tSs (R : RC) (io : List Nat) (ss : List CS) : TS := fun D σ H => ∃ Γ f pr, St0 R.K Γ σ H f pr ∧ SPost R io D σ H f pr (exB R.F ss Γ)
section
variable {R : RC} {io : List Nat} {D : Ends} {σ : Sig} {H : Hp} {f pr : Fp}
theorem SPost.after {σ1 : Sig} {H1 : Hp} {f1 : Fp} (s : Stp H f pr H1 f1) (p : Pin io σ σ1) {r : Option SR} (h : SPost R io D σ H f pr r) : SPost R io D σ1 H1 f1 pr r := by
  cases r with
  | none => exact h
  | some r =>
    cases r with
    | nx Γ' => exact fun σ' H' f' s2 p2 st => h σ' H' f' (s.trans s2 fun _ => Nat.le_refl _) (p.trans p2) st
    | bk Γ' => exact fun σ' H' f' s2 p2 st => h σ' H' f' (s.trans s2 fun _ => Nat.le_refl _) (p.trans p2) st
    | ct Γ' => exact fun σ' H' f' s2 p2 st => h σ' H' f' (s.trans s2 fun _ => Nat.le_refl _) (p.trans p2) st
    | rt t Γ' => exact fun v σ' H' f' s2 p2 st => h v σ' H' f' (s.trans s2 fun _ => Nat.le_refl _) (p.trans p2) st
    | ex x Γ' => exact fun C σ' H' f' hm s2 p2 st => h C σ' H' f' hm (s.trans s2 fun _ => Nat.le_refl _) (p.trans p2) st
theorem St1.store {K : PySem.W.Frag} {Γ : List Tr} {v : V} {t : Tr} {i : Nat} (st : St1 K Γ σ H f pr v t) : St0 K (Γ.set i t) (σ.set i (some v)) H f pr := by
  obtain ⟨h1, h2, g, ga, hs, hg, hl⟩ := st
  exact ⟨h1, h2, _, fun _ => 0, RepS.store (i := i) hs (.mk hg), trivial, fun a => by have := hl a; show 0 + (ga a + g a + pr a) ≤ f a; omega⟩
theorem set_read {i : Nat} {e : CE} (hi : i ∉ io) (h : tS R io (.set i e) D σ H) : tAsg (tE R e) (gName i) D σ H := by
  obtain ⟨Γ, f, pr, st, h⟩ := h
  simp only [exS] at h
  refine tE_of st ?_
  cases q : ev R.F e Γ with
  | none => simp only [q] at h; exact h
  | some r =>
    cases r with
    | ex y Γ1 => simp only [q] at h; exact fun C H' f' hm s st' => h C σ H' f' hm s .refl st'
    | ok t Γ1 =>
      simp only [q] at h
      intro v H1 f1 s1 st1
      exact h _ H1 f1 s1 (.set hi) st1.store
theorem setAll_ok {K : PySem.W.Frag} : ∀ {is : List Nat} {ts : List Tr} {xs : List V} {Γ Γ1 : List Tr} {σ : Sig} {pr ga : Fp} {Q : Sig → Hp → Prop}, St0 K Γ σ H f (padd pr ga) → RepL K H f ts xs ga → setAll Γ is ts = some Γ1 →
    (∀ i ∈ is, i ∉ io) → (∀ σ1, St0 K Γ1 σ1 H f pr → Pin io σ σ1 → Q σ1 H) → gNames is xs σ H Q
  | [], [], _, _, _, _, _, _, _, st, d, e, _, q => by
    unfold setAll at e; cases e
    unfold RepL at d
    exact ⟨d, q _ (st.less (le_padd _ _)) .refl⟩
  | [], _ :: _, _, _, _, _, _, _, _, _, _, e, _, _ => by unfold setAll at e; cases e
  | _ :: _, [], _, _, _, _, _, _, _, _, _, e, _, _ => by unfold setAll at e; cases e
  | i :: is, t :: ts, _, Γ, Γ1, σ, pr, ga, Q, st, hd, e, hi, q => by
    unfold setAll at e
    obtain ⟨v, r, g1, g2, rfl, h1, h2, hl⟩ := hd
    refine ⟨v, r, rfl, ?_⟩
    have st1 : St1 K Γ σ H f (padd pr g2) v t := by
      obtain ⟨k1, k2, g, gx, hs, _, kl⟩ := st
      exact ⟨k1, k2, g, g1, hs, h1, fun a => by have := kl a; have := hl a; simp only [padd_at] at *; omega⟩
    exact setAll_ok st1.store h2 e (fun j hj => hi j (List.mem_cons_of_mem _ hj)) fun σ1 s1 p => q σ1 s1 (Pin.trans (.set (hi i (List.mem_cons_self ..))) p)
theorem setT_read {K : PySem.W.Frag} (hK : K = R.K) {is : List Nat} {e : CE} (hi : ∀ i ∈ is, i ∉ io) (h : tS R io (.setT is e) D σ H) : tAsg (tE R e) (gTup K is.length (gNames is)) D σ H := by
  subst hK
  obtain ⟨Γ, f, pr, st, h⟩ := h
  simp only [exS] at h
  refine tE_of st ?_
  cases q : ev R.F e Γ with
  | none => simp only [q] at h; exact h
  | some r =>
    cases r with
    | ex y Γ1 => simp only [q] at h; exact fun C H' f' hm s st' => h C σ H' f' hm s .refl st'
    | ok t Γ1 =>
      simp only [q] at h
      intro v H1 f1 s1 st1
      cases q1 : partsOf t with
      | none => simp only [q1, Option.bind_none] at h; exact h.elim
      | some ts =>
        simp only [q1, Option.bind_some] at h
        by_cases hl : is.length = ts.length
        · rw [if_pos hl] at h
          cases q2 : setAll Γ1 is ts with
          | none => simp only [q2, Option.map_none] at h; exact h.elim
          | some Γ2 =>
            simp only [q2, Option.map_some] at h
            obtain ⟨ga, hg, st2⟩ := st1.out
            have key : ∃ a xs, v = .ref a ∧ SqT R.K H1 a xs ∧ RepL R.K H1 f1 ts xs ga := by
              cases t with
              | t xs =>
                unfold partsOf at q1; cases q1
                unfold Rep at hg
                obtain ⟨p, vs, rfl, h1, h2⟩ := hg
                exact ⟨p, vs, rfl, SqT.of (mn_ext _ _ _ _ h1), h2⟩
              | c d =>
                cases d with
                | tuple ds =>
                  unfold partsOf at q1; cases q1
                  unfold Rep Dr at hg
                  obtain ⟨p, vs, rfl, h1, h2⟩ := hg
                  exact ⟨p, vs, rfl, SqT.of (mn_ext _ _ _ _ h1), (RepL.settled h2).mono fun _ => Nat.zero_le _⟩
                | none => unfold partsOf at q1; cases q1
                | bool _ => unfold partsOf at q1; cases q1
                | int _ => unfold partsOf at q1; cases q1
                | str _ => unfold partsOf at q1; cases q1
                | list _ => unfold partsOf at q1; cases q1
                | dict _ => unfold partsOf at q1; cases q1
              | l _ => unfold partsOf at q1; cases q1
              | s _ => unfold partsOf at q1; cases q1
              | gone => unfold partsOf at q1; cases q1
            obtain ⟨a, xs, rfl, hsq, hr⟩ := key
            exact ⟨a, xs, rfl, hsq, by rw [hr.length, hl], setAll_ok (io := io) st2 hr q2 hi fun σ1 s2 p => h σ1 H1 f1 s1 p s2⟩
        · rw [if_neg hl] at h; exact h.elim
theorem par_read {i j : Nat} {a b : CE} (hi : i ∉ io) (hj : j ∉ io) (h : tS R io (.par i j a b) D σ H) : tPar i j (tAs R [.e a, .e b]) D σ H := by
  obtain ⟨Γ, f, pr, st, h⟩ := h
  refine ⟨Γ, f, pr, st, ?_⟩
  simp only [exS] at h
  simp only [evAs]
  cases q : ev R.F a Γ with
  | none => simp only [q] at h; exact h
  | some r =>
    cases r with
    | ex y Γ1 => simp only [q] at h; exact fun C H' f' hm s st' => h C σ H' f' hm s .refl st'
    | ok t Γ1 =>
      simp only [q] at h ⊢
      cases q2 : ev R.F b Γ1 with
      | none => simp only [q2] at h; exact h
      | some r2 =>
        cases r2 with
        | ex y Γ2 => simp only [q2] at h; exact fun C H' f' hm s st' => h C σ H' f' hm s .refl st'
        | ok u Γ2 =>
          simp only [q2, AR.cons] at h ⊢
          intro vs H1 f1 s1 st1
          obtain ⟨k1, k2, g, ga, hs, hg, hl⟩ := st1
          obtain ⟨v, r, g1, g2, rfl, h1, h2, h3⟩ := hg
          obtain ⟨w, r, g3, g4, rfl, h4, h5, h6⟩ := h2
          unfold RepA at h5
          subst h5
          refine ⟨v, w, rfl, h _ H1 f1 s1 (Pin.trans (.set hi) (.set hj)) ?_⟩
          have s2 : St1 R.K Γ2 σ H1 f1 (padd pr g3) v t := ⟨k1, k2, g, g1, hs, h1, fun a => by have := hl a; have := h3 a; have := h6 a; simp only [padd_at]; omega⟩
          have s3 := s2.store (i := i)
          have s4 : St1 R.K (Γ2.set i t) (σ.set i (some v)) H1 f1 pr w u := by
            obtain ⟨k1, k2, g, gx, hs, _, kl⟩ := s3
            exact ⟨k1, k2, g, g3, hs, h4, fun a => by have := kl a; simp only [padd_at] at this; omega⟩
          exact s4.store
theorem ex_read {e : CE} (h : tS R io (.ex e) D σ H) : tDrop (tE R e) D σ H := by
  obtain ⟨Γ, f, pr, st, h⟩ := h
  simp only [exS] at h
  refine tE_of st ?_
  cases q : ev R.F e Γ with
  | none => simp only [q] at h; exact h
  | some r =>
    cases r with
    | ex y Γ1 => simp only [q] at h; exact fun C H' f' hm s st' => h C σ H' f' hm s .refl st'
    | ok t Γ1 => simp only [q] at h; exact fun v H1 f1 s1 st1 => h σ H1 f1 s1 .refl st1.drop
theorem ret_read {e : CE} (h : tS R io (.ret e) D σ H) : tRet (tE R e) D σ H := by
  obtain ⟨Γ, f, pr, st, h⟩ := h
  simp only [exS] at h
  refine tE_of st ?_
  cases q : ev R.F e Γ with
  | none => simp only [q] at h; exact h
  | some r =>
    cases r with
    | ex y Γ1 => simp only [q] at h; exact fun C H' f' hm s st' => h C σ H' f' hm s .refl st'
    | ok t Γ1 => simp only [q] at h; exact fun v H1 f1 s1 st1 => h v σ H1 f1 s1 .refl st1
theorem retN_read (h : tS R io .retN D σ H) : tRetN D σ H := by
  obtain ⟨Γ, f, pr, st, h⟩ := h
  simp only [exS] at h
  exact h .non σ H f Stp.refl .refl (st.imp fun ga _ => by unfold Rep Dr; rfl)
theorem nil_read (h : tSs R io [] D σ H) : tNext D σ H := by
  obtain ⟨Γ, f, pr, st, h⟩ := h
  simp only [exB] at h
  exact h σ H f Stp.refl .refl st
theorem cons_read {s : CS} {ss : List CS} (h : tSs R io (s :: ss) D σ H) : tSeq (tS R io s) (tSs R io ss) D σ H := by
  obtain ⟨Γ, f, pr, st, h⟩ := h
  refine ⟨Γ, f, pr, st, ?_⟩
  simp only [exB] at h
  cases q : exS R.F s Γ with
  | none => simp only [q] at h; exact h
  | some r =>
    cases r with
    | nx Γ1 =>
      simp only [q] at h
      exact fun σ' H' f' s1 p st' => ⟨Γ1, f', pr, st', h.after s1 p⟩
    | bk Γ1 => simp only [q] at h; exact h
    | ct Γ1 => simp only [q] at h; exact h
    | rt t Γ1 => simp only [q] at h; exact h
    | ex x Γ1 => simp only [q] at h; exact h
theorem next_read {s : CS} (e : ∀ Γ, exS R.F s Γ = some (.nx Γ)) (h : tS R io s D σ H) : tNext D σ H := by
  obtain ⟨Γ, f, pr, st, h⟩ := h
  rw [e] at h
  exact h σ H f Stp.refl .refl st
theorem brk_read (h : tS R io .brk D σ H) : tBreak D σ H := by
  obtain ⟨Γ, f, pr, st, h⟩ := h
  simp only [exS] at h
  exact h σ H f Stp.refl .refl st
theorem cnt_read (h : tS R io .cnt D σ H) : tCont D σ H := by
  obtain ⟨Γ, f, pr, st, h⟩ := h
  simp only [exS] at h
  exact h σ H f Stp.refl .refl st
theorem ite_read {c : CT} {a b : List CS} (h : tS R io (.ite c a b) D σ H) : tIfS (tT R c) (tSs R io a) (tSs R io b) D σ H := by
  obtain ⟨Γ, f, pr, st, h⟩ := h
  simp only [exS] at h
  refine tT_of st ?_
  cases q : evT R.F c Γ with
  | none => simp only [q] at h; exact h
  | some r =>
    cases r with
    | ex y Γ1 => simp only [q] at h; exact fun C H' f' hm s st' => h C σ H' f' hm s .refl st'
    | ok k Γ1 =>
      intro H1 f1 s1 st1
      cases k with
      | true => simp only [q] at h; rw [if_pos rfl]; exact ⟨Γ1, f1, pr, st1, h.after s1 .refl⟩
      | false => simp only [q] at h; rw [if_neg Bool.false_ne_true]; exact ⟨Γ1, f1, pr, st1, h.after s1 .refl⟩
theorem rais_read {x : Str} {C : Addr} (hm : R.mg x = some (.ref C)) (h : tS R io (.rais x) D σ H) : R.W (.ref C) none σ H := by
  obtain ⟨Γ, f, pr, st, h⟩ := h
  simp only [exS] at h
  exact h C σ H f hm Stp.refl .refl st
theorem whl_read {n : Nat} {c : CT} {body : List CS} (h : tS R io (.whl n c body) D σ H) : tWhile (tT R c) (tSs R io body) D σ H := by
  obtain ⟨Γ, f, pr, st, h⟩ := h
  simp only [exS] at h
  refine ⟨fun m σ1 H1 => ∃ Γ1 f1, St0 R.K Γ1 σ1 H1 f1 pr ∧ SPost R io D σ1 H1 f1 pr (whL (fun Γ => evT R.F c Γ) (fun Γ => exB R.F body Γ) m Γ1), ⟨n, Γ, f, st, h⟩, ?_⟩
  rintro m σ1 H1 ⟨Γ1, f1, st1, h1⟩
  cases m with
  | zero => simp only [whL] at h1; exact h1.elim
  | succ m =>
    simp only [whL] at h1
    refine tT_of st1 ?_
    cases q : evT R.F c Γ1 with
    | none => simp only [q] at h1; exact h1
    | some r =>
      cases r with
      | ex y Γ2 => simp only [q] at h1; exact fun C H' f' hm s st' => h1 C σ1 H' f' hm s .refl st'
      | ok k Γ2 =>
        intro H2 f2 s2 st2
        cases k with
        | false => simp only [q] at h1; rw [if_neg Bool.false_ne_true]; exact h1 σ1 H2 f2 s2 .refl st2
        | true =>
          simp only [q] at h1
          rw [if_pos rfl]
          have h2 := h1.after s2 .refl
          refine ⟨fun σ3 H3 => ∃ Γ3 f3, St0 R.K Γ3 σ3 H3 f3 pr ∧ SPost R io D σ3 H3 f3 pr (whL (fun Γ => evT R.F c Γ) (fun Γ => exB R.F body Γ) m Γ3), fun σ3 H3 z => ⟨m, Nat.lt_succ_self m, z⟩, Γ2, f2, pr, st2, ?_⟩
          cases q2 : exB R.F body Γ2 with
          | none => simp only [q2] at h2; exact h2
          | some r2 =>
            cases r2 with
            | nx Γ3 => simp only [q2] at h2; exact fun σ' H' f' s3 p st3 => ⟨Γ3, f', st3, h2.after s3 p⟩
            | ct Γ3 => simp only [q2] at h2; exact fun σ' H' f' s3 p st3 => ⟨Γ3, f', st3, h2.after s3 p⟩
            | bk Γ3 => simp only [q2] at h2; exact h2
            | rt t Γ3 => simp only [q2] at h2; exact h2
            | ex x Γ3 => simp only [q2] at h2; exact h2
theorem for_read {tg : CTg} {it : CIt} {body : List CS} (hi : ∀ i ∈ tg.slots, i ∉ io) (h : tS R io (.for_ tg it body) D σ H) : tFor (tI R it) (gTg R.K tg) (tSs R io body) D σ H := by
  obtain ⟨Γ, f, pr, st, h⟩ := h
  simp only [exS] at h
  refine ⟨Γ, f, pr, st, ?_⟩
  cases q : evIt R.F it Γ with
  | none => simp only [q] at h; exact h
  | some r =>
    cases r with
    | ex y Γ1 => simp only [q] at h; exact fun C H' f' hm s st' => h C σ H' f' hm s .refl st'
    | ok ds Γ1 =>
      simp only [q] at h
      intro J H1 f1 s1 st1 wk
      have h := h.after s1 .refl
      refine ⟨fun i m σ2 H2 => ∃ Γ2 f2, i + m = ds.length ∧ Ext (mn H1 f1) (mn H2 f2) ∧ St0 R.K Γ2 σ2 H2 f2 pr ∧ SPost R io D σ2 H2 f2 pr (forL (fun Γ => exB R.F body Γ) (fun Γ d => bindTg Γ tg d) (ds.drop i) Γ2), ⟨ds.length, Γ1, f1, Nat.zero_add _, fun _ _ e => e, st1, h⟩, ?_⟩
      rintro i m σ2 H2 ⟨Γ2, f2, hm, ex2, st2, h2⟩
      have W := wk i H2 f2 st2.alc ex2
      by_cases hlt : i < ds.length
      · right
        have hd : ds.drop i = ds[i] :: ds.drop (i + 1) := List.drop_eq_getElem_cons hlt
        rw [hd] at h2
        obtain ⟨go, yl⟩ := W.1 ds[i] (List.getElem?_eq_getElem hlt)
        refine ⟨go, fun σ3 H3 => ∃ Γ2 f2, i + 1 + (m - 1) = ds.length ∧ Ext (mn H1 f1) (mn H3 f2) ∧ St0 R.K Γ2 σ3 H3 f2 pr ∧ SPost R io D σ3 H3 f2 pr (forL (fun Γ => exB R.F body Γ) (fun Γ d => bindTg Γ tg d) (ds.drop (i + 1)) Γ2),
          fun σ3 H3 ⟨Γ3, f3, e3, x3, s3, p3⟩ => ⟨m - 1, by omega, Γ3, f3, e3, x3, s3, p3⟩, fun x H' hy => ?_⟩
        obtain ⟨xe, dx⟩ := yl x H' hy
        obtain ⟨stg, sg⟩ := st2.grow xe
        have h3 := h2.after (sg pr) .refl
        simp only [forL] at h3
        cases qb : bindTg Γ2 tg ds[i] with
        | none => simp only [qb] at h3; exact h3.elim
        | some Γb =>
          simp only [qb] at h3
          refine bind_ok stg dx qb fun σ4 stb l4 o4 => ?_
          have h4 := h3.after (H1 := H') (f1 := f2) Stp.refl (σ1 := σ4) ⟨l4, fun j hj => o4 j fun z => hi j z hj⟩
          refine ⟨Γb, f2, pr, stb, ?_⟩
          have again : ∀ Γ5 σ5 H5 f5, Stp H' f2 pr H5 f5 → Pin io σ4 σ5 → St0 R.K Γ5 σ5 H5 f5 pr → SPost R io D σ4 H' f2 pr (forL (fun Γ => exB R.F body Γ) (fun Γ d => bindTg Γ tg d) (ds.drop (i + 1)) Γ5) →
              ∃ Γ2 f2, i + 1 + (m - 1) = ds.length ∧ Ext (mn H1 f1) (mn H5 f2) ∧ St0 R.K Γ2 σ5 H5 f2 pr ∧ SPost R io D σ5 H5 f2 pr (forL (fun Γ => exB R.F body Γ) (fun Γ d => bindTg Γ tg d) (ds.drop (i + 1)) Γ2) :=
            fun Γ5 σ5 H5 f5 s5 p5 st5 h5 => ⟨Γ5, f5, by omega, ex2.trans (((sg pr).trans s5 fun _ => Nat.le_refl _).ext), st5, h5.after s5 p5⟩
          cases q2 : exB R.F body Γb with
          | none => simp only [q2] at h4; exact h4
          | some r2 =>
            cases r2 with
            | nx Γ3 => simp only [q2] at h4; exact fun σ' H'' f' s5 p5 st5 => again Γ3 σ' H'' f' s5 p5 st5 h4
            | ct Γ3 => simp only [q2] at h4; exact fun σ' H'' f' s5 p5 st5 => again Γ3 σ' H'' f' s5 p5 st5 h4
            | bk Γ3 => simp only [q2] at h4; exact h4
            | rt t Γ3 => simp only [q2] at h4; exact h4
            | ex x Γ3 => simp only [q2] at h4; exact h4
      · left
        have e : ds.drop i = [] := List.drop_eq_nil_of_le (Nat.le_of_not_lt hlt)
        rw [e] at h2
        simp only [forL] at h2
        exact ⟨W.2 (Nat.le_of_not_lt hlt), h2 σ2 H2 f2 Stp.refl .refl st2⟩
end
end Hw
set_option Elab.async false
set_option linter.all false
set_option maxRecDepth 100000
set_option maxHeartbeats 1000000
/-! lists that are written at a path -/
namespace Hw
open PySem PySem.Spec PyProof.Rows L2
section
variable {K : PySem.W.Frag} {H : Hp} {f : Fp}
theorem RepL.upd : ∀ {ts : List Tr} {vs : List V} {g : Fp} {j : Nat} {y : Tr}, RepL K H f ts vs g → ts[j]? = some y →
    ∃ v gj gr, vs[j]? = some v ∧ Rep K H f y v gj ∧ (∀ a, gj a + gr a ≤ g a) ∧ ∀ {H' : Hp} {f' : Fp} {y' : Tr} {gj' : Fp}, Stp H f gr H' f' → Rep K H' f' y' v gj' → RepL K H' f' (ts.set j y') vs (padd gj' gr)
  | [], _, _, _, _, _, e => by simp at e
  | x :: ts, _, _, 0, _, h, e => by
    obtain ⟨v, r, g1, g2, rfl, h1, h2, h3⟩ := h
    simp at e; subst e
    exact ⟨v, g1, g2, rfl, h1, h3, fun {H' f' y' gj'} s q => ⟨v, r, gj', g2, rfl, q, h2.stp s fun _ => Nat.le_refl _, fun _ => Nat.le_refl _⟩⟩
  | x :: ts, _, _, j + 1, _, h, e => by
    obtain ⟨v, r, g1, g2, rfl, h1, h2, h3⟩ := h
    obtain ⟨w, gj, gr, e1, q1, q2, q3⟩ := RepL.upd (j := j) h2 (by simpa using e)
    refine ⟨w, gj, padd g1 gr, by simpa using e1, q1, fun a => by have := h3 a; have := q2 a; simp only [padd_at]; omega, fun {H' f' y' gj'} s q => ?_⟩
    exact ⟨v, r, g1, padd gj' gr, rfl, h1.stp s (le_padd _ _), q3 (s.weak (le_padd' _ _)) q, fun a => by simp only [padd_at]; omega⟩
theorem RepL.store : ∀ {ts : List Tr} {vs : List V} {g g' : Fp} {j : Nat} {y : Tr} {v : V}, RepL K H f ts vs g → Rep K H f y v g' → RepL K H f (ts.set j y) (vs.set j v) (padd g' g)
  | [], _, _, _, _, _, _, h, _ => by unfold RepL at h; subst h; unfold RepL; rfl
  | x :: ts, _, _, g', 0, _, _, h, q => by
    obtain ⟨v, r, g1, g2, rfl, h1, h2, h3⟩ := h
    exact ⟨_, r, g', g2, rfl, q, h2, fun a => by have := h3 a; simp only [padd_at]; omega⟩
  | x :: ts, _, _, g', j + 1, _, _, h, q => by
    obtain ⟨v, r, g1, g2, rfl, h1, h2, h3⟩ := h
    exact ⟨v, _, g1, padd g' g2, rfl, h1, RepL.store (j := j) h2 q, fun a => by have := h3 a; simp only [padd_at]; omega⟩
theorem RepL.cat : ∀ {ts : List Tr} {vs : List V} {g g' : Fp} {us : List Tr} {ws : List V}, RepL K H f ts vs g → RepL K H f us ws g' → RepL K H f (ts ++ us) (vs ++ ws) (padd g g')
  | [], _, g, g', _, _, h, q => by unfold RepL at h; subst h; exact q.mono (le_padd' _ _)
  | x :: ts, _, g, g', _, _, h, q => by
    obtain ⟨v, r, g1, g2, rfl, h1, h2, h3⟩ := h
    exact ⟨v, _, g1, padd g2 g', rfl, h1, RepL.cat h2 q, fun a => by have := h3 a; simp only [padd_at]; omega⟩
def nodeV (H : Hp) : V → List Int → V → Prop
  | x, [], o => o = x
  | x, k :: ks, o => ∃ p vs v, x = .ref p ∧ (H p = some (.lst vs) ∨ H p = some (.tup vs)) ∧ atI vs k = some v ∧ nodeV H v ks o
theorem put_node {F : List Tr → Option (List Tr)} {o : V} (hf : ∀ a, f a ≤ 1) : ∀ {ks : List Int} {t t2 : Tr} {x : V} {g : Fp}, Rep K H f t x g → putP F ks t = some t2 → (∀ a, g a ≤ f a) → nodeV H x ks o →
    ∃ p vs xs ys g1, (ks = [] → t = .l xs) ∧ o = .ref p ∧ H p = some (.lst vs) ∧ F xs = some ys ∧ RepL K H f xs vs g1 ∧ (∀ a, one p a + g1 a ≤ g a) ∧
      ∀ {vs2 : List V} {gx : Fp}, RepL K (upd H p (.lst vs2)) f ys vs2 gx → ∃ g2, Rep K (upd H p (.lst vs2)) f t2 x g2 ∧ ∀ a, g2 a + g1 a ≤ g a + gx a
  | [], t, t2, x, g, h, e, hg, nd => by
    unfold nodeV at nd
    subst nd
    cases t with
    | l xs =>
      unfold putP at e
      obtain ⟨ys, e1, e2⟩ := Option.map_eq_some_iff.mp e
      subst e2
      unfold Rep at h
      obtain ⟨p, vs, g1, rfl, hp, rl, l⟩ := h
      exact ⟨p, vs, xs, ys, g1, fun _ => rfl, rfl, hp, e1, rl, l, fun {vs2 gx} q => ⟨padd (one p) gx, by unfold Rep; exact ⟨p, vs2, gx, rfl, upd_same, q, fun _ => Nat.le_refl _⟩, fun a => by have := l a; simp only [padd_at]; omega⟩⟩
    | c d => unfold putP at e; cases e
    | t d => unfold putP at e; cases e
    | s d => unfold putP at e; cases e
    | gone => unfold putP at e; cases e
  | k :: ks, t, t2, x, g, h, e, hg, nd => by
    obtain ⟨p', vs', v', rfl, hor, hat, nd⟩ := nd
    cases t with
    | l xs =>
      unfold putP at e
      obtain ⟨j, ej, e⟩ := Option.bind_eq_some_iff.mp e
      obtain ⟨y, ey, e⟩ := Option.bind_eq_some_iff.mp e
      obtain ⟨y2, e2, e⟩ := Option.map_eq_some_iff.mp e
      subst e
      unfold Rep at h
      obtain ⟨p0, vs, g', hp', hp, rl, l⟩ := h
      cases hp'
      have hvs : vs' = vs := by rcases hor with z | z <;> (rw [hp] at z; cases z); rfl
      subst hvs
      obtain ⟨v, gj, gr, ev, rv, lj, up⟩ := rl.upd ey
      have : v' = v := by
        unfold atI at hat
        rw [rl.length] at hat
        rw [ej] at hat
        exact Option.some.inj ((show vs'[j]? = some v' from hat).symm.trans ev)
      subst this
      obtain ⟨p, ws, zs, ys, g1, _, rfl, hpp, eF, rl1, l1, fin⟩ := put_node hf rv e2 (fun a => by have := lj a; have := l a; have := hg a; omega) nd
      have pp : 1 ≤ gj p := by have := l1 p; rw [one_self] at this; omega
      have ne : p' ≠ p := fun z => by subst z; have := l p'; have := lj p'; have := hg p'; have := hf p'; rw [one_self] at *; omega
      have sw : ∀ vs2, Stp H f gr (upd H p (.lst vs2)) f := fun vs2 => stp_write (K := K) (by have := lj p; have := l p; have := hg p; omega) gr (by have := lj p; have := l p; have := hg p; have := hf p; omega)
      refine ⟨p, ws, zs, ys, g1, (fun z => by cases z), rfl, hpp, eF, rl1, fun a => by have := l1 a; have := lj a; have := l a; omega, fun {vs2 gx} q => ?_⟩
      obtain ⟨g2, r2, l2⟩ := fin q
      refine ⟨padd (one p') (padd g2 gr), ?_, fun a => by have := l2 a; have := lj a; have := l a; simp only [padd_at]; omega⟩
      unfold Rep
      exact ⟨p', vs', padd g2 gr, rfl, by rw [upd_ne ne]; exact hp, up (sw vs2) r2, fun _ => Nat.le_refl _⟩
    | t xs =>
      unfold putP at e
      obtain ⟨j, ej, e⟩ := Option.bind_eq_some_iff.mp e
      obtain ⟨y, ey, e⟩ := Option.bind_eq_some_iff.mp e
      obtain ⟨y2, e2, e⟩ := Option.map_eq_some_iff.mp e
      subst e
      unfold Rep at h
      obtain ⟨p0, vs, hp', hp, rl⟩ := h
      cases hp'
      have hp0 := mn_some hp
      have hvs : vs' = vs := by rcases hor with z | z <;> (rw [hp0.2] at z; cases z); rfl
      subst hvs
      obtain ⟨v, gj, gr, ev, rv, lj, up⟩ := rl.upd ey
      have : v' = v := by
        unfold atI at hat
        rw [rl.length] at hat
        rw [ej] at hat
        exact Option.some.inj ((show vs'[j]? = some v' from hat).symm.trans ev)
      subst this
      obtain ⟨p, ws, zs, ys, g1, _, rfl, hpp, eF, rl1, l1, fin⟩ := put_node hf rv e2 (fun a => by have := lj a; have := hg a; omega) nd
      have pp : 1 ≤ gj p := by have := l1 p; rw [one_self] at this; omega
      have ne : p' ≠ p := fun z => by subst z; have := lj p'; have := hg p'; omega
      have sw : ∀ vs2, Stp H f gr (upd H p (.lst vs2)) f := fun vs2 => stp_write (K := K) (by have := lj p; have := hg p; omega) gr (by have := lj p; have := hg p; have := hf p; omega)
      refine ⟨p, ws, zs, ys, g1, (fun z => by cases z), rfl, hpp, eF, rl1, fun a => by have := l1 a; have := lj a; omega, fun {vs2 gx} q => ?_⟩
      obtain ⟨g2, r2, l2⟩ := fin q
      refine ⟨padd g2 gr, ?_, fun a => by have := l2 a; have := lj a; simp only [padd_at]; omega⟩
      unfold Rep
      exact ⟨p', vs', rfl, mn_of hp0.1 (by rw [upd_ne ne]; exact hp0.2), up (sw vs2) r2⟩
    | c d => unfold putP at e; cases e
    | s d => unfold putP at e; cases e
    | gone => unfold putP at e; cases e
theorem put_fin {Γ : List Tr} {σ : Sig} {F : List Tr → Option (List Tr)} {ks : List Int} {t t2 : Tr} {v0 o : V} {pr ga g : Fp} {i : Nat} (st : St0 K Γ σ H f (padd (padd pr ga) g)) (r : Rep K H f t v0 g) (hp : putP F ks t = some t2) (nd : nodeV H v0 ks o)
    (hi : Γ[i]? = some .gone) (hv : σ[i]? = some (some v0)) :
    ∃ p vs xs ys, (ks = [] → t = .l xs) ∧ o = .ref p ∧ H p = some (.lst vs) ∧ F xs = some ys ∧ vs.length = xs.length ∧
      ∀ {vs2 : List V}, (∀ g1, Stp H f ga (upd H p (.lst vs2)) f → RepL K (upd H p (.lst vs2)) f xs vs g1 → ∃ gx, RepL K (upd H p (.lst vs2)) f ys vs2 gx ∧ ∀ a, gx a ≤ ga a + g1 a) →
        Stp H f pr (upd H p (.lst vs2)) f ∧ St0 K (Γ.set i t2) σ (upd H p (.lst vs2)) f pr := by
  obtain ⟨h1, h2, gs, _, hs, _, hl⟩ := id st
  obtain ⟨p, vs, xs, ys, g1, tt, rfl, hpp, eF, rl, l1, fin⟩ := put_node h1 r hp (fun a => by have := hl a; simp only [padd_at] at this; omega) nd
  refine ⟨p, vs, xs, ys, tt, rfl, hpp, eF, rl.length, fun {vs2} q => ?_⟩
  have pp : 1 ≤ g p := by have := l1 p; rw [one_self] at this; omega
  have fp : 1 ≤ f p := by have := hl p; simp only [padd_at] at this; omega
  have z : gs p = 0 ∧ pr p = 0 ∧ ga p = 0 ∧ g1 p = 0 := by
    have := hl p; have := h1 p; have := l1 p; simp only [padd_at, one_self] at *; omega
  have sw : ∀ gg : Fp, gg p = 0 → Stp H f gg (upd H p (.lst vs2)) f := fun gg hz => stp_write (K := K) fp gg hz
  obtain ⟨gx, rx, lx⟩ := q g1 (sw ga z.2.2.1) (rl.stp (sw g1 z.2.2.2) fun _ => Nat.le_refl _)
  obtain ⟨g2, r2, l2⟩ := fin rx
  refine ⟨sw pr z.2.1, h1, fun a ha => ?_, _, fun _ => 0, RepS.put (hs.stp (sw gs z.1) fun _ => Nat.le_refl _) hi hv (.mk r2), trivial, fun a => by have := hl a; have := l2 a; have := lx a; simp only [padd_at] at *; omega⟩
  by_cases e : a = p
  · subst e; exact ⟨_, upd_same⟩
  · obtain ⟨u, hu⟩ := h2 a ha
    exact ⟨u, by rw [upd_ne e]; exact hu⟩
end
section
variable {R : RC} {io : List Nat} {D : Ends} {σ : Sig} {Q : VK}
theorem walk_path {F : List Tr → Option (List Tr)} : ∀ {es : List CE} {Γ Γ2 : List Tr} {f pr : Fp} {H : Hp} {x : V} {t t2 : Tr} {g : Fp} {avs : List AV} {ks : List Int} {Q : VK}, St0 R.K Γ σ H f pr → Rep R.K H f t x g → (∀ a, g a ≤ pr a) →
    evAs R.F (es.map .e) Γ = some (.ok avs Γ2) → idxs avs = some ks → putP F ks t = some t2 →
    (∀ o H' f', Stp H f pr H' f' → St0 R.K Γ2 σ H' f' pr → (∀ H'' f'', Stp H' f' pr H'' f'' → nodeV H'' x ks o) → Q o H') → pthK R es x σ H Q
  | [], Γ, Γ2, f, pr, H, x, t, t2, g, avs, ks, Q, st, r, lg, ea, ek, ep, q => by
    simp only [List.map_nil, evAs] at ea
    cases ea
    unfold idxs at ek
    cases ek
    exact q x H f Stp.refl st fun _ _ _ => rfl
  | e :: es, Γ, Γ2, f, pr, H, x, t, t2, g, avs, ks, Q, st, r, lg, ea, ek, ep, q => by
    simp only [List.map_cons, evAs] at ea
    show tE R e σ H fun y H1 => rIx R.K x y H1 fun z H2 => pthK R es z σ H2 Q
    refine tE_of st ?_
    cases q1 : ev R.F e Γ with
    | none => simp only [q1] at ea; cases ea
    | some rr =>
      cases rr with
      | ex y Γ1 => simp only [q1] at ea; cases ea
      | ok te Γ1 =>
        simp only [q1] at ea
        cases q2 : evAs R.F (es.map .e) Γ1 with
        | none => simp only [q2, AR.cons] at ea; cases ea
        | some r2 =>
          cases r2 with
          | ex y Γ3 => simp only [q2, AR.cons] at ea; cases ea
          | ok avs2 Γ3 =>
            simp only [q2, AR.cons] at ea
            cases ea
            unfold idxs at ek
            cases q3 : asInt te with
            | none => simp only [q3] at ek; cases ek
            | some k =>
              cases q4 : idxs avs2 with
              | none => simp only [q3, q4] at ek; cases ek
              | some ks2 =>
                simp only [q3, q4] at ek
                cases ek
                intro v H1 f1 s1 st1
                have hk : v = .int k := by
                  obtain ⟨_, _, _, ga, _, hg, _⟩ := id st1
                  exact asInt_rep ⟨ga, hg⟩ q3
                subst hk
                have r1 := r.stp s1 lg
                have st2 := st1.drop
                have stay : ∀ {p : Addr} {u : HO}, 1 ≤ g p ∨ f1 p = 0 → H1 p = some u → ∀ {H' : Hp} {f' : Fp}, Stp H1 f1 pr H' f' → H' p = some u := fun {p u} hor e {H' f'} s => hor.elim (fun z => s.2 p u (Nat.le_trans z (lg p)) e) fun z => (s.1 p u e z).1
                have fin : ∀ {p : Addr} {vs : List V} {z : V}, x = .ref p → (1 ≤ g p ∨ f1 p = 0) → (H1 p = some (.lst vs) ∨ H1 p = some (.tup vs)) → atI vs k = some z → ∀ o H' f', Stp H1 f1 pr H' f' → St0 R.K Γ2 σ H' f' pr → (∀ H'' f'', Stp H' f' pr H'' f'' → nodeV H'' z ks2 o) → Q o H' :=
                  fun {p vs z} hx hor hh hz o H' f' s st' nd => q o H' f' (s1.trans s fun _ => Nat.le_refl _) st' fun H'' f'' s2 => ⟨p, vs, z, hx, hh.imp (fun e => stay hor e (s.trans s2 fun _ => Nat.le_refl _)) (fun e => stay hor e (s.trans s2 fun _ => Nat.le_refl _)), hz, nd H'' f'' s2⟩
                cases t with
                | l xs =>
                  unfold putP at ep
                  obtain ⟨j, ej, ep⟩ := Option.bind_eq_some_iff.mp ep
                  obtain ⟨y, ey, ep⟩ := Option.bind_eq_some_iff.mp ep
                  obtain ⟨y2, e2, ep⟩ := Option.map_eq_some_iff.mp ep
                  unfold Rep at r1
                  obtain ⟨p, vs, g', rfl, hp, rl, l⟩ := r1
                  obtain ⟨z, gz, ez, rz, lz⟩ := rl.get ey
                  have hz : atI vs k = some z := by
                    unfold atI
                    rw [rl.length, ej]; exact ez
                  exact .inl ⟨p, vs, k, z, rfl, rfl, SqL.of hp, hz, walk_path st2 rz (fun a => by have := lz a; have := l a; have := lg a; omega) q2 q4 e2 (fin rfl (.inl (by have := l p; rw [one_self] at this; omega)) (.inl hp) hz)⟩
                | t xs =>
                  unfold putP at ep
                  obtain ⟨j, ej, ep⟩ := Option.bind_eq_some_iff.mp ep
                  obtain ⟨y, ey, ep⟩ := Option.bind_eq_some_iff.mp ep
                  obtain ⟨y2, e2, ep⟩ := Option.map_eq_some_iff.mp ep
                  unfold Rep at r1
                  obtain ⟨p, vs, rfl, hp, rl⟩ := r1
                  obtain ⟨z, gz, ez, rz, lz⟩ := rl.get ey
                  have hp0 := mn_some hp
                  have hz : atI vs k = some z := by
                    unfold atI
                    rw [rl.length, ej]; exact ez
                  exact .inr (.inl ⟨p, vs, k, z, rfl, rfl, SqT.of hp0.2, hz, walk_path st2 rz (fun a => by have := lz a; have := lg a; omega) q2 q4 e2 (fin rfl (.inr hp0.1) (.inr hp0.2) hz)⟩)
                | c d => unfold putP at ep; cases ep
                | s d => unfold putP at ep; cases ep
                | gone => unfold putP at ep; cases ep
theorem setp_read {i : Nat} {es : List CE} {l e : CE} {H : Hp} (h : tS R io (.setp i es l e) D σ H) : tAsg (tE R e) (gSub (tPth R (tVar i) es) (tE R l) rSetL) D σ H := by
  obtain ⟨Γ, f, pr, st, h⟩ := h
  simp only [exS] at h
  refine tE_of st ?_
  cases q : ev R.F e Γ with
  | none => simp only [q] at h; exact h
  | some r =>
    cases r with
    | ex y Γ1 => simp only [q] at h; exact fun C H' f' hm s st' => h C σ H' f' hm s .refl st'
    | ok tv Γ1 =>
      simp only [q] at h
      intro v H1 f1 s1 st1
      cases e1 : Γ1[i]? with
      | none => simp only [e1] at h; exact h.elim
      | some t =>
        by_cases n : t = .gone
        · subst n; simp only [e1] at h; exact h.elim
        have h : SPost R io D σ H f pr (match evAs R.F (es.map .e) (Γ1.set i .gone) with
            | some (.ok avs Γ2) => (match idxs avs with
              | some ks => (match ev R.F l Γ2 with
                | some (.ok tl Γ3) => (match asInt tl, Γ3[i]? with
                  | some k, some .gone => (match putP (setAt k tv) ks t with
                    | some t' => some (.nx (Γ3.set i t'))
                    | none => none)
                  | _, _ => none)
                | _ => none)
              | none => none)
            | _ => none) := by
          cases t <;> first | exact absurd rfl n | (simp only [e1] at h; exact h)
        cases q2 : evAs R.F (es.map .e) (Γ1.set i .gone) with
        | none => simp only [q2] at h; exact h.elim
        | some r2 =>
          cases r2 with
          | ex y Γ2 => simp only [q2] at h; exact h.elim
          | ok avs Γ2 =>
            simp only [q2] at h
            cases q3 : idxs avs with
            | none => simp only [q3] at h; exact h.elim
            | some ks =>
              simp only [q3] at h
              cases q4 : ev R.F l Γ2 with
              | none => simp only [q4] at h; exact h.elim
              | some r4 =>
                cases r4 with
                | ex y Γ3 => simp only [q4] at h; exact h.elim
                | ok tl Γ3 =>
                  simp only [q4] at h
                  cases q5 : asInt tl with
                  | none => simp only [q5] at h; exact h.elim
                  | some k =>
                    cases e3 : Γ3[i]? with
                    | none => simp only [q5, e3] at h; exact h.elim
                    | some t3 =>
                      cases t3 with
                      | gone =>
                        simp only [q5, e3] at h
                        cases q6 : putP (setAt k tv) ks t with
                        | none => simp only [q6] at h; exact h.elim
                        | some t' =>
                          simp only [q6] at h
                          obtain ⟨ga, hg, st2⟩ := st1.out
                          obtain ⟨v0, g, hv, r0, st3⟩ := st2.takeOut e1 n
                          show tPth R (tVar i) es σ H1 _
                          rw [tPth_eq]
                          refine ⟨v0, hv, walk_path st3 r0 (le_padd' _ _) q2 q3 q6 fun o H2 f2 s2 st4 nd => ?_⟩
                          refine tE_of st4 ?_
                          rw [q4]
                          intro iv H3 f3 s3 st5
                          have hk : iv = .int k := by
                            obtain ⟨_, _, _, gb, _, hgb, _⟩ := id st5
                            exact asInt_rep ⟨gb, hgb⟩ q5
                          subst hk
                          have s23 := s2.trans s3 fun _ => Nat.le_refl _
                          have r3 := r0.stp s23 (le_padd' _ _)
                          have hg3 := hg.stp s23 fun a => by simp only [padd_at]; omega
                          obtain ⟨p, vs, xs, ys, _, rfl, hp, eF, hl, fin⟩ := put_fin st5.drop r3 q6 (nd H3 f3 s3) e3 hv
                          unfold setAt at eF
                          obtain ⟨j, ej, ey⟩ := Option.map_eq_some_iff.mp eF
                          subst ey
                          obtain ⟨sw, st6⟩ := fin (vs2 := vs.set j v) fun g1 sg rl => ⟨padd ga g1, rl.store (hg3.stp sg fun _ => Nat.le_refl _), fun a => Nat.le_refl _⟩
                          refine ⟨p, vs, k, j, rfl, rfl, hp, by rw [hl]; exact ej, ?_⟩
                          exact h σ _ f3 (s1.trans ((s23.weak fun a => by simp only [padd_at]; omega).trans sw fun _ => Nat.le_refl _) fun _ => Nat.le_refl _) .refl st6
                      | c d => simp only [q5, e3] at h; exact h.elim
                      | l d => simp only [q5, e3] at h; exact h.elim
                      | t d => simp only [q5, e3] at h; exact h.elim
                      | s d => simp only [q5, e3] at h; exact h.elim
theorem node_ty {H : Hp} {f : Fp} {F : List Tr → Option (List Tr)} {ks : List Int} {t t2 : Tr} {x o : V} {g pr : Fp} {Γ : List Tr} (st : St0 R.K Γ σ H f (padd pr g)) (r : Rep R.K H f t x g) (hp : putP F ks t = some t2) (nd : nodeV H x ks o) : tyV R.K "list" o H := by
  obtain ⟨h1, h2, gs, _, hs, _, hl⟩ := id st
  obtain ⟨p, vs, xs, ys, g1, _, rfl, hpp, _⟩ := put_node h1 r hp (fun a => by have := hl a; simp only [padd_at] at this; omega) nd
  exact ty_list hpp
theorem app_read {i : Nat} {e0 : CE} {es : List CE} {e : CE} {H : Hp} (h : tS R io (.app i (e0 :: es) e) D σ H) : tDrop (tBM R.K "list" rAppend (tPth R (tVar i) (e0 :: es)) (tAs R [.e e])) D σ H := by
  obtain ⟨Γ, f, pr, st, h⟩ := h
  simp only [exS] at h
  revert h
  generalize e0 :: es = es
  intro h
  cases e1 : Γ[i]? with
  | none => simp only [e1] at h; exact h.elim
  | some t =>
    by_cases n : t = .gone
    · subst n; simp only [e1] at h; exact h.elim
    have h : SPost R io D σ H f pr (match evAs R.F (es.map .e) (Γ.set i .gone) with
        | some (.ok avs Γ2) => (match idxs avs with
          | some ks => (match ev R.F e Γ2 with
            | some (.ok v Γ3) => (match Γ3[i]? with
              | some .gone => (match putP (appAt v) ks t with
                | some t' => some (.nx (Γ3.set i t'))
                | none => none)
              | _ => none)
            | _ => none)
          | none => none)
        | _ => none) := by
      cases t <;> first | exact absurd rfl n | (simp only [e1] at h; exact h)
    cases q2 : evAs R.F (es.map .e) (Γ.set i .gone) with
    | none => simp only [q2] at h; exact h.elim
    | some r2 =>
      cases r2 with
      | ex y Γ2 => simp only [q2] at h; exact h.elim
      | ok avs Γ2 =>
        simp only [q2] at h
        cases q3 : idxs avs with
        | none => simp only [q3] at h; exact h.elim
        | some ks =>
          simp only [q3] at h
          cases q4 : ev R.F e Γ2 with
          | none => simp only [q4] at h; exact h.elim
          | some r4 =>
            cases r4 with
            | ex y Γ3 => simp only [q4] at h; exact h.elim
            | ok tv Γ3 =>
              simp only [q4] at h
              cases e3 : Γ3[i]? with
              | none => simp only [e3] at h; exact h.elim
              | some t3 =>
                cases t3 with
                | gone =>
                  simp only [e3] at h
                  cases q6 : putP (appAt tv) ks t with
                  | none => simp only [q6] at h; exact h.elim
                  | some t' =>
                    simp only [q6] at h
                    obtain ⟨v0, g, hv, r0, st3⟩ := st.takeOut e1 n
                    show tPth R (tVar i) es σ H _
                    rw [tPth_eq]
                    refine ⟨v0, hv, walk_path st3 r0 (le_padd' _ _) q2 q3 q6 fun o H2 f2 s2 st4 nd => ?_⟩
                    refine ⟨node_ty st4 (r0.stp s2 (le_padd' _ _)) q6 (nd H2 f2 Stp.refl), Γ2, f2, padd pr g, st4, ?_⟩
                    simp only [evAs, q4, AR.cons]
                    intro ws H3 f3 s3 st5
                    obtain ⟨gb, hgb, st6⟩ := st5.out
                    obtain ⟨v, rr, g1, g2, rfl, hv1, hv2, hv3⟩ := hgb
                    unfold RepA at hv2
                    subst hv2
                    have r3 := r0.stp (s2.trans s3 fun _ => Nat.le_refl _) (le_padd' _ _)
                    have st7 : St0 R.K Γ3 σ H3 f3 (padd (padd pr g1) g) := st6.less fun a => by have := hv3 a; simp only [padd_at]; omega
                    obtain ⟨p, vs, xs, ys, _, rfl, hp, eF, hl, fin⟩ := put_fin st7 r3 q6 (nd H3 f3 s3) e3 hv
                    unfold appAt at eF
                    split at eF
                    · rename_i hz
                      cases eF
                      obtain ⟨sw, st8⟩ := fin (vs2 := vs ++ [v]) fun g0 sg rl => ⟨padd g0 g1, rl.cat (by exact ⟨v, [], g1, fun _ => 0, rfl, hv1.stp sg fun _ => Nat.le_refl _, by unfold RepL; rfl, fun a => Nat.le_refl _⟩), fun a => by simp only [padd_at]; omega⟩
                      refine ⟨p, vs, v, rfl, rfl, hp, by rw [hl]; exact hz, ?_⟩
                      exact h σ _ f3 ((((s2.trans s3 fun _ => Nat.le_refl _).weak (le_padd _ _))).trans sw fun _ => Nat.le_refl _) .refl st8
                    · cases eF
                | c d => simp only [e3] at h; exact h.elim
                | l d => simp only [e3] at h; exact h.elim
                | t d => simp only [e3] at h; exact h.elim
                | s d => simp only [e3] at h; exact h.elim
theorem app0_read {i : Nat} {e : CE} {H : Hp} (h : tS R io (.app i [] e) D σ H) : tDrop (tBM R.K "list" rAppend (tVar i) (tAs R [.e e])) D σ H := by
  obtain ⟨Γ, f, pr, st, h⟩ := h
  simp only [exS] at h
  cases e1 : Γ[i]? with
  | none => simp only [e1] at h; exact h.elim
  | some t =>
    cases t with
    | l xs0 =>
      simp only [e1] at h
      obtain ⟨v0, g0, hv, r0, _⟩ := st.takeOut e1 (by simp)
      obtain ⟨p0, vs0, rfl, hp0, _, _⟩ := pop_core st e1 hv
      refine ⟨.ref p0, hv, ty_list hp0, Γ, f, pr, st, ?_⟩
      simp only [evAs]
      cases q : ev R.F e Γ with
      | none => simp only [q] at h; exact h
      | some r =>
        cases r with
        | ex y Γ1 => simp only [q] at h; exact fun C H' f' hm s st' => h C σ H' f' hm s .refl st'
        | ok tv Γ1 =>
          simp only [q, AR.cons] at h ⊢
          intro ws H1 f1 s1 st1
          obtain ⟨gb, hgb, st2⟩ := st1.out
          obtain ⟨v, rr, g1, g2, rfl, hv1, hv2, hv3⟩ := hgb
          unfold RepA at hv2
          subst hv2
          cases e3 : Γ1[i]? with
          | none => simp only [e3] at h; exact h.elim
          | some t3 =>
            cases t3 with
            | l xs =>
              simp only [e3] at h
              by_cases hz : xs.length < sizeLine
              · rw [if_pos hz] at h
                obtain ⟨w, g, hw, r3, st3⟩ := st2.takeOut e3 (by simp)
                rw [hv] at hw; cases hw
                have st7 : St0 R.K (Γ1.set i .gone) σ H1 f1 (padd (padd pr g1) g) := st3.less fun a => by have := hv3 a; simp only [padd_at]; omega
                have hi : (Γ1.set i .gone)[i]? = some .gone := List.getElem?_set_self (List.getElem?_eq_some_iff.mp e3).1
                obtain ⟨p, vs, xs', ys, tt, ho, hp, eF, hl, fin⟩ := put_fin (F := appAt tv) (ks := []) (o := .ref p0) (t2 := .l (xs ++ [tv])) st7 r3 (by unfold putP appAt; rw [if_pos hz]; rfl) rfl hi hv
                cases ho
                cases tt rfl
                unfold appAt at eF
                rw [if_pos hz] at eF
                cases eF
                obtain ⟨sw, st8⟩ := fin (vs2 := vs ++ [v]) fun g0 sg rl => ⟨padd g0 g1, rl.cat (by exact ⟨v, [], g1, fun _ => 0, rfl, hv1.stp sg fun _ => Nat.le_refl _, by unfold RepL; rfl, fun a => Nat.le_refl _⟩), fun a => by simp only [padd_at]; omega⟩
                rw [List.set_set] at st8
                exact ⟨p0, vs, v, rfl, rfl, hp, by rw [hl]; exact hz, h σ _ f1 (s1.trans sw fun _ => Nat.le_refl _) .refl st8⟩
              · rw [if_neg hz] at h; exact h.elim
            | c d => simp only [e3] at h; exact h.elim
            | gone => simp only [e3] at h; exact h.elim
            | t d => simp only [e3] at h; exact h.elim
            | s d => simp only [e3] at h; exact h.elim
    | c d => simp only [e1] at h; exact h.elim
    | gone => simp only [e1] at h; exact h.elim
    | t d => simp only [e1] at h; exact h.elim
    | s d => simp only [e1] at h; exact h.elim
theorem ext_read {i : Nat} {e : CE} {H : Hp} (h : tS R io (.ext i e) D σ H) : tDrop (tBM R.K "list" rExtend (tVar i) (tAs R [.e e])) D σ H := by
  obtain ⟨Γ, f, pr, st, h⟩ := h
  simp only [exS] at h
  cases e1 : Γ[i]? with
  | none => simp only [e1] at h; exact h.elim
  | some t =>
    cases t with
    | l xs0 =>
      simp only [e1] at h
      obtain ⟨v0, g0, hv, r0, _⟩ := st.takeOut e1 (by simp)
      obtain ⟨p0, vs0, rfl, hp0, _, _⟩ := pop_core st e1 hv
      refine ⟨.ref p0, hv, ty_list hp0, Γ, f, pr, st, ?_⟩
      simp only [evAs]
      cases q : ev R.F e Γ with
      | none => simp only [q] at h; exact h
      | some r =>
        cases r with
        | ex y Γ1 => simp only [q] at h; exact fun C H' f' hm s st' => h C σ H' f' hm s .refl st'
        | ok tv Γ1 =>
          simp only [q, AR.cons] at h ⊢
          intro ws H1 f1 s1 st1
          obtain ⟨gb, hgb, st2⟩ := st1.out
          obtain ⟨v, rr, g1, g2, rfl, hv1, hv2, hv3⟩ := hgb
          unfold RepA at hv2
          subst hv2
          cases e3 : Γ1[i]? with
          | none => simp only [e3] at h; exact h.elim
          | some t3 =>
            cases t3 with
            | l xs =>
              simp only [e3] at h
              have key : ∃ us, (match tv with
                  | .l vs => some vs
                  | .c (.list ds) => some (ds.map .c)
                  | _ => none) = some us ∧ SPost R io D σ H f pr (if xs.length + us.length ≤ sizeLine then some (.nx (Γ1.set i (.l (xs ++ us)))) else none) := by
                cases tv with
                | l vs => exact ⟨vs, rfl, h⟩
                | c d =>
                  cases d with
                  | list ds => exact ⟨_, rfl, by rw [List.length_map]; exact h⟩
                  | none => exact h.elim
                  | bool _ => exact h.elim
                  | int _ => exact h.elim
                  | str _ => exact h.elim
                  | tuple _ => exact h.elim
                  | dict _ => exact h.elim
                | t _ => exact h.elim
                | s _ => exact h.elim
                | gone => exact h.elim
              obtain ⟨us, hus, h⟩ := key
              have rep : ∃ b zs g3, v = .ref b ∧ H1 b = some (.lst zs) ∧ RepL R.K H1 f1 us zs g3 ∧ ∀ a, g3 a ≤ g1 a := by
                cases tv with
                | l vs =>
                  cases hus
                  unfold Rep at hv1
                  obtain ⟨b, zs, g3, rfl, hb, rl, l⟩ := hv1
                  exact ⟨b, zs, g3, rfl, hb, rl, fun a => by have := l a; omega⟩
                | c d =>
                  cases d with
                  | list ds =>
                    cases hus
                    unfold Rep Dr at hv1
                    obtain ⟨b, zs, rfl, hb, rl⟩ := hv1
                    exact ⟨b, zs, _, rfl, mn_ext _ _ _ _ hb, RepL.settled rl, fun a => Nat.zero_le _⟩
                  | none => cases hus
                  | bool _ => cases hus
                  | int _ => cases hus
                  | str _ => cases hus
                  | tuple _ => cases hus
                  | dict _ => cases hus
                | t _ => cases hus
                | s _ => cases hus
                | gone => cases hus
              obtain ⟨b, zs, g3, rfl, hb, ru, lu⟩ := rep
              by_cases hz : xs.length + us.length ≤ sizeLine
              · rw [if_pos hz] at h
                obtain ⟨w, g, hw, r3, st3⟩ := st2.takeOut e3 (by simp)
                rw [hv] at hw; cases hw
                have st7 : St0 R.K (Γ1.set i .gone) σ H1 f1 (padd (padd pr g3) g) := st3.less fun a => by have := hv3 a; have := lu a; simp only [padd_at]; omega
                have hi : (Γ1.set i .gone)[i]? = some .gone := List.getElem?_set_self (List.getElem?_eq_some_iff.mp e3).1
                obtain ⟨p, vs, xs', ys, tt, ho, hp, eF, hl, fin⟩ := put_fin (F := extAt us) (ks := []) (o := .ref p0) (t2 := .l (xs ++ us)) st7 r3 (by unfold putP extAt; rw [if_pos hz]; rfl) rfl hi hv
                cases ho
                cases tt rfl
                unfold extAt at eF
                rw [if_pos hz] at eF
                cases eF
                obtain ⟨sw, st8⟩ := fin (vs2 := vs ++ zs) fun g0 sg rl => ⟨padd g0 g3, rl.cat (ru.stp sg fun _ => Nat.le_refl _), fun a => by simp only [padd_at]; omega⟩
                rw [List.set_set] at st8
                exact ⟨p0, b, vs, zs, rfl, rfl, hp, hb, by rw [hl, ru.length]; exact hz, h σ _ f1 (s1.trans sw fun _ => Nat.le_refl _) .refl st8⟩
              · rw [if_neg hz] at h; exact h.elim
            | c d => simp only [e3] at h; exact h.elim
            | gone => simp only [e3] at h; exact h.elim
            | t d => simp only [e3] at h; exact h.elim
            | s d => simp only [e3] at h; exact h.elim
    | c d => simp only [e1] at h; exact h.elim
    | gone => simp only [e1] at h; exact h.elim
    | t d => simp only [e1] at h; exact h.elim
    | s d => simp only [e1] at h; exact h.elim
theorem clr_read {i : Nat} {es : List CE} {H : Hp} (h : tS R io (.clr i es) D σ H) : tDrop (tBM0 R.K "list" rClear (tPth R (tVar i) es)) D σ H := by
  obtain ⟨Γ, f, pr, st, h⟩ := h
  simp only [exS] at h
  cases e1 : Γ[i]? with
  | none => simp only [e1] at h; exact h.elim
  | some t =>
    by_cases n : t = .gone
    · subst n; simp only [e1] at h; exact h.elim
    have h : SPost R io D σ H f pr (match evAs R.F (es.map .e) (Γ.set i .gone) with
        | some (.ok avs Γ2) => (match idxs avs with
          | some ks => (match Γ2[i]? with
            | some .gone => (match putP (fun _ => some []) ks t with
              | some t' => some (.nx (Γ2.set i t'))
              | none => none)
            | _ => none)
          | none => none)
        | _ => none) := by
      cases t <;> first | exact absurd rfl n | (simp only [e1] at h; exact h)
    cases q2 : evAs R.F (es.map .e) (Γ.set i .gone) with
    | none => simp only [q2] at h; exact h.elim
    | some r2 =>
      cases r2 with
      | ex y Γ2 => simp only [q2] at h; exact h.elim
      | ok avs Γ2 =>
        simp only [q2] at h
        cases q3 : idxs avs with
        | none => simp only [q3] at h; exact h.elim
        | some ks =>
          simp only [q3] at h
          cases e3 : Γ2[i]? with
          | none => simp only [e3] at h; exact h.elim
          | some t3 =>
            cases t3 with
            | gone =>
              simp only [e3] at h
              cases q6 : putP (fun _ => some []) ks t with
              | none => simp only [q6] at h; exact h.elim
              | some t' =>
                simp only [q6] at h
                obtain ⟨v0, g, hv, r0, st3⟩ := st.takeOut e1 n
                show tPth R (tVar i) es σ H _
                rw [tPth_eq]
                refine ⟨v0, hv, walk_path st3 r0 (le_padd' _ _) q2 q3 q6 fun o H2 f2 s2 st4 nd => ?_⟩
                have r3 := r0.stp s2 (le_padd' _ _)
                have st7 : St0 R.K Γ2 σ H2 f2 (padd (padd pr zfp) g) := st4.less fun a => by simp only [padd_at]; show pr a + 0 + g a ≤ _; omega
                obtain ⟨p, vs, xs, ys, _, rfl, hp, eF, hl, fin⟩ := put_fin st7 r3 q6 (nd H2 f2 Stp.refl) e3 hv
                cases eF
                obtain ⟨sw, st8⟩ := fin (vs2 := []) fun g0 sg rl => ⟨zfp, by unfold RepL; rfl, fun a => Nat.zero_le _⟩
                exact ⟨ty_list hp, p, vs, rfl, rfl, hp, h σ _ f2 ((s2.weak (le_padd _ _)).trans sw fun _ => Nat.le_refl _) .refl st8⟩
            | c d => simp only [e3] at h; exact h.elim
            | l d => simp only [e3] at h; exact h.elim
            | t d => simp only [e3] at h; exact h.elim
            | s d => simp only [e3] at h; exact h.elim
end
end Hw
set_option Elab.async false
set_option linter.all false
set_option maxRecDepth 100000
set_option maxHeartbeats 2000000
/-! statements: the matcher, soundness -/
namespace Hw
open PySem PySem.Spec PyProof.Rows L2
structure MS where
  M : MC
  io : List Nat
  exs : List Str
def isCompE : Expr → Bool
  | .ListComp .. => true
  | .SetComp .. => true
  | .DictComp .. => true
  | _ => false
def isFunK : ScopeKind → Bool
  | .function => true
  | _ => false
def locS (sc : Scope) (x : Str) : Bool := match sc.names.lookup x with
  | some .local => true
  | _ => false
/-- a comprehension stored in a name: the name is stored in the block -/
def lcStore (M : MC) (x : Str) (p : Pos) : Expr → Bool
  | .ListComp _ _ s pos => isFunK M.sc.kind && locS M.sc x && (p.line == pos.line) && !(s.names.any fun (n, k) => n == x && (k == .local || k == .cell))
  | _ => false
def CE.isLc : CE → Bool
  | .lc .. => true
  | _ => false
def mPath (M : MC) (i : Nat) (es : List CE) (o : Expr) : Bool := match pathOf o with
  | some (x, bs) => M.vis i x && mEs M es bs
  | none => false
mutual
def mS (Z : MS) : CS → Stmt → Bool
  | .set i e, .Assign [.Name x p] v _ => Z.M.loc i x && !(Z.io.contains i) && (if e.isLc then lcStore Z.M x p v else !(isCompE v)) && mE Z.M e v
  | .setT is e, .Assign [.Tuple es _ _] v _ => mNames Z.M is es && (is.all fun i => !(Z.io.contains i)) && !(isTupE v) && !(isCompE v) && mE Z.M e v
  | .par i j a b, .Assign [.Tuple [.Name x px, .Name y py] _ _] (.Tuple [v, w] _ _) _ => decide (Z.M.N[i]? = some x) && decide (Z.M.N[j]? = some y) && locS Z.M.sc x && locS Z.M.sc y && !(x == y) && (py.line == px.line) && isFunK Z.M.sc.kind && !(Z.io.contains i) && !(Z.io.contains j) && !([v, w].all (foldedForSure 8)) && !([v, w].all (constantsAlone 8)) && (plainE v && plainE w && (mE Z.M a v && mE Z.M b w))
  | .setp i es l e, .Assign [.Subscript o ix _] v _ => mPath Z.M i es o && plainE ix && mE Z.M l ix && mE Z.M e v
  | .app i es e, .Expr (.Call (.Attribute o m ap) [a] [] cp) _ => decide (m = "append") && mPath Z.M i es o && (ap.endLine == cp.line) && plainE a && mE Z.M e a
  | .ext i e, .Expr (.Call (.Attribute (.Name x _) m ap) [a] [] cp) _ => decide (m = "extend") && Z.M.vis i x && (ap.endLine == cp.line) && plainE a && mE Z.M e a
  | .clr i es, .Expr (.Call (.Attribute o m ap) [] [] cp) _ => decide (m = "clear") && mPath Z.M i es o && (ap.endLine == cp.line)
  | .ex e, .Expr v _ => !(isCompE v) && mE Z.M e v
  | .ret e, .Return (some v) _ => mE Z.M e v
  | .retN, .Return none _ => true
  | .ite c a b, .If t x y _ => mT Z.M c t && mB Z a x && mB Z b y
  | .for_ tg it body, .For t i b [] _ => mTg Z.M tg t && (tg.slots.all fun i => !(Z.io.contains i)) && mIt Z.M (isTupE t) it i && mB Z body b
  | .whl _ c body, .While t b [] _ => mT Z.M c t && mB Z body b
  | .brk, .Break _ => true
  | .cnt, .Continue _ => true
  | .pass, .Pass _ => true
  | .doc, .Expr (.Constant (.str _) _ _) _ => true
  | .rais x, .Raise (some (.Call (.Name y _) [.Constant (.str _) _ _] [] _)) none _ => decide (x = y) && Z.exs.contains x && Z.M.glo x
  | _, _ => false
def mB (Z : MS) : List CS → List Stmt → Bool
  | [], [] => true
  | s :: ss, t :: ts => mS Z s t && mB Z ss ts
  | _, _ => false
end
structure YOk (R : RC) (Z : MS) (X : Cx) : Prop extends XOk R Z.M X where
  hp : PassesOwn (model X.prog X.w) X.A X.env X.xe
  exc : ∀ x ∈ Z.exs, ∃ C bmB B newId initId, ExcBaseFacts B newId initId bmB ∧ PySem.W.excIn X.K C bmB newId = true ∧ X.mg x = some (.ref C) ∧ PySem.W.keepIn X.K (.ref C) = true ∧ Raises X (.ref C)
theorem sw_no {v : Expr} {t : Option Expr} {n : Nat} {env : Env} (h : isCompE v = false) : swapsWith v t n env = pure false := by
  cases v <;> first | rfl | cases h
theorem sws_no {v : Expr} {t : Expr} {n : Nat} {env : Env} (h : isCompE v = false) : swapsWithSole [t] v n env = pure false := sw_no h
theorem sws_sub {v o i : Expr} {p : Pos} {n : Nat} {env : Env} : swapsWithSole [.Subscript o i p] v n env = pure false := by
  cases v <;> rfl
theorem sst_no {es : List Expr} {k : Nat} {p : Pos} {v : Expr} {env : Env} (h : isTupE v = false) : swappedStores [.Tuple es k p] v env = pure none := by
  cases v <;> first | rfl | cases h
theorem sst_sub {o i : Expr} {p : Pos} {v : Expr} {env : Env} : swappedStores [.Subscript o i p] v env = pure none := by
  cases v <;> rfl
theorem isFunK_of {k : ScopeKind} (h : isFunK k = true) : k = .function := by
  cases k <;> first | rfl | cases h
theorem locS_of {sc : Scope} {x : Str} (h : locS sc x = true) : sc.names.lookup x = some .local := by
  unfold locS at h
  split at h
  · assumption
  · cases h
theorem sst_par {x y : Str} {px py pt p2 : Pos} {v w : Expr} {kt k2 : Nat} {env : Env} (hk : env.scope.kind = .function) (hx : env.scope.names.lookup x = some .local) (hy : env.scope.names.lookup y = some .local) (hxy : (x == y) = false) (hl : (py.line == px.line) = true)
    (pv : plainE v = true) (pw : plainE w = true) (h1 : ([v, w].all (foldedForSure 8)) = false) (h2 : ([v, w].all (constantsAlone 8)) = false) : swappedStores [.Tuple [.Name x px, .Name y py] kt pt] (.Tuple [v, w] k2 p2) env = pure (some [x, y]) := by
  have kx : env.kindOf x = some .local := hx
  have ky : env.kindOf y = some .local := hy
  have hb : env.blockKind = .function := by unfold Env.blockKind; rw [hk]; rfl
  have sv : ∀ e : Expr, plainE e = true → (match e with | .Starred .. => true | _ => false) = false := fun e h => by cases e <;> first | rfl | cases h
  unfold swappedStores
  have e1 : ([v, w].any fun | .Starred .. => true | _ => false) = false := by
    rw [List.any_cons, List.any_cons, List.any_nil]
    have := sv v pv; have := sv w pw
    cases v <;> first | (cases pv; done) | (cases w <;> first | rfl | cases pw)
  have e2 : (x == x) = true := beq_self_eq_true x
  have e3 : ((([Expr.Name x px, Expr.Name y py] : List Expr).filterMap fun
    | .Name id pos => if env.kindOf id == some .local && pos.line == px.line then some id else none
    | _ => none)) = [x, y] := by
    simp only [List.filterMap_cons, List.filterMap_nil, kx, ky, hl]
    simp
  have e4 : [x, y].eraseDups = [x, y] := by
    rw [List.eraseDups_cons]
    have : (y == x) = false := by
      cases q : (y == x) with
      | false => rfl
      | true => rw [eq_of_beq q] at hxy; rw [e2] at hxy; cases hxy
    simp [List.filter, this]
    rfl
  have e5 : ∀ N : List Str, N = [x, y] → (N.length != 2 || N.eraseDups.length != N.length) = false := fun N e => by subst e; rw [e4]; rfl
  simp only [hb]
  refine (if_neg ?_).trans ((if_neg ?_).trans ((if_neg ?_).trans ((if_neg ?_).trans ((if_neg ?_).trans ?_))))
  · exact Bool.false_ne_true
  · exact fun h => Bool.false_ne_true (e1.symm.trans h)
  · exact fun h => Bool.false_ne_true ((e5 _ e3).symm.trans h)
  · rw [h1]; exact Bool.false_ne_true
  · rw [h2]; exact Bool.false_ne_true
  · exact congrArg (fun z => pure (some z)) e3
theorem path_base {o : Expr} {x : Str} {bs : List Expr} {m : Str} {env : Env} (h : pathOf o = some (x, bs)) (w : Sem Value) : attributeBase o m env w = w := by
  cases o <;> first | rfl | (unfold pathOf at h; cases h; done)
theorem as_sub {o i : Expr} {pos : Pos} {env : Env} (h : plainE i = true) : ∀ v, assign (.Subscript o i pos) env v = (do
      let ov ← holding [v] (eval o env)
      let iv ← holding [v, ov] (eval i env)
      standAt pos
      holding [v, ov, iv] (setItem ov iv v)
      release [v, ov, iv] []) := by
  intro v
  cases i <;> first | rfl | cases h
theorem pst {R : RC} {io : List Nat} {X : Cx} {st : Stmt} {s : CS} {t : TS} (h : PS X st t) (i : ∀ {D : Ends} {σ : Sig} {H : Hp}, tS R io s D σ H → t D σ H) : PS X st (tS R io s) := PS.imp h fun _ _ _ q => i q
theorem notin {io : List Nat} {i : Nat} (h : (!(io.contains i)) = true) : i ∉ io := by
  intro z
  rw [Bool.not_eq_true', ← Bool.not_eq_true] at h
  exact h (List.contains_iff_mem.mpr z)
theorem notins {io is : List Nat} (h : (is.all fun i => !(io.contains i)) = true) : ∀ i ∈ is, i ∉ io := fun i hi => notin (List.all_eq_true.mp h i hi)
theorem pe_mpath {R : RC} {M : MC} {X : Cx} (ok : XOk R M X) {i : Nat} {es : List CE} {o : Expr} (h : mPath M i es o = true) : PE X o (tPth R (tVar i) es) ∧ ∀ {m : Str} {env : Env} (w : Sem Value), attributeBase o m env w = w := by
  unfold mPath at h
  split at h
  · rename_i x bs q
    rw [Bool.and_eq_true] at h
    obtain ⟨h1, h2⟩ := sEs es ok h.2
    exact ⟨pe_path ok q h.1 h1 h2, fun w => path_base q w⟩
  · cases h
theorem plain_few {a : Expr} {cp : Pos} {env : Env} (h : plainE a = true) : ((backTo cp (starEach [a] env)).all (fun x => !x.1) && (backToKw cp (keywordEach [] env)).all (fun x => x.1.isSome)
      && decide (([a] : List Expr).length + ([] : List Keyword).length + (if ([] : List Keyword).isEmpty then 0 else 1) < 30)) = true := by rw [star_of h]; rfl
section
variable {R : RC} {Z : MS} {X : Cx}
theorem s_set (ok : YOk R Z X) {i : Nat} {e : CE} {st : Stmt} (h : mS Z (.set i e) st = true) : PS X st (tS R Z.io (.set i e)) := by
  cases st <;> first | (exact absurd h (by unfold mS; exact Bool.false_ne_true)) | skip
  rename_i tgs v pos
  match tgs, h with
  | [], h => exact absurd h (by unfold mS; exact Bool.false_ne_true)
  | _ :: _ :: _, h => exact absurd h (by unfold mS; simp)
  | [tg], h =>
    cases tg <;> first | (exact absurd h (by unfold mS; exact Bool.false_ne_true)) | skip
    rename_i x p
    unfold mS at h
    simp only [Bool.and_eq_true] at h
    obtain ⟨⟨⟨hl, hio⟩, hsw⟩, he⟩ := h
    obtain ⟨h1, h2, h3⟩ := ok.lo hl
    cases hlc : e.isLc with
    | false =>
      rw [hlc] at hsw
      simp only [Bool.false_eq_true, if_false, Bool.not_eq_true'] at hsw
      exact pst (ps_set ok.ndX h1 h2 (sE e ok.toXOk he) (sw_no hsw) h3) fun q => set_read (notin hio) q
    | true =>
      rw [hlc, if_pos rfl] at hsw
      cases e <;> first | (cases hlc; done) | skip
      rename_i own tg it cond elt
      cases v <;> first | (cases hsw; done) | skip
      rename_i ee gens s spos
      unfold lcStore at hsw
      simp only [Bool.and_eq_true, Bool.not_eq_true'] at hsw
      obtain ⟨⟨⟨k1, k2⟩, k3⟩, k4⟩ := hsw
      match gens, he with
      | [⟨t, i0, ifs, 0⟩], he =>
        unfold mE at he
        simp only [Bool.and_eq_true, List.all_eq_true, List.contains_iff_mem] at he
        obtain ⟨⟨⟨⟨hb, ht⟩, ho⟩, hi⟩, hc, he⟩ := he
        have hmap : (ownN Z.M own).map (·.2) = own := by unfold ownN; rw [List.map_map]; exact List.map_id _
        have hblk : blkC X.N X.env.scope s (ownN Z.M own) = true := by rw [ok.N, ok.sc]; exact hb
        have hpi := sIt it ok.toXOk hi
        have hloc : X.env.scope.names.lookup x = some .local := by rw [ok.sc]; exact locS_of k2
        have hkind : X.env.scope.kind = .function := by rw [ok.sc]; exact isFunK_of k1
        have := ps_setLc (spos := pos) (pos := spos) (elt := ee) (ifs := ifs) ok.calm ok.ndX h1 hloc (sw_true hkind hloc k3 k4) hpi (blkOk_by hblk) (fun s0 H C cl fp => pg_tg (ok.toXOk.blk s0 H s C cl fp) ht) (fun s0 H C cl fp => sC cond (ok.toXOk.blk s0 H s C cl fp) hc) (fun s0 H C cl fp => sE elt (ok.toXOk.blk s0 H s C cl fp) he) (it_folded hi _)
        rw [hmap] at this
        exact pst this fun q => lc_read ho (set_read (notin hio) q)
      | [], he => exact absurd he (by unfold mE; exact Bool.false_ne_true)
      | _ :: _ :: _, he => exact absurd he (by unfold mE; simp)
      | [⟨_, _, _, Nat.succ _⟩], he => exact absurd he (by unfold mE; exact Bool.false_ne_true)
theorem s_setT (ok : YOk R Z X) {is : List Nat} {e : CE} {st : Stmt} (h : mS Z (.setT is e) st = true) : PS X st (tS R Z.io (.setT is e)) := by
  cases st <;> first | (exact absurd h (by unfold mS; exact Bool.false_ne_true)) | skip
  rename_i tgs v pos
  match tgs, h with
  | [], h => exact absurd h (by unfold mS; exact Bool.false_ne_true)
  | _ :: _ :: _, h => exact absurd h (by unfold mS; simp)
  | [tg], h =>
    cases tg <;> first | (exact absurd h (by unfold mS; exact Bool.false_ne_true)) | skip
    rename_i es k p
    unfold mS at h
    simp only [Bool.and_eq_true, Bool.not_eq_true'] at h
    obtain ⟨⟨⟨⟨hn, hio⟩, ht⟩, hc⟩, he⟩ := h
    obtain ⟨h1, h2, h3⟩ := pgs_nm ok.toXOk hn
    have := ps_asg (pos := pos) (sE e ok.toXOk he) (pg_tup (k := k) (pos := p) ok.calm h1 h2 h3) (sws_no hc) (sst_no ht)
    exact pst this fun q => setT_read ok.K (fun i hi => notin (by have := List.all_eq_true.mp hio i hi; exact this)) q
theorem s_par (ok : YOk R Z X) {i j : Nat} {a b : CE} {st : Stmt} (h : mS Z (.par i j a b) st = true) : PS X st (tS R Z.io (.par i j a b)) := by
  unfold mS at h
  split at h
  all_goals first | (cases ‹CS.par i j a b = _›) | (cases h)
  rename_i x px y py kt pt v w k2 p2 pos
  simp only [Bool.and_eq_true, Bool.not_eq_true', decide_eq_true_eq] at h
  obtain ⟨⟨⟨⟨⟨⟨⟨⟨⟨⟨⟨hi, hj⟩, hx⟩, hy⟩, hxy⟩, hl⟩, hk⟩, hio⟩, hjo⟩, hf⟩, hc⟩, ⟨pv, pw⟩, ha, hb⟩ := h
  have hx' : X.env.scope.names.lookup x = some .local := by rw [ok.sc]; exact locS_of hx
  have hy' : X.env.scope.names.lookup y = some .local := by rw [ok.sc]; exact locS_of hy
  have hk' : X.env.scope.kind = .function := by rw [ok.sc]; exact isFunK_of hk
  have hij : i ≠ j := fun e => by
    subst e
    rw [hi] at hj
    have := Option.some.inj hj
    subst this
    rw [beq_self_eq_true] at hxy
    cases hxy
  have pa := PA.imp (pa_cons' pv (sE a ok.toXOk ha) (pa_cons' pw (sE b ok.toXOk hb) pa_nil)) (t' := tAs R [.e a, .e b]) fun σ H Q q => tE.mono (as_cons q) fun _ _ q => tE.mono (as_cons q) fun _ _ q => as_nil q
  have := ps_par (pos := pos) (px := px) (py := py) (pt := pt) (kt := kt) (k2 := k2) (pt2 := p2) ok.calm ok.ndX (by rw [ok.N]; exact hi) (by rw [ok.N]; exact hj) hij hx' hy' pa (sst_par hk' hx' hy' hxy hl pv pw hf hc) rfl
  exact pst this fun q => par_read (notin (by rw [hio]; rfl)) (notin (by rw [hjo]; rfl)) q
theorem s_setp (ok : YOk R Z X) {i : Nat} {es : List CE} {l e : CE} {st : Stmt} (h : mS Z (.setp i es l e) st = true) : PS X st (tS R Z.io (.setp i es l e)) := by
  unfold mS at h
  split at h
  all_goals first | (cases ‹CS.setp i es l e = _›) | (cases h)
  rename_i o ix p v pos
  simp only [Bool.and_eq_true] at h
  obtain ⟨⟨⟨hp, hx⟩, hl⟩, he⟩ := h
  obtain ⟨h1, _⟩ := pe_mpath ok.toXOk hp
  have := ps_asg (pos := pos) (sE e ok.toXOk he) (pg_sub (pos := p) h1 (sE l ok.toXOk hl) set_list (as_sub hx)) sws_sub sst_sub
  exact pst this fun q => setp_read q
theorem s_app (ok : YOk R Z X) {i : Nat} {es : List CE} {e : CE} {st : Stmt} (h : mS Z (.app i es e) st = true) : PS X st (tS R Z.io (.app i es e)) := by
  unfold mS at h
  split at h
  all_goals first | (cases ‹CS.app i es e = _›) | (cases h)
  rename_i o m ap a cp pos
  simp only [Bool.and_eq_true, decide_eq_true_eq] at h
  obtain ⟨⟨⟨⟨rfl, hp⟩, hl⟩, ha⟩, he⟩ := h
  obtain ⟨h1, h2⟩ := pe_mpath ok.toXOk hp
  have pa := PA.imp (pa_cons' ha (sE e ok.toXOk he) pa_nil) (t' := tAs R [.e e]) fun σ H Q q => tE.mono (as_cons q) fun _ _ q => as_nil q
  have := ps_expr (pos := pos) (pe_bm PySem.F.plainAttrs_list PySem.F.slot_list_append PySem.F.type_list_append mt_append h1 pa (h2 _) (plain_few ha) hl (star_of ha _ _) rfl) rfl
  rw [ok.K] at this
  cases es with
  | nil => exact pst this fun q => app0_read q
  | cons e0 es => exact pst this fun q => app_read q
theorem s_ext (ok : YOk R Z X) {i : Nat} {e : CE} {st : Stmt} (h : mS Z (.ext i e) st = true) : PS X st (tS R Z.io (.ext i e)) := by
  unfold mS at h
  split at h
  all_goals first | (cases ‹CS.ext i e = _›) | (cases h)
  rename_i x xp m ap a cp pos
  simp only [Bool.and_eq_true, decide_eq_true_eq] at h
  obtain ⟨⟨⟨⟨rfl, hp⟩, hl⟩, ha⟩, he⟩ := h
  have pa := PA.imp (pa_cons' ha (sE e ok.toXOk he) pa_nil) (t' := tAs R [.e e]) fun σ H Q q => tE.mono (as_cons q) fun _ _ q => as_nil q
  have := ps_expr (pos := pos) (pe_bm PySem.F.plainAttrs_list PySem.F.slot_list_extend PySem.F.type_list_extend mt_extend (pe_slot (pos := xp) ok.toXOk hp) pa rfl (plain_few ha) hl (star_of ha _ _) rfl) rfl
  rw [ok.K] at this
  exact pst this fun q => ext_read q
theorem s_clr (ok : YOk R Z X) {i : Nat} {es : List CE} {st : Stmt} (h : mS Z (.clr i es) st = true) : PS X st (tS R Z.io (.clr i es)) := by
  unfold mS at h
  split at h
  all_goals first | (cases ‹CS.clr i es = _›) | (cases h)
  rename_i o m ap cp pos
  simp only [Bool.and_eq_true, decide_eq_true_eq] at h
  obtain ⟨⟨rfl, hp⟩, hl⟩ := h
  obtain ⟨h1, h2⟩ := pe_mpath ok.toXOk hp
  have := ps_expr (pos := pos) (pe_bm0 PySem.F.plainAttrs_list PySem.F.slot_list_clear PySem.F.type_list_clear mt_clear h1 (h2 _) hl) rfl
  rw [ok.K] at this
  exact pst this fun q => clr_read q
end
mutual
theorem sS : ∀ (s : CS) {R : RC} {Z : MS} {X : Cx} (ok : YOk R Z X) {st : Stmt}, mS Z s st = true → PS X st (tS R Z.io s)
  | .set i e, R, Z, X, ok, st, h => s_set ok h
  | .setT is e, R, Z, X, ok, st, h => s_setT ok h
  | .par i j a b, R, Z, X, ok, st, h => s_par ok h
  | .setp i es l e, R, Z, X, ok, st, h => s_setp ok h
  | .app i es e, R, Z, X, ok, st, h => s_app ok h
  | .clr i es, R, Z, X, ok, st, h => s_clr ok h
  | .ext i e, R, Z, X, ok, st, h => s_ext ok h
  | .ex e, R, Z, X, ok, st, h => by
    unfold mS at h
    split at h
    all_goals first | (cases ‹CS.ex e = _›) | (cases h)
    rw [Bool.and_eq_true, Bool.not_eq_true'] at h
    exact pst (ps_expr (sE e ok.toXOk h.2) (sw_no h.1)) fun q => ex_read q
  | .ret e, R, Z, X, ok, st, h => by
    unfold mS at h
    split at h
    all_goals first | (cases ‹CS.ret e = _›) | (cases h)
    exact pst (ps_ret (sE e ok.toXOk h)) fun q => ret_read q
  | .retN, R, Z, X, ok, st, h => by
    unfold mS at h
    split at h
    all_goals first | (cases ‹CS.retN = _›; done) | (cases h; done) | skip
    exact pst ps_retN fun q => retN_read q
  | .ite c a b, R, Z, X, ok, st, h => by
    unfold mS at h
    split at h
    all_goals first | (cases ‹CS.ite c a b = _›) | (cases h)
    simp only [Bool.and_eq_true] at h
    exact pst (ps_if (sT c ok.toXOk h.1.1).1 (sB a ok h.1.2) (sB b ok h.2)) fun q => ite_read q
  | .for_ tg it body, R, Z, X, ok, st, h => by
    unfold mS at h
    split at h
    all_goals first | (cases ‹CS.for_ tg it body = _›) | (cases h)
    simp only [Bool.and_eq_true] at h
    obtain ⟨⟨⟨ht, hs⟩, hi⟩, hb⟩ := h
    exact pst (ps_for ok.hp ok.calm (sIt it ok.toXOk hi) (pg_tg ok.toXOk ht) (sB body ok hb) (it_folded hi _)) fun q => for_read (notins hs) q
  | .whl n c body, R, Z, X, ok, st, h => by
    unfold mS at h
    split at h
    all_goals first | (cases ‹CS.whl n c body = _›) | (cases h)
    rw [Bool.and_eq_true] at h
    exact pst (ps_while ok.hp (sT c ok.toXOk h.1).1 (sB body ok h.2)) fun q => whl_read q
  | .brk, R, Z, X, ok, st, h => by
    cases st <;> first | (exact absurd h (by unfold mS; exact Bool.false_ne_true)) | skip
    exact pst ps_break fun q => brk_read q
  | .cnt, R, Z, X, ok, st, h => by
    cases st <;> first | (exact absurd h (by unfold mS; exact Bool.false_ne_true)) | skip
    exact pst ps_continue fun q => cnt_read q
  | .pass, R, Z, X, ok, st, h => by
    cases st <;> first | (exact absurd h (by unfold mS; exact Bool.false_ne_true)) | skip
    exact pst ps_pass fun q => next_read (fun Γ => by simp only [exS]) q
  | .doc, R, Z, X, ok, st, h => by
    unfold mS at h
    split at h
    all_goals first | (cases ‹CS.doc = _›; done) | (cases h; done) | skip
    exact pst ps_doc fun q => next_read (fun Γ => by simp only [exS]) q
  | .rais x, R, Z, X, ok, st, h => by
    unfold mS at h
    split at h
    all_goals first | (cases ‹CS.rais x = _›) | (cases h)
    simp only [Bool.and_eq_true, decide_eq_true_eq, List.contains_iff_mem] at h
    obtain ⟨⟨rfl, hx⟩, hg⟩ := h
    obtain ⟨g1, g2, _⟩ := ok.gl hg
    obtain ⟨C, bmB, B, newId, initId, F, q, gC, kC, r⟩ := ok.exc _ hx
    exact pst (ps_raise ok.calm ok.tk (pmk_own F q gC kC r g1 g2)) fun z => rais_read (by rw [← ok.mg]; exact gC) z
  | .try_ b x i hh, R, Z, X, ok, st, h => by
    unfold mS at h
    cases h
theorem sB : ∀ (ss : List CS) {R : RC} {Z : MS} {X : Cx} (ok : YOk R Z X) {sts : List Stmt}, mB Z ss sts = true → PSs X sts (tSs R Z.io ss)
  | [], R, Z, X, ok, sts, h => by
    cases sts with
    | nil => exact PSs.imp pss_nil fun _ _ _ q => nil_read q
    | cons _ _ => unfold mB at h; cases h
  | s :: ss, R, Z, X, ok, sts, h => by
    cases sts with
    | nil => unfold mB at h; cases h
    | cons t ts =>
      unfold mB at h
      rw [Bool.and_eq_true] at h
      exact PSs.imp (pss_cons (sS s ok h.1) (sB ss ok h.2)) fun _ _ _ q => cons_read q
end
end Hw
set_option Elab.async false
set_option linter.all false
set_option maxRecDepth 100000
set_option maxHeartbeats 1000000
/-! defs, the list of defs, the law's end -/
namespace Hw
open PySem PySem.Spec PyProof.Rows L2
structure DD where
  x : Str
  N : List Str
  pn : List Str
  ps : List Bool
  body : List CS
  st : Stmt
def genv (gl : Str → Option PyData) : List DD → Genv
  | [] => ⟨fun _ => none, gl⟩
  | d :: ds => ⟨fun y => if y = d.x then some (runDef (genv gl ds) d.N.length d.ps d.body) else (genv gl ds).fn y, gl⟩
def iosOf : Nat → List Bool → List Nat
  | _, [] => []
  | i, true :: ps => i :: iosOf (i + 1) ps
  | i, false :: ps => iosOf (i + 1) ps
def scopeC (N P : List Str) (sc : Scope) : Bool := isFunK sc.kind && !sc.isCoroutine && !sc.isGenerator && decide N.Nodup && decide (N.take P.length = P) && (P.all fun x => match sc.names.lookup x with | some .local => true | some .cell => true | _ => false) && (sc.names.all fun y => !(y.2 == .free))
theorem scope_of {N P : List Str} {sc : Scope} (h : scopeC N P sc = true) : FnScope N P sc := by
  unfold scopeC at h
  simp only [Bool.and_eq_true, Bool.not_eq_true', decide_eq_true_eq, List.all_eq_true] at h
  obtain ⟨⟨⟨⟨⟨⟨h1, h2⟩, h3⟩, h4⟩, h5⟩, h6⟩, h7⟩ := h
  refine ⟨isFunK_of h1, h2, h3, h4, h5, fun x hx => ?_, fun y hy e => ?_⟩
  · have := h6 x hx
    split at this <;> first | exact .inl (by assumption) | exact .inr (by assumption) | cases this
  · have := h7 y hy
    rw [e] at this
    cases this
def dOk (exs : List Str) (d : DD) : Bool := scopeC d.N d.pn (defScope d.st) && decide (d.ps.length = d.pn.length) && mB ⟨⟨d.N, defScope d.st, fun _ => true⟩, iosOf 0 d.ps, exs⟩ d.body (defBody d.st)
/-- the def stands in what the top has written -/
def DefIn (K : PySem.W.Frag) (d : DD) : Prop := ∃ f fd, PySem.W.nsIn K mainGlobals d.x = some (some (.ref f)) ∧ Fun K d.x d.x d.st f fd ∧ ∀ us : List Value, us.length = d.pn.length → bindArgs fd ⟨us, []⟩ = pure (d.pn.zip us)
def DefsIn (K : PySem.W.Frag) : List DD → Prop
  | [] => True
  | d :: ds => DefIn K d ∧ DefsIn K ds
def BltsIn (K : PySem.W.Frag) : List Str → Prop
  | [] => True
  | x :: xs => PySem.W.nsIn K mainGlobals x = some none ∧ BltsIn K xs
theorem BltsIn.at {K : PySem.W.Frag} : ∀ {xs : List Str}, BltsIn K xs → ∀ x ∈ xs, PySem.W.nsIn K mainGlobals x = some none
  | [], _, _, h => by cases h
  | y :: xs, h, x, hx => by
    cases hx with
    | head => exact h.1
    | tail _ z => exact BltsIn.at h.2 x z
theorem defIn {K : PySem.W.Frag} {d : DD} {f : Addr} {oc : Value} {od an : Option Addr} {osl : Array (Option Value)} {kV doc pm cdv ct : Value} (a : PySem.W.nsIn K mainGlobals d.x = some (some (.ref f)))
    (l : K.lookup f = some ⟨oc, od, .func (PySem.W.fnOf d.x d.x (defArgs d.st) (defBody d.st) (defScope d.st) .none kV doc pm an cdv ct), osl⟩) (c : PySem.W.codeIn K cdv d.x = true) (k : PySem.W.keepIn K (.ref f) = true)
    (b : ∀ (kV doc pm : Value) (an : Option Addr) (cdv ct : Value) (us : List Value), us.length = d.pn.length → bindArgs (PySem.W.fnOf d.x d.x (defArgs d.st) (defBody d.st) (defScope d.st) .none kV doc pm an cdv ct) ⟨us, []⟩ = pure (d.pn.zip us)) : DefIn K d :=
  ⟨f, _, a, fun_mk l c k, b kV doc pm an cdv ct⟩
section
variable {K : PySem.W.Frag} {H : Hp} {f : Fp}
theorem outs_rep : ∀ {ps : List Bool} {Γ : List Tr} {σ : Sig} {vs : List V} {g : Fp} , RepS K H f Γ σ g → vs.length = ps.length → ps.length ≤ Γ.length → (∀ (i : Nat) (v : V), ps[i]? = some true → vs[i]? = some v → σ[i]? = some (some v)) → RepL K H f (outsOf ps Γ) vs g
  | [], Γ, σ, vs, g, h, hl, _, _ => by
    cases vs with
    | nil => unfold outsOf RepL; rfl
    | cons _ _ => simp at hl
  | p :: ps, [], _, _, _, _, _, hl, _ => by simp at hl
  | p :: ps, x :: Γ, σ, vs, g, h, hl, hl2, hp => by
    cases vs with
    | nil => simp at hl
    | cons v vs =>
      obtain ⟨o, r, g1, g2, rfl, h1, h2, h3⟩ := h
      have rest := outs_rep (ps := ps) (vs := vs) h2 (by simpa using hl) (by simpa using hl2) fun i w e1 e2 => by have := hp (i + 1) w (by simpa using e1) (by simpa using e2); simpa using this
      cases p with
      | false =>
        unfold outsOf RepL
        exact ⟨v, vs, fun _ => 0, g2, rfl, by unfold Rep; trivial, rest, fun a => by have := h3 a; show 0 + g2 a ≤ g a; omega⟩
      | true =>
        unfold outsOf RepL
        have e := hp 0 v rfl rfl
        simp at e
        subst e
        refine ⟨v, vs, g1, g2, rfl, ?_, rest, h3⟩
        by_cases n : x = .gone
        · subst n; unfold Rep; trivial
        · obtain ⟨w, e, r⟩ := h1.get n
          cases e
          exact r
theorem start_rep {n : Nat} : ∀ {ts : List Tr} {vs : List V} {g : Fp}, RepL K H f ts vs g → RepS K H f (ts ++ List.replicate n .gone) (vs.map some ++ List.replicate n none) g
  | [], _, g, h => by
    unfold RepL at h
    subst h
    simp only [List.nil_append, List.map_nil]
    induction n generalizing g with
    | zero => unfold List.replicate RepS; rfl
    | succ n ih =>
      rw [List.replicate_succ, List.replicate_succ]
      exact ⟨none, _, fun _ => 0, g, rfl, trivial, ih g, fun a => by show 0 + g a ≤ g a; omega⟩
  | t :: ts, _, g, h => by
    obtain ⟨v, r, g1, g2, rfl, h1, h2, h3⟩ := h
    exact ⟨some v, _, g1, g2, rfl, .mk h1, start_rep h2, h3⟩
theorem iosOf_mem : ∀ {ps : List Bool} {k i : Nat}, ps[i]? = some true → k + i ∈ iosOf k ps
  | [], _, _, h => by simp at h
  | true :: ps, k, 0, h => by unfold iosOf; exact List.mem_cons_self ..
  | false :: ps, k, 0, h => by simp at h
  | true :: ps, k, i + 1, h => by
    unfold iosOf
    have := iosOf_mem (k := k + 1) (by simpa using h : ps[i]? = some true)
    exact List.mem_cons_of_mem _ (by rw [show k + (i + 1) = k + 1 + i by omega]; exact this)
  | false :: ps, k, i + 1, h => by
    unfold iosOf
    have := iosOf_mem (k := k + 1) (by simpa using h : ps[i]? = some true)
    rw [show k + (i + 1) = k + 1 + i by omega]; exact this
end
/-- the def's body keeps the def's promise -/
theorem body_sound {R : RC} {d : DD} {F : Genv} {X : Cx} {exs : List Str} {M : MC} (hF : R.F = F) (hps : d.ps.length = d.pn.length) (hpn : d.pn.length ≤ d.N.length) {H : Hp} {vs : List V} {Q : VK} {E : XK} (hW : R.W = fun cls dd _ H => E cls dd H)
    (h : spF R.K R.mg d.pn.length (runDef F d.N.length d.ps d.body) vs H Q E) : tSs R (iosOf 0 d.ps) d.body { nx := fun _ H' => Q .non H', rt := Q } (L2.start d.N vs) H := by
  subst hF
  obtain ⟨hl, ts, f, pr, ga, rl, h1, al, hb, h⟩ := h
  have lt : ts.length = vs.length := rl.length.symm
  unfold runDef at h
  rw [if_pos ⟨by omega, by omega⟩] at h
  have hs : RepS R.K H f (ts ++ List.replicate (d.N.length - ts.length) .gone) (L2.start d.N vs) ga := by
    unfold L2.start
    rw [lt]
    exact start_rep rl
  refine ⟨_, f, pr, ⟨h1, al, ga, fun _ => 0, hs, trivial, fun a => by have := hb a; show 0 + _ ≤ _; omega⟩, ?_⟩
  have outs : ∀ {Γ : List Tr} {σ' : Sig} {H' : Hp} {f' : Fp} {g : Fp}, Pin (iosOf 0 d.ps) (L2.start d.N vs) σ' → RepS R.K H' f' Γ σ' g → RepL R.K H' f' (outsOf d.ps Γ) vs g := by
    intro Γ σ' H' f' g pin rs
    have ll : σ'.length = d.N.length := by rw [pin.1]; unfold L2.start; simp; omega
    refine outs_rep rs (by omega) (by rw [← rs.length, ll]; omega) fun i v e1 e2 => ?_
    have := pin.2 i (by have := iosOf_mem (k := 0) e1; rwa [Nat.zero_add] at this)
    rw [this]
    unfold L2.start
    have hi : i < vs.length := (List.getElem?_eq_some_iff.mp e2).1
    rw [List.getElem?_append_left (by simpa using hi), List.getElem?_map, e2]
    rfl
  cases q : exB R.F d.body (ts ++ List.replicate (d.N.length - ts.length) .gone) with
  | none => rw [q] at h; exact h
  | some r =>
    rw [q] at h
    cases r with
    | nx Γ =>
      intro σ' H' f' s pin st
      obtain ⟨k1, k2, g, gx, rs, _, kl⟩ := st
      exact h .non H' f' s k1 k2 ⟨fun _ => 0, g, by unfold Rep Dr; rfl, outs pin rs, fun a => by have := kl a; show 0 + (g a + pr a) ≤ _; omega⟩
    | rt t Γ =>
      intro v σ' H' f' s pin st
      obtain ⟨k1, k2, g, gx, rs, rv, kl⟩ := st
      exact h v H' f' s k1 k2 ⟨gx, g, rv, outs pin rs, fun a => kl a⟩
    | bk Γ => exact h.elim
    | ct Γ => exact h.elim
    | ex x Γ =>
      intro C σ' H' f' hm s pin st
      obtain ⟨k1, k2, g, gx, rs, _, kl⟩ := st
      rw [hW]
      exact h C H' f' hm s k1 k2 fun a => by have := kl a; omega
structure TopOk (P : Program) (w : World) (K : PySem.W.Frag) (mg : Str → Option Value) (base : Heap) (gl : Str → Option PyData) (exs : List Str) : Prop where
  gls : ∀ x d, gl x = some d → ∃ v u, mg x = some u ∧ RelV v u ∧ ∀ K H, Dr K H d v
  blt : ∀ x ∈ bltNames, mg x = none
  exc : ∀ x ∈ exs, ∃ C bmB B newId initId, ExcBaseFacts B newId initId bmB ∧ PySem.W.excIn K C bmB newId = true ∧ mg x = some (.ref C) ∧ PySem.W.keepIn K (.ref C) = true ∧ PySem.W.subIn K (.ref C) (.type "BaseException") = some true ∧ PySem.W.typeIn K (.ref C) = some (.type "type")
theorem fn_gl {gl : Str → Option PyData} : ∀ ds : List DD, (genv gl ds).gl = gl
  | [] => rfl
  | d :: ds => rfl
theorem run_len {F : Genv} {n : Nat} {ps : List Bool} {body : List CS} {ts : List Tr} {r : FR} (h : runDef F n ps body ts = some r) : ts.length = ps.length := by
  unfold runDef at h
  split at h
  · rename_i z; exact z.1
  · cases h
theorem def_ok {P : Program} {w : World} {K : PySem.W.Frag} {mg : Str → Option Value} {base : Heap} {gl : Str → Option PyData} {exs : List Str} (T : TopOk P w K mg base gl exs) {d : DD} {ds : List DD} (hd : dOk exs d = true) {f : Addr} {fd : FuncData} (fu : Fun K d.x d.x d.st f fd)
    (ih : ∀ y run, (genv gl ds).fn y = some run → ∃ n f fd ps, FnOk P w K mg base (L2.CX P w) ds.length f fd ps (spF K mg n run) ∧ mg y = some (.ref f) ∧ PySem.W.keepIn K (.ref f) = true ∧ Binds K fd ps [] ∧ ∀ ts r, run ts = some r → ts.length = n) :
    FnOk P w K mg base (L2.CX P w) (ds.length + 1) f fd d.pn (spF K mg d.pn.length (runDef (genv gl ds) d.N.length d.ps d.body)) := by
  unfold dOk at hd
  simp only [Bool.and_eq_true, decide_eq_true_eq] at hd
  obtain ⟨⟨hsc, hlen⟩, hm⟩ := hd
  have S := scope_of hsc
  refine fu.okX S (fun vs H Q E h => h.1) fun cdv A outer s H vs Q E hr hsp => ?_
  have hpl : d.pn.length ≤ d.N.length := by have := congrArg List.length S.pre; rw [List.length_take] at this; omega
  refine ⟨tSs ⟨K, mg, genv gl ds, fun cls dd _ H => E cls dd H⟩ (iosOf 0 d.ps) d.body, sB d.body (Z := ⟨⟨d.N, defScope d.st, fun _ => true⟩, iosOf 0 d.ps, exs⟩) ⟨⟨rfl, rfl, rfl, rfl, rfl, S.nd, rfl, ?tk, ?un, ?fns, ?gls, T.blt⟩, ?hp, ?exc⟩ hm,
    body_sound (R := ⟨K, mg, genv gl ds, fun cls dd _ H => E cls dd H⟩) (X := cxOf (L2.CX P w) P w K mg base d.N d.x (defScope d.st) f cdv A outer s H E) (exs := exs) (M := ⟨d.N, defScope d.st, fun _ => true⟩) rfl hlen hpl rfl hsp⟩
  case tk => exact takes_of rfl rfl rfl rfl
  case un => have := hr.un; show (A.deeper _).units + 65 < _; omega
  case fns =>
    intro x run hx
    obtain ⟨n, f', fd', ps', F', m', k', b', l'⟩ := ih x run hx
    exact ⟨n, f', fd', ps', ds.length, F', m', k', b', hr, l'⟩
  case gls => rw [fn_gl]; exact T.gls
  case hp => exact passes_of rfl
  case exc =>
    intro x hx
    obtain ⟨C, bmB, B, newId, initId, e1, e2, e3, e4, e5, e6⟩ := T.exc x hx
    exact ⟨C, bmB, B, newId, initId, e1, e2, e3, e4, raises_own e5 e6⟩
theorem defs_ok {P : Program} {w : World} {K : PySem.W.Frag} {mg : Str → Option Value} {base : Heap} {gl : Str → Option PyData} {exs : List Str} (T : TopOk P w K mg base gl exs) (hmg : ∀ x v, PySem.W.nsIn K mainGlobals x = some (some v) → mg x = some v) :
    ∀ ds : List DD, (∀ d ∈ ds, dOk exs d = true) → DefsIn K ds →
      ∀ y run, (genv gl ds).fn y = some run → ∃ n f fd ps, FnOk P w K mg base (L2.CX P w) ds.length f fd ps (spF K mg n run) ∧ mg y = some (.ref f) ∧ PySem.W.keepIn K (.ref f) = true ∧ Binds K fd ps [] ∧ ∀ ts r, run ts = some r → ts.length = n
  | [], _, _, y, run, h => by cases h
  | d :: ds, ho, hi, y, run, h => by
    have ih := defs_ok T hmg ds (fun e he => ho e (List.mem_cons_of_mem _ he)) hi.2
    unfold genv at h
    dsimp only at h
    split at h
    · rename_i e
      subst e
      cases h
      have hd := ho d (List.mem_cons_self ..)
      obtain ⟨⟨f, fd, ns, fu, bd⟩, _⟩ := hi
      refine ⟨d.pn.length, f, fd, d.pn, def_ok T hd fu ih, hmg _ _ ns, fu.kp, .all bd, fun ts r hr => ?_⟩
      unfold dOk at hd
      simp only [Bool.and_eq_true, decide_eq_true_eq] at hd
      rw [run_len hr, hd.1.2]
    · obtain ⟨n, f', fd', ps', F', m', k', b', l'⟩ := ih y run h
      exact ⟨n, f', fd', ps', F'.mono (Nat.le_succ _), m', k', b', l'⟩
end Hw
set_option Elab.async false
set_option linter.all false
set_option maxRecDepth 100000
set_option maxHeartbeats 1000000
/-! the law's end -/
namespace Hw
open PySem PySem.Spec PyProof.Rows L2
def spLaw (K : PySem.W.Frag) : Sp := fun vs H Q E => ∃ (a : Addr) (ns : List Int), vs = [.ref a] ∧ SqL K H a (ns.map V.int) ∧ ns.length ≤ 63 ∧ (∀ z ∈ ns, Builtin.Int.intBits z ≤ 1048576) ∧ ∀ H', Q (.bl true) H'
theorem mn_zero (H : Hp) : mn H (fun _ => 0) = H := by
  funext a
  unfold mn
  simp
theorem law_sp {K : PySem.W.Frag} {mg : Str → Option Value} {run : List Tr → Option FR} (hrun : ∀ ns : List Int, ns.length ≤ 63 → (∀ z ∈ ns, Builtin.Int.intBits z ≤ 1048576) → ∃ os, run [.s ns] = some (.ok (bT true) os)) {vs : List V} {H : Hp} {Q : VK} {E : XK} (h : spLaw K vs H Q E) : spF K mg 1 run vs H Q E := by
  obtain ⟨a, ns, rfl, hS, hl, hb, q⟩ := h
  refine ⟨rfl, [.s ns], fun _ => 0, fun _ => 0, fun _ => 0, ?_, fun _ => Nat.zero_le _, fun a ha => absurd ha (by show ¬ (1 ≤ 0); decide), fun _ => Nat.le_refl _, ?_⟩
  · unfold RepL
    refine ⟨_, [], fun _ => 0, fun _ => 0, rfl, ?_, by unfold RepL; rfl, fun _ => Nat.le_refl _⟩
    unfold Rep
    exact ⟨a, rfl, by rw [mn_zero]; exact hS⟩
  · obtain ⟨os, e⟩ := hrun ns hl hb
    rw [e]
    intro v H' f' s h1 h2 ⟨g, go, rv, ro, l⟩
    rw [bT_val rv]
    exact q H'
structure ExIn (K : PySem.W.Frag) (x : Str) : Prop where
  ex : ∃ C bmB B newId initId, ExcBaseFacts B newId initId bmB ∧ PySem.W.excIn K C bmB newId = true ∧ PySem.W.nsIn K mainGlobals x = some (some (.ref C)) ∧ PySem.W.keepIn K (.ref C) = true ∧ PySem.W.subIn K (.ref C) (.type "BaseException") = some true ∧ PySem.W.typeIn K (.ref C) = some (.type "type")
theorem law_mk {l : PySem.W.OpenLaw} {w : World} {K : PySem.W.Frag} {h : Heap} {mg : Str → Option Value} {fa : Addr} (X : K.In h) (G : h.Ns mainGlobals mg) (hfa : mg "law" = some (.ref fa)) (gl : Str → Option PyData) (exs : List Str) (d : DD) (ds : List DD)
    (hgl : ∀ x y, gl x = some y → ∃ v u, PySem.W.nsIn K mainGlobals x = some (some u) ∧ RelV v u ∧ ∀ K H, Dr K H y v)
    (hok : ∀ e ∈ d :: ds, dOk exs e = true) (hx : d.x = "law") (hpn : d.pn = [("script" : Str)])
    (hrun : ∀ ns : List Int, ns.length ≤ 63 → (∀ z ∈ ns, Builtin.Int.intBits z ≤ 1048576) → ∃ os, runDef (genv gl ds) d.N.length d.ps d.body [.s ns] = some (.ok (bT true) os))
    (D : DefsIn K (d :: ds)) (B : BltsIn K bltNames) (E : ∀ x ∈ exs, ExIn K x) :
    ∃ fd : FuncData, (∀ (s : Shared) (v : Value), BindsTo s fd ⟨[v], []⟩ [("script", v)]) ∧ ∀ base : Heap, K.In base → base.Ns mainGlobals mg → FnOk l.prog w K mg base (L2.CX l.prog w) (ds.length + 1) fa fd ["script"] (spLaw K) := by
  have mgo : ∀ x v, PySem.W.nsIn K mainGlobals x = some (some v) → mg x = some v := fun x v e => PySem.W.mg_of X G e
  have T : ∀ base, TopOk l.prog w K mg base gl exs := fun base => ⟨fun x y e => by
    obtain ⟨v, u, e1, e2, e3⟩ := hgl x y e
    exact ⟨v, u, mgo _ _ e1, e2, e3⟩, fun x hx => PySem.W.mg_none_of X G (B.at x hx), fun x hx => by
    obtain ⟨C, bmB, B, newId, initId, e1, e2, e3, e4, e5, e6⟩ := (E x hx).ex
    exact ⟨C, bmB, B, newId, initId, e1, e2, mgo _ _ e3, e4, e5, e6⟩⟩
  obtain ⟨f, fd, ns, fu, bd⟩ := id D.1
  have ff : f = fa := by
    have := mgo _ _ ns
    rw [hx, hfa] at this
    cases this
    rfl
  subst ff
  refine ⟨fd, fun s v => .of_eq (by have := bd [v] (by rw [hpn]; rfl); rw [hpn] at this; exact this), fun base hb hn => ?_⟩
  have F := def_ok (T base) (hok d (List.mem_cons_self ..)) fu (defs_ok (T base) mgo ds (fun e he => hok e (List.mem_cons_of_mem _ he)) D.2)
  rw [hpn] at F
  exact F.imp fun vs H Q E q => law_sp hrun q
end Hw
set_option Elab.async false
set_option linter.all false
set_option maxRecDepth 100000
set_option maxHeartbeats 400000
/-! steps of the interpreter, for the laws' plain part -/
namespace Hw
open PySem PySem.Spec PyProof.Rows L2
theorem whl_step {c : List Tr → Option TR} {body : List Tr → Option SR} {k : Nat} {Γ Γ1 Γ2 : List Tr} (hc : c Γ = some (.ok true Γ1)) (hb : body Γ1 = some (.nx Γ2)) : whL c body (k + 1) Γ = whL c body k Γ2 := by
  rw [whL, hc]; simp only [hb]
theorem whl_end {c : List Tr → Option TR} {body : List Tr → Option SR} {k : Nat} {Γ Γ1 : List Tr} (hc : c Γ = some (.ok false Γ1)) : whL c body (k + 1) Γ = some (.nx Γ1) := by
  rw [whL, hc]
theorem exB_nx {F : Genv} {s : CS} {ss : List CS} {Γ Γ1 : List Tr} (h : exS F s Γ = some (.nx Γ1)) : exB F (s :: ss) Γ = exB F ss Γ1 := by
  rw [exB, h]
theorem exB_rt {F : Genv} {s : CS} {ss : List CS} {Γ Γ1 : List Tr} {t : Tr} (h : exS F s Γ = some (.rt t Γ1)) : exB F (s :: ss) Γ = some (.rt t Γ1) := by
  rw [exB, h]
theorem forL_inv {body : List Tr → Option SR} {bind : List Tr → PyData → Option (List Tr)} (P : Nat → List Tr → Prop) : ∀ {ds : List PyData} {n : Nat} {Γ : List Tr}, (∀ i d Γ, ds[i]? = some d → P (n + i) Γ → ∃ Γ1 Γ2, bind Γ d = some Γ1 ∧ body Γ1 = some (.nx Γ2) ∧ P (n + i + 1) Γ2) → P n Γ → ∃ Γ', forL body bind ds Γ = some (.nx Γ') ∧ P (n + ds.length) Γ'
  | [], n, Γ, _, p => ⟨Γ, rfl, p⟩
  | d :: ds, n, Γ, h, p => by
    obtain ⟨Γ1, Γ2, h1, h2, h3⟩ := h 0 d Γ rfl p
    obtain ⟨Γ', e, q⟩ := forL_inv P (n := n + 1) (Γ := Γ2) (fun i e Γ he hp => by
      have := h (i + 1) e Γ (by simpa using he) (by rw [show n + (i + 1) = n + 1 + i by omega]; exact hp)
      rw [show n + (i + 1) = n + 1 + i by omega] at this
      exact this) h3
    refine ⟨Γ', ?_, by rw [List.length_cons, show n + (ds.length + 1) = n + 1 + ds.length by omega]; exact q⟩
    rw [forL, h1]
    simp only [h2]
    exact e
theorem run_rt {F : Genv} {n : Nat} {ps : List Bool} {body : List CS} {ts : List Tr} {t : Tr} {Γ : List Tr} (hl : ts.length = ps.length) (hn : ps.length ≤ n) (h : exB F body (ts ++ List.replicate (n - ts.length) .gone) = some (.rt t Γ)) : runDef F n ps body ts = some (.ok t (outsOf ps Γ)) := by
  unfold runDef
  rw [if_pos ⟨hl, hn⟩, h]
theorem lg_lt {n k : Nat} (h : n < 2 ^ k) (hk : 0 < k) : n.log2 < k := by
  by_cases z : n = 0
  · subst z; exact hk
  · exact (Nat.log2_lt z).mpr h
theorem mul_i {i j : Int} (h1 : i.natAbs < 2 ^ 500000) (h2 : j.natAbs < 2 ^ 500000) : mulEv (iT i) (iT j) = some (iT (i * j)) := by
  have a := lg_lt h1 (by decide)
  have b := lg_lt h2 (by decide)
  simp only [mulEv, asInt, iT]
  rw [if_pos (by omega)]
theorem eq_i (i j : Int) : eqEv (.c (.int i)) (.c (.int j)) = some (decide (i = j)) := rfl
theorem eq_b (i j : Bool) : eqEv (.c (.bool i)) (.c (.bool j)) = some (i == j) := rfl
theorem eq_p (a b c d : Int) : eqEv (.c (.tuple [.int a, .int b])) (.c (.tuple [.int c, .int d])) = some (decide (a = c) && decide (b = d)) := by
  show some (PyData.eqv (.tuple [.int a, .int b]) (.tuple [.int c, .int d])) = _
  congr 1
  simp [PyData.eqv, PyData.eqvAll]
  rfl
theorem exS_for {F : Genv} {tg : CTg} {it : CIt} {body : List CS} {Γ Γ1 : List Tr} {ds : List PyData} (h : evIt F it Γ = some (.ok ds Γ1)) : exS F (.for_ tg it body) Γ = forL (fun Γ => exB F body Γ) (fun Γ d => bindTg Γ tg d) ds Γ1 := by
  simp only [exS, h]
end Hw
set_option Elab.async false
set_option linter.all false
set_option maxRecDepth 100000
set_option maxHeartbeats 0
namespace Hg
open PySem PySem.Spec PyProof.Rows L2 Hw
def top (i : Nat) : Stmt := PySem.Challenge.pw_heapward_k25_fractions_told.main.body.getD i (.Pass ⟨0, 0, 0, 0⟩)
def d_lowest : DD where
  x := ("lowest" : Str)
  N := [("a" : Str), ("b" : Str), ("one" : Str), ("other" : Str)]
  pn := [("a" : Str), ("b" : Str)]
  ps := [false, false]
  st := top 1
  body :=
  [.set 2 (.prim (.bi .abs) [.pk 0]),
  .set 3 (.var 1),
  .whl (10 ^ 300) (.e (.prim (.cmp .Gt) [.pk 3, .e (.lit (.int 0))]))
    [.par 2 3 (.var 3) (.prim .mod [.pk 2, .pk 3])],
  .ret (.tup [.e (.prim .fdiv [.pk 0, .pk 2]), .e (.prim .fdiv [.pk 1, .pk 2])])]

def d_plus : DD where
  x := ("plus" : Str)
  N := [("one" : Str), ("other" : Str)]
  pn := [("one" : Str), ("other" : Str)]
  ps := [false, false]
  st := top 2
  body :=
  [.ret (.call ("lowest" : Str) [.e (.prim .add [.e (.prim .mul [.e (.pth 0 [.lit (.int 0)]), .e (.pth 1 [.lit (.int 1)])]), .e (.prim .mul [.e (.pth 1 [.lit (.int 0)]), .e (.pth 0 [.lit (.int 1)])])]), .e (.prim .mul [.e (.pth 0 [.lit (.int 1)]), .e (.pth 1 [.lit (.int 1)])])])]

def d_is_less : DD where
  x := ("is_less" : Str)
  N := [("one" : Str), ("other" : Str)]
  pn := [("one" : Str), ("other" : Str)]
  ps := [false, false]
  st := top 3
  body :=
  [.ret (.prim (.cmp .Lt) [.e (.prim .mul [.e (.pth 0 [.lit (.int 0)]), .e (.pth 1 [.lit (.int 1)])]), .e (.prim .mul [.e (.pth 1 [.lit (.int 0)]), .e (.pth 0 [.lit (.int 1)])])])]

def d_law_acell : DD where
  x := ("_law_acell" : Str)
  N := [("script" : Str), ("k" : Str)]
  pn := [("script" : Str), ("k" : Str)]
  ps := [false, false]
  st := top 5
  body :=
  [.ite (.e (.prim (.cmp .Lt) [.pk 1, .e (.prim (.bi .len) [.pk 0])]))
    [.ret (.pth 0 [.var 1])]
    [],
  .ret (.lit (.int 0))]

def d_law_atape : DD where
  x := ("_law_atape" : Str)
  N := [("script" : Str), ("k" : Str), ("cell" : Str), ("p" : Str), ("number" : Str), ("last" : Str), ("turn" : Str)]
  pn := [("script" : Str), ("k" : Str)]
  ps := [false, false]
  st := top 6
  body :=
  [.set 2 (.call ("_law_acell" : Str) [.e (.var 0), .e (.var 1)]),
  .ite (.e (.prim (.cmp .Eq) [.e (.prim .mod [.pk 2, .e (.lit (.int 2))]), .e (.lit (.int 0))]))
    [.ret (.lst [.e (.prim .fdiv [.pk 2, .e (.lit (.int 2))])])]
    [],
  .set 3 (.prim .ix [.e (.lst [.e (.lit (.int 2305843009213693951)), .e (.lit (.int 2147483647)), .e (.lit (.int 2305843009213693921))]), .e (.prim .mod [.pk 1, .e (.lit (.int 3))])]),
  .set 4 (.lit (.int 0)),
  .set 5 (.prim .mod [.e (.prim .add [.e (.prim .add [.e (.prim .pow [.e (.prim .add [.e (.prim .add [.e (.prim .mod [.pk 2, .pk 3]), .e (.prim .mul [.e (.lit (.int 7919)), .pk 1])]), .e (.lit (.int 1))]), .e (.lit (.int 5))]), .e (.prim .mul [.e (.lit (.int 69621)), .pk 1])]), .e (.lit (.int 11))]), .pk 3]),
  .for_ (.nm 6) (.rng1 (.lit (.int 20)))
    [.set 4 (.prim .add [.e (.prim .mul [.pk 4, .pk 3]), .pk 5]),
    .set 5 (.prim .mod [.e (.prim .add [.e (.prim .add [.e (.prim .mul [.e (.prim .mul [.pk 5, .pk 5]), .e (.prim .add [.pk 1, .e (.lit (.int 3))])]), .e (.prim .mul [.e (.lit (.int 40692)), .pk 1])]), .pk 6]), .pk 3])],
  .ret (.lst [.e (.var 4)])]

def d_law_adigit : DD where
  x := ("_law_adigit" : Str)
  N := [("tape" : Str), ("many" : Str), ("found" : Str)]
  pn := [("tape" : Str), ("many" : Str)]
  ps := [true, false]
  st := top 7
  body :=
  [.set 2 (.prim .mod [.e (.pth 0 [.lit (.int 0)]), .pk 1]),
  .setp 0 [] (.lit (.int 0)) (.prim .fdiv [.e (.pth 0 [.lit (.int 0)]), .pk 1]),
  .ret (.mv 2)]

def d_law_awhole : DD where
  x := ("_law_awhole" : Str)
  N := [("found" : Str)]
  pn := [("found" : Str)]
  ps := [false]
  st := top 8
  body :=
  [.ret (.and_ (.prim (.isi "int") [.pk 0]) (.not_ (.prim (.isi "bool") [.pk 0])))]

def d_law_alow : DD where
  x := ("_law_alow" : Str)
  N := [("a" : Str), ("b" : Str), ("one" : Str), ("other" : Str)]
  pn := [("a" : Str), ("b" : Str)]
  ps := [false, false]
  st := top 9
  body :=
  [.set 2 (.prim (.bi .abs) [.pk 0]),
  .set 3 (.var 1),
  .whl (10 ^ 300) (.e (.prim (.cmp .Gt) [.pk 3, .e (.lit (.int 0))]))
    [.par 2 3 (.var 3) (.prim .mod [.pk 2, .pk 3])],
  .ret (.tup [.e (.prim .fdiv [.pk 0, .pk 2]), .e (.prim .fdiv [.pk 1, .pk 2])])]

def d_law_anumber : DD where
  x := ("_law_anumber" : Str)
  N := [("tape" : Str), ("size" : Str)]
  pn := [("tape" : Str)]
  ps := [true]
  st := top 10
  body :=
  [.set 1 (.prim .ix [.e (.lst [.e (.lit (.int 3)), .e (.lit (.int 12)), .e (.lit (.int 1000)), .e (.prim .pow [.e (.lit (.int 10)), .e (.lit (.int 20))]), .e (.prim .pow [.e (.lit (.int 10)), .e (.lit (.int 29))]), .e (.prim .pow [.e (.lit (.int 10)), .e (.lit (.int 20))])]), .e (.call ("_law_adigit" : Str) [.io 0, .e (.lit (.int 6))])]),
  .ret (.prim .mul [.e (.call ("_law_adigit" : Str) [.io 0, .e (.var 1)]), .e (.prim .add [.e (.lit (.int 1)), .e (.call ("_law_adigit" : Str) [.io 0, .e (.lit (.int 60))])])])]

def d_law_ais_low : DD where
  x := ("_law_ais_low" : Str)
  N := [("found" : Str), ("number" : Str)]
  pn := [("found" : Str)]
  ps := [false]
  st := top 11
  body :=
  [.ite (.or_ (.not_ (.e (.prim (.isi "tuple") [.pk 0]))) (.or_ (.e (.prim (.cmp .NotEq) [.e (.prim (.bi .len) [.pk 0]), .e (.lit (.int 2))])) (.e (.prim (.cmp .In) [.e (.lit (.bool false)), .e (.lc [1] (.nm 1) (.sq (.var 0)) [] (.call ("_law_awhole" : Str) [.e (.var 1)]))]))))
    [.ret (.lit (.bool false))]
    [],
  .ret (.and_ (.prim (.cmp .GtE) [.e (.pth 0 [.lit (.int 1)]), .e (.lit (.int 1))]) (.prim (.cmp .Eq) [.e (.call ("_law_alow" : Str) [.e (.pth 0 [.lit (.int 0)]), .e (.pth 0 [.lit (.int 1)])]), .pk 0]))]

def d_law : DD where
  x := ("law" : Str)
  N := [("script" : Str), ("start" : Str), ("tape" : Str), ("sign" : Str), ("other_sign" : Str), ("a" : Str), ("b" : Str), ("found" : Str), ("one" : Str), ("other" : Str), ("total" : Str), ("due" : Str), ("told" : Str)]
  pn := [("script" : Str)]
  ps := [false]
  st := top 12
  body :=
  [.for_ (.nm 1) (.rng2 [.e (.lit (.int 0)), .e (.prim (.bi .max2) [.e (.lit (.int 1)), .e (.prim (.bi .min2) [.e (.lit (.int 10)), .e (.prim (.bi .len) [.pk 0])])])])
    [.set 2 (.call ("_law_atape" : Str) [.e (.var 0), .e (.var 1)]),
    .set 3 (.prim .ix [.e (.lst [.e (.lit (.int 1)), .e (.prim .neg [.e (.lit (.int 1))])]), .e (.call ("_law_adigit" : Str) [.io 2, .e (.lit (.int 2))])]),
    .set 4 (.prim .ix [.e (.lst [.e (.lit (.int 1)), .e (.prim .neg [.e (.lit (.int 1))])]), .e (.call ("_law_adigit" : Str) [.io 2, .e (.lit (.int 2))])]),
    .set 5 (.prim .mul [.pk 3, .e (.call ("_law_anumber" : Str) [.io 2])]),
    .set 6 (.prim .add [.e (.lit (.int 1)), .e (.call ("_law_anumber" : Str) [.io 2])]),
    .set 7 (.call ("lowest" : Str) [.e (.var 5), .e (.var 6)]),
    .ite (.or_ (.not_ (.e (.call ("_law_ais_low" : Str) [.e (.var 7)]))) (.e (.prim (.cmp .NotEq) [.e (.prim .mul [.e (.pth 7 [.lit (.int 0)]), .pk 6]), .e (.prim .mul [.pk 5, .e (.pth 7 [.lit (.int 1)])])])))
      [.ret (.lit (.bool false))]
      [],
    .set 8 (.call ("_law_alow" : Str) [.e (.var 5), .e (.var 6)]),
    .set 9 (.call ("_law_alow" : Str) [.e (.prim .mul [.pk 4, .e (.call ("_law_anumber" : Str) [.io 2])]), .e (.prim .add [.e (.lit (.int 1)), .e (.call ("_law_anumber" : Str) [.io 2])])]),
    .set 10 (.call ("plus" : Str) [.e (.var 8), .e (.var 9)]),
    .set 11 (.prim .add [.e (.prim .mul [.e (.pth 8 [.lit (.int 0)]), .e (.pth 9 [.lit (.int 1)])]), .e (.prim .mul [.e (.pth 9 [.lit (.int 0)]), .e (.pth 8 [.lit (.int 1)])])]),
    .ite (.or_ (.not_ (.e (.call ("_law_ais_low" : Str) [.e (.var 10)]))) (.e (.prim (.cmp .NotEq) [.e (.prim .mul [.e (.prim .mul [.e (.pth 10 [.lit (.int 0)]), .e (.pth 8 [.lit (.int 1)])]), .e (.pth 9 [.lit (.int 1)])]), .e (.prim .mul [.e (.pth 10 [.lit (.int 1)]), .pk 11])])))
      [.ret (.lit (.bool false))]
      [],
    .set 12 (.call ("is_less" : Str) [.e (.var 8), .e (.var 9)]),
    .ite (.or_ (.not_ (.e (.prim (.isi "bool") [.pk 12]))) (.e (.prim (.cmp .NotEq) [.pk 12, .e (.prim (.cmp .Lt) [.e (.prim .mul [.e (.pth 8 [.lit (.int 0)]), .e (.pth 9 [.lit (.int 1)])]), .e (.prim .mul [.e (.pth 9 [.lit (.int 0)]), .e (.pth 8 [.lit (.int 1)])])])])))
      [.ret (.lit (.bool false))]
      [],
    .ite (.e (.prim (.cmp .IsNot) [.e (.call ("is_less" : Str) [.e (.var 8), .e (.var 8)]), .e (.lit (.bool false))]))
      [.ret (.lit (.bool false))]
      []],
  .ret (.lit (.bool true))]

def ds : List DD := [d_law_ais_low, d_law_anumber, d_law_alow, d_law_awhole, d_law_adigit, d_law_atape, d_law_acell, d_is_less, d_plus, d_lowest]
theorem ds_ok : ∀ d ∈ d_law :: ds, dOk [] d = true := List.all_eq_true.mp (by decide +kernel)
end Hg
set_option Elab.async false
set_option linter.all false
set_option maxRecDepth 100000
set_option maxHeartbeats 400000
namespace Hg
open PySem PySem.Spec PyProof.Rows L2 Hw
theorem t_digit (t m : Int) (hm : 0 < m) (hl : m.natAbs.log2 < 9000) (F : Genv) : runDef F d_law_adigit.N.length d_law_adigit.ps d_law_adigit.body [.l [iT t], iT m] = some (.ok (iT (t % m)) [.l [iT (t / m)], .gone]) := by
  simp [runDef, d_law_adigit, exB, exS, ev, evAs, evP, evPt, slotOk, AR.cons, resolves, resolve, primEv, int2, asInt, iT, kidT, isStl, flatD, Hw.putIn, putP, setAt, ixN, atI, idxs, outsOf, hm, hl]
/-- the loop of lowest -/
theorem t_gcd (F : Genv) (a b : Int) : ∀ (n m k : Nat), n < k → whL (fun Γ => evT F (.e (.prim (.cmp .Gt) [.pk 3, .e (.lit (.int 0))])) Γ) (fun Γ => exB F [.par 2 3 (.var 3) (.prim .mod [.pk 2, .pk 3])] Γ) k [iT a, iT b, iT (m : Nat), iT (n : Nat)] = some (.nx [iT a, iT b, iT (Nat.gcd m n : Nat), iT 0]) := by
  intro n
  induction n using Nat.strongRecOn with
  | ind n ih =>
    intro m k hk
    obtain ⟨k, rfl⟩ : ∃ j, k = j + 1 := ⟨k - 1, by omega⟩
    by_cases h0 : n = 0
    · subst h0
      rw [whl_end (Γ1 := [iT a, iT b, iT (m : Nat), iT 0])]
      · simp
      · simp [evT, ev, evAs, slotOk, AR.cons, resolves, resolve, primEv, cmpEv, cmpI, asInt, iT, bT, truth, flatD]
    · have hn : (0 : Int) < (n : Nat) := by omega
      have hr := ih (m % n) (Nat.mod_lt _ (by omega)) n k (by have := Nat.mod_lt m (show 0 < n by omega); omega)
      rw [whl_step (Γ1 := [iT a, iT b, iT (m : Nat), iT (n : Nat)]) (Γ2 := [iT a, iT b, iT (n : Nat), iT ((m % n : Nat) : Nat)]), hr]
      · congr 4
        rw [Nat.gcd_comm n (m % n), ← Nat.gcd_rec, Nat.gcd_comm]
      · simp [evT, ev, evAs, slotOk, AR.cons, resolves, resolve, primEv, cmpEv, cmpI, asInt, iT, bT, truth, flatD, Nat.pos_of_ne_zero h0]
      · simp [exB, exS, ev, evAs, slotOk, AR.cons, resolves, resolve, primEv, int2, asInt, iT, Nat.pos_of_ne_zero h0]
def g2 (a b : Int) : Int := (Int.gcd a b : Nat)
def lowD (a b : Int) : PyData := .tuple [.int (a / g2 a b), .int (b / g2 a b)]
theorem g2_pos {a b : Int} (hb : 0 < b) : 0 < g2 a b := by
  unfold g2
  have := Int.gcd_pos_of_ne_zero_right a (show b ≠ 0 by omega)
  omega
theorem t_low (F : Genv) (a b : Int) (hb : 0 < b) (h2 : b < 10 ^ 299) (body : List CS) (hbd : body = d_lowest.body) : runDef F 4 [false, false] body [iT a, iT b] = some (.ok (.c (lowD a b)) [.gone, .gone]) := by
  subst hbd
  have hg := g2_pos (a := a) hb
  have hgl : (g2 a b) ≤ b := by unfold g2; exact Int.le_of_dvd hb (Int.gcd_dvd_right ..)
  have hnat : (g2 a b).natAbs < 2 ^ 9000 := by
    have h3 : (10 : Int) ^ 299 < 2 ^ 9000 := by decide +kernel
    have h4 : g2 a b < 2 ^ 9000 := Int.lt_trans (Int.lt_of_le_of_lt hgl h2) h3
    have h5 : ((g2 a b).natAbs : Int) = g2 a b := Int.natAbs_of_nonneg (Int.le_of_lt hg)
    have h6 : ((g2 a b).natAbs : Int) < ((2 ^ 9000 : Nat) : Int) := by rw [h5, Int.natCast_pow]; exact h4
    exact Int.ofNat_lt.mp h6
  have hlg : (g2 a b).natAbs.log2 < 9000 := lg_lt hnat (by decide)
  refine run_rt (Γ := [iT a, iT b, iT (g2 a b), iT 0]) rfl (by decide) ?_
  show exB F d_lowest.body [iT a, iT b, .gone, .gone] = _
  unfold d_lowest
  dsimp only
  rw [exB_nx (Γ1 := [iT a, iT b, iT (a.natAbs : Nat), .gone]), exB_nx (Γ1 := [iT a, iT b, iT (a.natAbs : Nat), iT b]), exB_nx (Γ1 := [iT a, iT b, iT (g2 a b), iT 0])]
  · apply exB_rt
    simp [exS, ev, evAs, slotOk, AR.cons, resolves, resolve, primEv, int2, asInt, iT, hg, hlg, tmps, tupT, stl, lowD, show 2 ≤ sizeLine from by decide]
  · have hk : b.natAbs < 10 ^ 300 := by
      have h3 : (10 : Int) ^ 299 < 10 ^ 300 := by decide +kernel
      have h5 : (b.natAbs : Int) = b := Int.natAbs_of_nonneg (Int.le_of_lt hb)
      have h6 : (b.natAbs : Int) < ((10 ^ 300 : Nat) : Int) := by rw [h5, Int.natCast_pow]; exact Int.lt_trans h2 h3
      exact Int.ofNat_lt.mp h6
    have := t_gcd F a b b.natAbs a.natAbs (10 ^ 300) hk
    simp only [exS]
    rw [Int.natAbs_of_nonneg (Int.le_of_lt hb)] at this
    exact this
  · simp [exS, ev, iT]
  · simp [exS, ev, evAs, slotOk, AR.cons, resolves, resolve, primEv, biEv, asInt, iT]
    omega
theorem t_alow (F : Genv) (a b : Int) (hb : 0 < b) (h2 : b < 10 ^ 299) : runDef F d_law_alow.N.length d_law_alow.ps d_law_alow.body [iT a, iT b] = some (.ok (.c (lowD a b)) [.gone, .gone]) := t_low F a b hb h2 _ rfl
theorem t_lowest (F : Genv) (a b : Int) (hb : 0 < b) (h2 : b < 10 ^ 299) : runDef F d_lowest.N.length d_lowest.ps d_lowest.body [iT a, iT b] = some (.ok (.c (lowD a b)) [.gone, .gone]) := t_low F a b hb h2 _ rfl
/-- a fraction -/
def fr (p q : Int) : Tr := .c (.tuple [.int p, .int q])
def Lo (F : Genv) (x : Str) : Prop := ∃ run, F.fn x = some run ∧ ∀ a b : Int, 0 < b → b < 10 ^ 299 → run [iT a, iT b] = some (.ok (.c (lowD a b)) [.gone, .gone])
def small (n : Nat) (i : Int) : Prop := i.natAbs < 2 ^ n
theorem small.mul {n m : Nat} {i j : Int} (h : small n i) (k : small m j) : small (n + m) (i * j) := by
  unfold small at *
  rw [Int.natAbs_mul, Nat.pow_add]
  exact Nat.mul_lt_mul'' h k
theorem small.add {n m : Nat} {i j : Int} (h : small n i) (k : small m j) : small (n + m + 1) (i + j) := by
  unfold small at *
  have h1 : 2 ^ n ≤ 2 ^ (n + m) := Nat.pow_le_pow_right (by decide) (by omega)
  have h2 : 2 ^ m ≤ 2 ^ (n + m) := Nat.pow_le_pow_right (by decide) (by omega)
  rw [Nat.pow_succ]
  omega
theorem small.up {n m : Nat} {i : Int} (h : small n i) (k : n ≤ m) : small m i := Nat.lt_of_lt_of_le h (Nat.pow_le_pow_right (by decide) k)
theorem mul_s {n m : Nat} {i j : Int} (h : small n i) (k : small m j) (hn : n ≤ 500000) (hm : m ≤ 500000) : mulEv (iT i) (iT j) = some (iT (i * j)) := mul_i (h.up hn) (k.up hm)
theorem t_plus {F : Genv} (hF : Lo F "lowest") {a b c d : Int} (ha : small 1000 a) (hb : small 1000 b) (hc : small 1000 c) (hd : small 1000 d) (h : 0 < b * d) (h2 : b * d < 10 ^ 299) :
    runDef F d_plus.N.length d_plus.ps d_plus.body [fr a b, fr c d] = some (.ok (.c (lowD (a * d + c * b) (b * d))) [.gone, .gone]) := by
  obtain ⟨run, hf, hr⟩ := hF
  have e1 := mul_s ha hd (by decide) (by decide)
  have e2 := mul_s hc hb (by decide) (by decide)
  have e3 := mul_s hb hd (by decide) (by decide)
  simp only [iT] at e1 e2 e3
  have e4 := hr (a * d + c * b) (b * d) h h2
  simp only [iT] at e4
  simp [runDef, d_plus, exB, exS, ev, evAs, evP, evPt, slotOk, AR.cons, resolves, resolve, primEv, asInt, iT, kidT, kidD, isStl, flatD, fr, atI, ixN, outsOf, addEv, e1, e2, e3, hf, slotsOf, argsOf, argOf, Hw.settle, frz, hasPk, e4, backs]
theorem t_less {F : Genv} {a b c d : Int} (ha : small 1000 a) (hb : small 1000 b) (hc : small 1000 c) (hd : small 1000 d) :
    runDef F d_is_less.N.length d_is_less.ps d_is_less.body [fr a b, fr c d] = some (.ok (bT (decide (a * d < c * b))) [.gone, .gone]) := by
  have e1 := mul_s ha hd (by decide) (by decide)
  have e2 := mul_s hc hb (by decide) (by decide)
  simp only [iT] at e1 e2
  simp [runDef, d_is_less, exB, exS, ev, evAs, evP, evPt, slotOk, AR.cons, resolves, resolve, primEv, asInt, iT, kidT, kidD, isStl, flatD, fr, atI, ixN, outsOf, e1, e2, cmpEv, cmpI]
theorem kit_ii : kitB "int" "int" = some true := by kernel_rfl
theorem kit_ib : kitB "int" "bool" = some false := by kernel_rfl
theorem kit_tt : kitB "tuple" "tuple" = some true := by kernel_rfl
theorem kit_bb : kitB "bool" "bool" = some true := by kernel_rfl
theorem t_awhole {F : Genv} (i : Int) : runDef F d_law_awhole.N.length d_law_awhole.ps d_law_awhole.body [iT i] = some (.ok (bT true) [.gone]) := by
  simp [runDef, d_law_awhole, exB, exS, ev, evAs, slotOk, AR.cons, resolves, resolve, primEv, asBool, iT, bT, tyName, truth, outsOf, kit_ii, kit_ib]
theorem t_acell {F : Genv} (ns : List Int) (k : Nat) : ∃ c, runDef F d_law_acell.N.length d_law_acell.ps d_law_acell.body [.s ns, iT k] = some (.ok (iT c) [.gone, .gone]) := by
  by_cases h : (k : Int) < ns.length
  · have hk : k < ns.length := by omega
    refine ⟨ns[k], ?_⟩
    simp [runDef, d_law_acell, exB, exS, evT, ev, evAs, evP, evPt, slotOk, AR.cons, resolves, resolve, primEv, biEv, asInt, iT, bT, cmpEv, cmpI, kidT, isStl, atI, ixN, hk, truth, outsOf]
  · refine ⟨0, ?_⟩
    have hk : ¬ k < ns.length := by omega
    simp [runDef, d_law_acell, exB, exS, evT, ev, evAs, evP, evPt, slotOk, AR.cons, resolves, resolve, primEv, biEv, asInt, iT, bT, cmpEv, cmpI, kidT, isStl, atI, ixN, hk, truth, outsOf, flatD]
theorem small_of {n : Nat} {i : Int} (h0 : 0 ≤ i) (h : i < ((2 ^ n : Nat) : Int)) : small n i := by
  unfold small
  omega
theorem small_nat {n k : Nat} (h : k < 2 ^ n) : small n (k : Int) := by unfold small; simpa using h
theorem t_atape {F : Genv} (hF : ∃ run, F.fn "_law_acell" = some run ∧ ∀ ns (k : Nat), ∃ c, run [.s ns, iT k] = some (.ok (iT c) [.gone, .gone])) (ns : List Int) (k : Nat) (hk : k < 10) : ∃ t, runDef F d_law_atape.N.length d_law_atape.ps d_law_atape.body [.s ns, iT k] = some (.ok (.l [iT t]) [.gone, .gone]) := by
  obtain ⟨run, hf, hr⟩ := hF
  obtain ⟨c, hc⟩ := hr ns k
  have step1 : exS F (.set 2 (.call ("_law_acell" : Str) [.e (.var 0), .e (.var 1)])) [.s ns, iT k, .gone, .gone, .gone, .gone, .gone] = some (.nx [.s ns, iT k, iT c, .gone, .gone, .gone, .gone]) := by
    simp only [iT] at hc
    simp [exS, ev, evAs, AR.cons, hf, slotsOf, argsOf, argOf, Hw.settle, frz, hasPk, iT, hc, backs]
  by_cases h2 : c % 2 = 0
  · refine ⟨c / 2, ?_⟩
    refine run_rt (Γ := [.s ns, iT k, iT c, .gone, .gone, .gone, .gone]) rfl (by decide) ?_
    show exB F d_law_atape.body [.s ns, iT k, .gone, .gone, .gone, .gone, .gone] = _
    unfold d_law_atape
    dsimp only
    rw [exB_nx step1]
    apply exB_rt
    simp [exS, exB, evT, ev, evAs, slotOk, AR.cons, resolves, resolve, primEv, int2, asInt, iT, bT, cmpEv, eq_i, h2, truth, flatD, tmps, show 1 ≤ sizeLine from by decide, show Nat.log2 2 < 9000 from by decide +kernel]
  · have stepIf : exS F (.ite (.e (.prim (.cmp .Eq) [.e (.prim .mod [.pk 2, .e (.lit (.int 2))]), .e (.lit (.int 0))])) [.ret (.lst [.e (.prim .fdiv [.pk 2, .e (.lit (.int 2))])])] []) [.s ns, iT k, iT c, .gone, .gone, .gone, .gone] = some (.nx [.s ns, iT k, iT c, .gone, .gone, .gone, .gone]) := by
      simp [exS, exB, evT, ev, evAs, slotOk, AR.cons, resolves, resolve, primEv, int2, asInt, iT, bT, cmpEv, eq_i, h2, truth, flatD]
    have stepP : ∃ p : Int, 0 < p ∧ p < ((2 ^ 62 : Nat) : Int) ∧ exS F (.set 3 (.prim .ix [.e (.lst [.e (.lit (.int 2305843009213693951)), .e (.lit (.int 2147483647)), .e (.lit (.int 2305843009213693921))]), .e (.prim .mod [.pk 1, .e (.lit (.int 3))])])) [.s ns, iT k, iT c, .gone, .gone, .gone, .gone] = some (.nx [.s ns, iT k, iT c, iT p, .gone, .gone, .gone]) := by
      have h3 : (k : Int) % 3 = 0 ∨ (k : Int) % 3 = 1 ∨ (k : Int) % 3 = 2 := by omega
      rcases h3 with h3 | h3 | h3
      · exact ⟨2305843009213693951, by decide, by decide, by simp [exS, ev, evAs, slotOk, AR.cons, resolves, resolve, primEv, int2, asInt, iT, flatD, tmps, h3, ixEv, asSeq, asList, stl, atI, ixN, show 3 ≤ sizeLine from by decide]⟩
      · exact ⟨2147483647, by decide, by decide, by simp [exS, ev, evAs, slotOk, AR.cons, resolves, resolve, primEv, int2, asInt, iT, flatD, tmps, h3, ixEv, asSeq, asList, stl, atI, ixN, show 3 ≤ sizeLine from by decide]⟩
      · exact ⟨2305843009213693921, by decide, by decide, by simp [exS, ev, evAs, slotOk, AR.cons, resolves, resolve, primEv, int2, asInt, iT, flatD, tmps, h3, ixEv, asSeq, asList, stl, atI, ixN, show 3 ≤ sizeLine from by decide]⟩
    obtain ⟨p, p0, p1, hp⟩ := stepP
    have cp : small 62 (c % p) := small_of (Int.emod_nonneg _ (by omega)) (Int.lt_trans (Int.emod_lt_of_pos _ p0) p1)
    have kk : small 4 (k : Int) := small_nat (by omega)
    have c7 : small 13 (7919 : Int) := by unfold small; decide
    have c69 : small 17 (69621 : Int) := by unfold small; decide
    have c40 : small 16 (40692 : Int) := by unfold small; decide
    have m1 := mul_s c7 kk (by decide) (by decide)
    have m2 := mul_s c69 kk (by decide) (by decide)
    have m3 := mul_s c40 kk (by decide) (by decide)
    have hpow : (c % p + 7919 * (k : Int) + 1).natAbs < 18446744073709551616 := by
      have : (0 : Int) ≤ c % p := Int.emod_nonneg _ (by omega)
      have : c % p < p := Int.emod_lt_of_pos _ p0
      have : p < 4611686018427387904 := by simpa using p1
      omega
    obtain ⟨last, l0, l1, hlast⟩ : ∃ last : Int, 0 ≤ last ∧ last < p ∧ exS F (.set 5 (.prim .mod [.e (.prim .add [.e (.prim .add [.e (.prim .pow [.e (.prim .add [.e (.prim .add [.e (.prim .mod [.pk 2, .pk 3]), .e (.prim .mul [.e (.lit (.int 7919)), .pk 1])]), .e (.lit (.int 1))]), .e (.lit (.int 5))]), .e (.prim .mul [.e (.lit (.int 69621)), .pk 1])]), .e (.lit (.int 11))]), .pk 3])) [.s ns, iT k, iT c, iT p, iT 0, .gone, .gone] = some (.nx [.s ns, iT k, iT c, iT p, iT 0, iT last, .gone]) := by
      refine ⟨((c % p + 7919 * k + 1) ^ 5 + 69621 * k + 11) % p, Int.emod_nonneg _ (by omega), Int.emod_lt_of_pos _ p0, ?_⟩
      simp only [iT] at m1 m2
      simp [exS, ev, evAs, slotOk, AR.cons, resolves, resolve, primEv, int2, asInt, iT, flatD, addEv, m1, m2, p0, hpow]
    have loop := forL_inv (body := fun Γ => exB F [.set 4 (.prim .add [.e (.prim .mul [.pk 4, .pk 3]), .pk 5]), .set 5 (.prim .mod [.e (.prim .add [.e (.prim .add [.e (.prim .mul [.e (.prim .mul [.pk 5, .pk 5]), .e (.prim .add [.pk 1, .e (.lit (.int 3))])]), .e (.prim .mul [.e (.lit (.int 40692)), .pk 1])]), .pk 6]), .pk 3])] Γ) (bind := fun Γ d => bindTg Γ (.nm 6) d)
      (fun i Γ => ∃ num last x, Γ = [.s ns, iT k, iT c, iT p, iT num, iT last, x] ∧ small (130 * i + 1) num ∧ 0 ≤ last ∧ last < p) (ds := rgD 0 20) (n := 0) (Γ := [.s ns, iT k, iT c, iT p, iT 0, iT last, .gone]) ?turn ⟨0, last, _, rfl, by unfold small; decide, l0, l1⟩
    case turn =>
      rintro i d Γ hd ⟨num, last, x, rfl, sn, l0, l1⟩
      obtain ⟨hi, rfl⟩ := rgD_get hd
      have hi : i < 20 := by simpa using hi
      have pp : small 62 p := small_of (by omega) p1
      have ll : small 62 last := small_of l0 (Int.lt_trans l1 p1)
      have s1 := mul_s sn pp (by omega) (by decide)
      have s2 := mul_s ll ll (by decide) (by decide)
      have s3 : small 10 ((k : Int) + 3) := by unfold small; omega
      have s4 := mul_s (ll.mul ll) s3 (by decide) (by decide)
      refine ⟨_, [.s ns, iT k, iT c, iT p, iT (num * p + last), iT ((last * last * (k + 3) + 40692 * k + (0 + (i : Nat))) % p), iT (0 + (i : Nat))], rfl, ?_, ⟨_, _, _, rfl, ?_, Int.emod_nonneg _ (by omega), Int.emod_lt_of_pos _ p0⟩⟩
      · simp only [iT] at s1 s2 s4 m3
        simp [exB, exS, ev, evAs, slotOk, AR.cons, resolves, resolve, primEv, int2, asInt, iT, flatD, addEv, s1, s2, s4, m3, p0]
      · exact ((sn.mul pp).add ll).up (by omega)
    obtain ⟨Γ', e, num, last', x, rfl, _⟩ := loop
    refine ⟨num, ?_⟩
    refine run_rt (Γ := [.s ns, iT k, iT c, iT p, iT num, iT last', x]) rfl (by decide) ?_
    show exB F d_law_atape.body [.s ns, iT k, .gone, .gone, .gone, .gone, .gone] = _
    unfold d_law_atape
    dsimp only
    rw [exB_nx step1, exB_nx stepIf, exB_nx hp, exB_nx (Γ1 := [.s ns, iT k, iT c, iT p, iT 0, .gone, .gone]) (by simp [exS, ev, flatD, iT]), exB_nx hlast, exB_nx ((exS_for (Γ1 := [.s ns, iT k, iT c, iT p, iT 0, iT last, .gone]) (ds := rgD 0 20) (by simp [evIt, ev, flatD, asInt])).trans e)]
    apply exB_rt
    simp [exS, ev, evAs, AR.cons, tmps, iT, show 1 ≤ sizeLine from by decide]
theorem g_fn : (genv (fun _ => none) ds).fn "plus" = some (runDef (genv (fun _ => none) [d_lowest]) d_plus.N.length d_plus.ps d_plus.body) := by kernel_rfl
end Hg
set_option Elab.async false
set_option linter.all false
set_option maxRecDepth 100000
set_option maxHeartbeats 400000
namespace Hg
open PySem PySem.Spec PyProof.Rows L2 Hw
def Dg (F : Genv) : Prop := ∃ run, F.fn "_law_adigit" = some run ∧ ∀ t m : Int, 0 < m → m.natAbs.log2 < 9000 → run [.l [iT t], iT m] = some (.ok (iT (t % m)) [.l [iT (t / m)], .gone])
theorem t_number {F : Genv} (hF : Dg F) (t : Int) : ∃ v t', 0 ≤ v ∧ v < 10 ^ 31 ∧ runDef F d_law_anumber.N.length d_law_anumber.ps d_law_anumber.body [.l [iT t]] = some (.ok (iT v) [.l [iT t']]) := by
  obtain ⟨run, hf, hr⟩ := hF
  have e6 := hr t 6 (by decide) (by decide +kernel)
  simp only [iT] at e6
  have step : ∃ size : Int, 0 < size ∧ size ≤ 10 ^ 29 ∧ exS F (.set 1 (.prim .ix [.e (.lst [.e (.lit (.int 3)), .e (.lit (.int 12)), .e (.lit (.int 1000)), .e (.prim .pow [.e (.lit (.int 10)), .e (.lit (.int 20))]), .e (.prim .pow [.e (.lit (.int 10)), .e (.lit (.int 29))]), .e (.prim .pow [.e (.lit (.int 10)), .e (.lit (.int 20))])]), .e (.call ("_law_adigit" : Str) [.io 0, .e (.lit (.int 6))])])) [.l [iT t], .gone] = some (.nx [.l [iT (t / 6)], iT size]) := by
    have h : t % 6 = 0 ∨ t % 6 = 1 ∨ t % 6 = 2 ∨ t % 6 = 3 ∨ t % 6 = 4 ∨ t % 6 = 5 := by omega
    have go : ∀ (j : Nat) (z : Int), t % 6 = j → ([3, 12, 1000, 10 ^ 20, 10 ^ 29, 10 ^ 20] : List Int)[j]? = some z → exS F (.set 1 (.prim .ix [.e (.lst [.e (.lit (.int 3)), .e (.lit (.int 12)), .e (.lit (.int 1000)), .e (.prim .pow [.e (.lit (.int 10)), .e (.lit (.int 20))]), .e (.prim .pow [.e (.lit (.int 10)), .e (.lit (.int 29))]), .e (.prim .pow [.e (.lit (.int 10)), .e (.lit (.int 20))])]), .e (.call ("_law_adigit" : Str) [.io 0, .e (.lit (.int 6))])])) [.l [iT t], .gone] = some (.nx [.l [iT (t / 6)], iT z]) := by
      intro j z hj hz
      have hj6 : j < 6 := by omega
      have e : ixEv (.l [.c (.int 3), .c (.int 12), .c (.int 1000), .c (.int (10 ^ 20)), .c (.int (10 ^ 29)), .c (.int (10 ^ 20))]) (.c (.int (t % 6))) = some (.c (.int z)) := by
        rw [hj]
        have : ixEv (.l [.c (.int 3), .c (.int 12), .c (.int 1000), .c (.int (10 ^ 20)), .c (.int (10 ^ 29)), .c (.int (10 ^ 20))]) (.c (.int (j : Nat))) = (([3, 12, 1000, 10 ^ 20, 10 ^ 29, 10 ^ 20] : List Int)[j]?).map fun z => .c (.int z) := by
          match j, hj6 with
          | 0, _ => rfl
          | 1, _ => rfl
          | 2, _ => rfl
          | 3, _ => rfl
          | 4, _ => rfl
          | 5, _ => rfl
        rw [this, hz]; rfl
      simp only [Int.reducePow] at e
      simp [exS, ev, evAs, slotOk, AR.cons, resolves, resolve, primEv, int2, asInt, iT, flatD, tmps, hf, slotsOf, argsOf, argOf, Hw.settle, frz, hasPk, e6, backs, e, show 6 ≤ sizeLine from by decide]
    rcases h with h | h | h | h | h | h
    · exact ⟨3, by decide, by decide, go 0 _ h rfl⟩
    · exact ⟨12, by decide, by decide, go 1 _ h rfl⟩
    · exact ⟨1000, by decide, by decide, go 2 _ h rfl⟩
    · exact ⟨10 ^ 20, by decide, by decide, go 3 _ h rfl⟩
    · exact ⟨10 ^ 29, by decide, by decide, go 4 _ h rfl⟩
    · exact ⟨10 ^ 20, by decide, by decide, go 5 _ h rfl⟩
  obtain ⟨size, s0, s1, hs⟩ := step
  have sl : size.natAbs.log2 < 9000 := by
    have : size.natAbs < 2 ^ 200 := by
      have h3 : (10 : Int) ^ 29 < 2 ^ 200 := by decide +kernel
      omega
    have := lg_lt this (by decide)
    omega
  have e1 := hr (t / 6) size s0 sl
  have e2 := hr (t / 6 / size) 60 (by decide) (by decide +kernel)
  have a0 : 0 ≤ (t / 6) % size := Int.emod_nonneg _ (by omega)
  have a1 : (t / 6) % size < size := Int.emod_lt_of_pos _ s0
  have b0 : 0 ≤ (t / 6 / size) % 60 := Int.emod_nonneg _ (by decide)
  have b1 : (t / 6 / size) % 60 < 60 := Int.emod_lt_of_pos _ (by decide)
  have m : mulEv (iT ((t / 6) % size)) (iT (1 + (t / 6 / size) % 60)) = some (iT (((t / 6) % size) * (1 + (t / 6 / size) % 60))) := by
    refine mul_s (n := 200) (m := 10) ?_ ?_ (by decide) (by decide)
    · have h3 : (10 : Int) ^ 29 < 2 ^ 200 := by decide +kernel
      unfold small; omega
    · unfold small; omega
  refine ⟨((t / 6) % size) * (1 + (t / 6 / size) % 60), t / 6 / size / 60, Int.mul_nonneg a0 (by omega), ?_, ?_⟩
  · have h1 : ((t / 6) % size) * (1 + (t / 6 / size) % 60) ≤ 10 ^ 29 * 60 := Int.mul_le_mul (by omega) (by omega) (by omega) (by decide)
    exact Int.lt_of_le_of_lt h1 (by decide)
  · have fin : exB F d_law_anumber.body [.l [iT t], .gone] = some (.rt (iT (((t / 6) % size) * (1 + (t / 6 / size) % 60))) [.l [iT (t / 6 / size / 60)], iT size]) := by
      unfold d_law_anumber
      dsimp only
      rw [exB_nx hs]
      apply exB_rt
      simp only [iT] at e1 e2 m
      simp [exS, ev, evAs, slotOk, AR.cons, resolves, resolve, primEv, asInt, iT, flatD, addEv, hf, slotsOf, argsOf, argOf, Hw.settle, frz, hasPk, e1, e2, backs, m]
    exact run_rt (n := 2) (ps := [true]) (ts := [.l [iT t]]) rfl (by decide) fin
theorem low_facts {a b : Int} (hb : 0 < b) : ∃ p q : Int, lowD a b = .tuple [.int p, .int q] ∧ 0 < q ∧ q ≤ b ∧ p.natAbs ≤ a.natAbs ∧ p * b = a * q ∧ g2 p q = 1 := by
  have hg := g2_pos (a := a) hb
  have h1 : g2 a b ∣ a := Int.gcd_dvd_left ..
  have h2 : g2 a b ∣ b := Int.gcd_dvd_right ..
  have ea : g2 a b * (a / g2 a b) = a := Int.mul_ediv_cancel' h1
  have eb : g2 a b * (b / g2 a b) = b := Int.mul_ediv_cancel' h2
  have q0 : 0 < b / g2 a b := by
    rcases Int.lt_trichotomy (b / g2 a b) 0 with h | h | h
    · have := Int.mul_neg_of_pos_of_neg hg h; omega
    · rw [h] at eb; omega
    · exact h
  refine ⟨a / g2 a b, b / g2 a b, rfl, q0, ?_, ?_, ?_, ?_⟩
  · have : 1 * (b / g2 a b) ≤ g2 a b * (b / g2 a b) := Int.mul_le_mul_of_nonneg_right (by omega) (by omega)
    omega
  · have : a.natAbs = (g2 a b).natAbs * (a / g2 a b).natAbs := by rw [← Int.natAbs_mul, ea]
    have h3 : 1 * (a / g2 a b).natAbs ≤ (g2 a b).natAbs * (a / g2 a b).natAbs := Nat.mul_le_mul_right _ (by omega)
    omega
  · have : a / g2 a b * (g2 a b * (b / g2 a b)) = (g2 a b * (a / g2 a b)) * (b / g2 a b) := by
      rw [← Int.mul_assoc, Int.mul_comm (a / g2 a b)]
    rw [eb, ea] at this
    exact this
  · have e : Int.gcd (g2 a b * (a / g2 a b)) (g2 a b * (b / g2 a b)) = (g2 a b).natAbs * Int.gcd (a / g2 a b) (b / g2 a b) := Int.gcd_mul_left ..
    rw [ea, eb] at e
    have h3 : (g2 a b).natAbs = Int.gcd a b := by unfold g2; simp
    rw [h3] at e
    have h4 : 0 < Int.gcd a b := Int.gcd_pos_of_ne_zero_right a (by omega)
    have : Int.gcd (a / g2 a b) (b / g2 a b) = 1 := by
      have := Nat.eq_of_mul_eq_mul_left h4 (show Int.gcd a b * Int.gcd (a / g2 a b) (b / g2 a b) = Int.gcd a b * 1 by omega)
      exact this
    show ((Int.gcd (a / g2 a b) (b / g2 a b) : Nat) : Int) = 1
    rw [this]; rfl
theorem in_ft : inEv (bT false) (.l [bT true, bT true]) = some false := by kernel_rfl
theorem t_islow {F : Genv} (hF : Lo F "_law_alow") (hA : ∃ run, F.fn "_law_awhole" = some run ∧ ∀ i : Int, run [iT i] = some (.ok (bT true) [.gone])) {p q : Int} (hq : 0 < q) (hq2 : q < 10 ^ 299) (hg : g2 p q = 1) :
    runDef F d_law_ais_low.N.length d_law_ais_low.ps d_law_ais_low.body [fr p q] = some (.ok (bT true) [.gone]) := by
  obtain ⟨run, hf, hr⟩ := hF
  obtain ⟨runA, hfA, hrA⟩ := hA
  have e := hr p q hq hq2
  have e2 : lowD p q = .tuple [.int p, .int q] := by unfold lowD; rw [hg]; simp
  rw [e2] at e
  have h1 := hrA p
  have h2 := hrA q
  have h3 := in_ft
  have h4 : (1 : Int) ≤ q := by omega
  simp only [iT, bT] at e h1 h2 h3
  simp [runDef, d_law_ais_low, exB, exS, evT, ev, evAs, evP, evPt, evIt, evC, lcL, bindTg, wipeT, slotOk, AR.cons, resolves, resolve, primEv, biEv, asSeq, asList, asTup, asInt, asBool, iT, bT, tyName, kit_tt, cmpEv, cmpI, eq_i, eq_p, truth, flatD, fr, frz, hf, hfA, slotsOf, argsOf, argOf, Hw.settle, hasPk, backs, h1, h2, h3, h4, e, kidT, kidD, atI, ixN, isStl, outsOf, show 0 < sizeLine from by decide, show 1 < sizeLine from by decide]
end Hg
set_option Elab.async false
set_option linter.all false
set_option maxRecDepth 100000
set_option maxHeartbeats 400000
namespace Hg
open PySem PySem.Spec PyProof.Rows L2 Hw
structure LawF (F : Genv) : Prop where
  tape : ∃ run, F.fn "_law_atape" = some run ∧ ∀ ns (k : Nat), k < 10 → ∃ t, run [.s ns, iT k] = some (.ok (.l [iT t]) [.gone, .gone])
  digit : Dg F
  number : ∃ run, F.fn "_law_anumber" = some run ∧ ∀ t : Int, ∃ v t', 0 ≤ v ∧ v < 10 ^ 31 ∧ run [.l [iT t]] = some (.ok (iT v) [.l [iT t']])
  low : Lo F "lowest"
  alow : Lo F "_law_alow"
  islow : ∃ run, F.fn "_law_ais_low" = some run ∧ ∀ p q : Int, 0 < q → q < 10 ^ 299 → g2 p q = 1 → run [fr p q] = some (.ok (bT true) [.gone])
  plus : ∃ run, F.fn "plus" = some run ∧ ∀ a b c d : Int, small 1000 a → small 1000 b → small 1000 c → small 1000 d → 0 < b * d → b * d < 10 ^ 299 → run [fr a b, fr c d] = some (.ok (.c (lowD (a * d + c * b) (b * d))) [.gone, .gone])
  less : ∃ run, F.fn "is_less" = some run ∧ ∀ a b c d : Int, small 1000 a → small 1000 b → small 1000 c → small 1000 d → run [fr a b, fr c d] = some (.ok (bT (decide (a * d < c * b))) [.gone, .gone])
theorem e_sign {F : Genv} (h : Dg F) (t : Int) (i : Nat) {Γ : List Tr} (hΓ : Γ[2]? = some (.l [iT t])) : ∃ s t', (s = 1 ∨ s = -1) ∧ exS F (.set i (.prim .ix [.e (.lst [.e (.lit (.int 1)), .e (.prim .neg [.e (.lit (.int 1))])]), .e (.call ("_law_adigit" : Str) [.io 2, .e (.lit (.int 2))])])) Γ = some (.nx ((Γ.set 2 (.l [iT t'])).set i (iT s))) := by
  obtain ⟨run, hf, hr⟩ := h
  have e := hr t 2 (by decide) (by decide +kernel)
  have h2 : t % 2 = 0 ∨ t % 2 = 1 := by omega
  simp only [iT] at e hΓ
  rcases h2 with h2 | h2
  · refine ⟨1, t / 2, .inl rfl, ?_⟩
    rw [h2] at e
    simp [exS, ev, evAs, slotOk, AR.cons, resolves, resolve, primEv, asInt, iT, flatD, tmps, hf, slotsOf, argsOf, argOf, Hw.settle, frz, hasPk, e, backs, hΓ, ixEv, asSeq, asList, stl, atI, ixN, show 2 ≤ sizeLine from by decide]
  · refine ⟨-1, t / 2, .inr rfl, ?_⟩
    rw [h2] at e
    simp [exS, ev, evAs, slotOk, AR.cons, resolves, resolve, primEv, asInt, iT, flatD, tmps, hf, slotsOf, argsOf, argOf, Hw.settle, frz, hasPk, e, backs, hΓ, ixEv, asSeq, asList, stl, atI, ixN, show 2 ≤ sizeLine from by decide]
def bodyL : List CS := match d_law.body with
  | .for_ _ _ b :: _ => b
  | _ => []
theorem t_body {F : Genv} (hF : LawF F) (ns : List Int) (k : Nat) (hk : k < 10) (x2 x3 x4 x5 x6 x7 x8 x9 x10 x11 x12 : Tr) :
    ∃ y2 y3 y4 y5 y6 y7 y8 y9 y10 y11 y12, exB F bodyL [.s ns, iT k, x2, x3, x4, x5, x6, x7, x8, x9, x10, x11, x12] = some (.nx [.s ns, iT k, y2, y3, y4, y5, y6, y7, y8, y9, y10, y11, y12]) := by
  obtain ⟨rT, fT, hT⟩ := hF.tape
  obtain ⟨t0, eT⟩ := hT ns k hk
  obtain ⟨s, t1, hs, e3⟩ := e_sign hF.digit t0 3 (Γ := [.s ns, iT k, .l [iT t0], x3, x4, x5, x6, x7, x8, x9, x10, x11, x12]) rfl
  obtain ⟨s', t2, hs', e4⟩ := e_sign hF.digit t1 4 (Γ := [.s ns, iT k, .l [iT t1], iT s, x4, x5, x6, x7, x8, x9, x10, x11, x12]) rfl
  obtain ⟨rN, fN, hN⟩ := hF.number
  obtain ⟨v1, t3, v10, v11, n1⟩ := hN t2
  obtain ⟨v2, t4, v20, v21, n2⟩ := hN t3
  obtain ⟨v3, t5, v30, v31, n3⟩ := hN t4
  obtain ⟨v4, t6, v40, v41, n4⟩ := hN t5
  obtain ⟨rL, fL, hL⟩ := hF.low
  obtain ⟨rA, fA, hA⟩ := hF.alow
  obtain ⟨rI, fI, hI⟩ := hF.islow
  obtain ⟨rP, fP, hP⟩ := hF.plus
  obtain ⟨rQ, fQ, hQ⟩ := hF.less
  have big : (10 : Int) ^ 31 < 2 ^ 110 := by decide +kernel
  have b299 : (2 : Int) ^ 250 < 10 ^ 299 := by decide +kernel
  have sv1 : small 110 v1 := by unfold small; omega
  have sv3 : small 110 v3 := by unfold small; omega
  have ss : small 1 s := by unfold small; omega
  have ss' : small 1 s' := by unfold small; omega
  have m1 := mul_s ss sv1 (by decide) (by decide)
  have m2 := mul_s ss' sv3 (by decide) (by decide)
  have sa : small 111 (s * v1) := (ss.mul sv1).up (by decide)
  have sa' : small 111 (s' * v3) := (ss'.mul sv3).up (by decide)
  have sb : small 111 (1 + v2) := by unfold small; omega
  have sb' : small 111 (1 + v4) := by unfold small; omega
  obtain ⟨p, q, eL, q0, qb, pa, pq, gpq⟩ := low_facts (a := s * v1) (b := 1 + v2) (by omega)
  obtain ⟨p', q', eL', q0', qb', pa', pq', gpq'⟩ := low_facts (a := s' * v3) (b := 1 + v4) (by omega)
  have l1 := hL (s * v1) (1 + v2) (by omega) (by omega)
  have l2 := hA (s * v1) (1 + v2) (by omega) (by omega)
  have l3 := hA (s' * v3) (1 + v4) (by omega) (by omega)
  rw [eL] at l1 l2
  rw [eL'] at l3
  have sp : small 111 p := by unfold small at *; omega
  have sp' : small 111 p' := by unfold small at *; omega
  have sq : small 111 q := by unfold small at *; omega
  have sq' : small 111 q' := by unfold small at *; omega
  have i1 := hI p q q0 (by omega) gpq
  have qq0 : 0 < q * q' := Int.mul_pos q0 q0'
  have sqq : small 222 (q * q') := (sq.mul sq').up (by decide)
  have qqb : q * q' < 10 ^ 299 := by unfold small at sqq; omega
  obtain ⟨P, Q, eP, Q0, Qb, Pa, PQ, gPQ⟩ := low_facts (a := p * q' + p' * q) (b := q * q') qq0
  have pl := hP p q p' q' (sp.up (by decide)) (sq.up (by decide)) (sp'.up (by decide)) (sq'.up (by decide)) qq0 qqb
  rw [eP] at pl
  have i2 := hI P Q Q0 (by omega) gPQ
  have mpq := mul_s sp sb (by decide) (by decide)
  have maq := mul_s sa sq (by decide) (by decide)
  have mp1 := mul_s sp sq' (by decide) (by decide)
  have mp2 := mul_s sp' sq (by decide) (by decide)
  have sdue : small 500 (p * q' + p' * q) := ((sp.mul sq').add (sp'.mul sq)).up (by decide)
  have sP : small 500 P := by unfold small at *; omega
  have sQ : small 222 Q := by unfold small at *; omega
  have mP1 := mul_s sP sq (by decide) (by decide)
  have mP2 := mul_s (sP.mul sq) sq' (by decide) (by decide)
  have mQ := mul_s sQ sdue (by decide) (by decide)
  have le1 := hQ p q p' q' (sp.up (by decide)) (sq.up (by decide)) (sp'.up (by decide)) (sq'.up (by decide))
  have le2 := hQ p q p q (sp.up (by decide)) (sq.up (by decide)) (sp.up (by decide)) (sq.up (by decide))
  have lf : decide (p * q < p * q) = false := by simp
  rw [lf] at le2
  have PQ' : P * q * q' = Q * (p * q' + p' * q) := by rw [Int.mul_assoc, PQ, Int.mul_comm]
  simp only [iT, bT, fr] at *
  refine ⟨.l [.c (.int t6)], .c (.int s), .c (.int s'), .c (.int (s * v1)), .c (.int (1 + v2)), .c (.tuple [.int p, .int q]), .c (.tuple [.int p, .int q]), .c (.tuple [.int p', .int q']), .c (.tuple [.int P, .int Q]), .c (.int (p * q' + p' * q)), .c (.bool (decide (p * q' < p' * q))), ?_⟩
  unfold bodyL d_law
  dsimp only
  rw [exB_nx (Γ1 := [.s ns, .c (.int k), .l [.c (.int t0)], x3, x4, x5, x6, x7, x8, x9, x10, x11, x12]) (by simp [exS, ev, evAs, AR.cons, fT, slotsOf, argsOf, argOf, Hw.settle, frz, hasPk, backs, eT])]
  rw [exB_nx (Γ1 := [.s ns, .c (.int k), .l [.c (.int t1)], .c (.int s), x4, x5, x6, x7, x8, x9, x10, x11, x12]) e3, exB_nx (Γ1 := [.s ns, .c (.int k), .l [.c (.int t2)], .c (.int s), .c (.int s'), x5, x6, x7, x8, x9, x10, x11, x12]) e4]
  rw [exB_nx (Γ1 := [.s ns, .c (.int k), .l [.c (.int t3)], .c (.int s), .c (.int s'), .c (.int (s * v1)), x6, x7, x8, x9, x10, x11, x12]) (by simp [exS, ev, evAs, slotOk, AR.cons, resolves, resolve, primEv, fN, slotsOf, argsOf, argOf, hasPk, backs, n1, m1])]
  rw [exB_nx (Γ1 := [.s ns, .c (.int k), .l [.c (.int t4)], .c (.int s), .c (.int s'), .c (.int (s * v1)), .c (.int (1 + v2)), x7, x8, x9, x10, x11, x12]) (by simp [exS, ev, evAs, slotOk, AR.cons, resolves, resolve, primEv, fN, slotsOf, argsOf, argOf, hasPk, backs, n2, addEv, asInt, flatD, iT])]
  rw [exB_nx (Γ1 := [.s ns, .c (.int k), .l [.c (.int t4)], .c (.int s), .c (.int s'), .c (.int (s * v1)), .c (.int (1 + v2)), .c (.tuple [.int p, .int q]), x8, x9, x10, x11, x12]) (by simp [exS, ev, evAs, AR.cons, fL, slotsOf, argsOf, argOf, Hw.settle, frz, hasPk, backs, l1])]
  rw [exB_nx (Γ1 := [.s ns, .c (.int k), .l [.c (.int t4)], .c (.int s), .c (.int s'), .c (.int (s * v1)), .c (.int (1 + v2)), .c (.tuple [.int p, .int q]), x8, x9, x10, x11, x12]) (by simp [exS, exB, evT, ev, evAs, evP, evPt, slotOk, AR.cons, resolves, resolve, primEv, kidT, kidD, isStl, atI, ixN, asInt, cmpEv, eq_i, fI, slotsOf, argsOf, argOf, Hw.settle, frz, hasPk, backs, i1, truth, flatD, mpq, maq, pq, bT])]
  rw [exB_nx (Γ1 := [.s ns, .c (.int k), .l [.c (.int t4)], .c (.int s), .c (.int s'), .c (.int (s * v1)), .c (.int (1 + v2)), .c (.tuple [.int p, .int q]), .c (.tuple [.int p, .int q]), x9, x10, x11, x12]) (by simp [exS, ev, evAs, AR.cons, fA, slotsOf, argsOf, argOf, Hw.settle, frz, hasPk, backs, l2])]
  rw [exB_nx (Γ1 := [.s ns, .c (.int k), .l [.c (.int t6)], .c (.int s), .c (.int s'), .c (.int (s * v1)), .c (.int (1 + v2)), .c (.tuple [.int p, .int q]), .c (.tuple [.int p, .int q]), .c (.tuple [.int p', .int q']), x10, x11, x12]) (by simp [exS, ev, evAs, slotOk, AR.cons, resolves, resolve, primEv, asInt, flatD, addEv, iT, fN, fA, slotsOf, argsOf, argOf, Hw.settle, frz, hasPk, backs, n3, n4, m2, l3])]
  rw [exB_nx (Γ1 := [.s ns, .c (.int k), .l [.c (.int t6)], .c (.int s), .c (.int s'), .c (.int (s * v1)), .c (.int (1 + v2)), .c (.tuple [.int p, .int q]), .c (.tuple [.int p, .int q]), .c (.tuple [.int p', .int q']), .c (.tuple [.int P, .int Q]), x11, x12]) (by simp [exS, ev, evAs, AR.cons, fP, slotsOf, argsOf, argOf, Hw.settle, frz, hasPk, backs, pl])]
  rw [exB_nx (Γ1 := [.s ns, .c (.int k), .l [.c (.int t6)], .c (.int s), .c (.int s'), .c (.int (s * v1)), .c (.int (1 + v2)), .c (.tuple [.int p, .int q]), .c (.tuple [.int p, .int q]), .c (.tuple [.int p', .int q']), .c (.tuple [.int P, .int Q]), .c (.int (p * q' + p' * q)), x12]) (by simp [exS, ev, evAs, evP, evPt, slotOk, AR.cons, resolves, resolve, primEv, kidT, kidD, isStl, atI, ixN, asInt, flatD, addEv, iT, mp1, mp2])]
  rw [exB_nx (Γ1 := [.s ns, .c (.int k), .l [.c (.int t6)], .c (.int s), .c (.int s'), .c (.int (s * v1)), .c (.int (1 + v2)), .c (.tuple [.int p, .int q]), .c (.tuple [.int p, .int q]), .c (.tuple [.int p', .int q']), .c (.tuple [.int P, .int Q]), .c (.int (p * q' + p' * q)), x12]) (by simp [exS, exB, evT, ev, evAs, evP, evPt, slotOk, AR.cons, resolves, resolve, primEv, kidT, kidD, isStl, atI, ixN, asInt, flatD, addEv, iT, cmpEv, eq_i, fI, slotsOf, argsOf, argOf, Hw.settle, frz, hasPk, backs, i2, truth, mP1, mP2, mQ, PQ', bT])]
  rw [exB_nx (Γ1 := [.s ns, .c (.int k), .l [.c (.int t6)], .c (.int s), .c (.int s'), .c (.int (s * v1)), .c (.int (1 + v2)), .c (.tuple [.int p, .int q]), .c (.tuple [.int p, .int q]), .c (.tuple [.int p', .int q']), .c (.tuple [.int P, .int Q]), .c (.int (p * q' + p' * q)), .c (.bool (decide (p * q' < p' * q)))]) (by simp [exS, ev, evAs, AR.cons, fQ, slotsOf, argsOf, argOf, Hw.settle, frz, hasPk, backs, le1])]
  rw [exB_nx (Γ1 := [.s ns, .c (.int k), .l [.c (.int t6)], .c (.int s), .c (.int s'), .c (.int (s * v1)), .c (.int (1 + v2)), .c (.tuple [.int p, .int q]), .c (.tuple [.int p, .int q]), .c (.tuple [.int p', .int q']), .c (.tuple [.int P, .int Q]), .c (.int (p * q' + p' * q)), .c (.bool (decide (p * q' < p' * q)))]) (by simp [exS, exB, evT, ev, evAs, evP, evPt, slotOk, AR.cons, resolves, resolve, primEv, kidT, kidD, isStl, atI, ixN, asInt, flatD, addEv, iT, cmpEv, cmpI, eq_b, truth, mp1, mp2, bT, tyName, kit_bb])]
  rw [exB_nx (Γ1 := [.s ns, .c (.int k), .l [.c (.int t6)], .c (.int s), .c (.int s'), .c (.int (s * v1)), .c (.int (1 + v2)), .c (.tuple [.int p, .int q]), .c (.tuple [.int p, .int q]), .c (.tuple [.int p', .int q']), .c (.tuple [.int P, .int Q]), .c (.int (p * q' + p' * q)), .c (.bool (decide (p * q' < p' * q)))]) (by simp [exS, exB, evT, ev, evAs, AR.cons, resolves, resolve, primEv, cmpEv, isEv, asBool, fQ, slotsOf, argsOf, argOf, Hw.settle, frz, hasPk, backs, le2, truth, bT, flatD])]
  rfl
end Hg
set_option Elab.async false
set_option linter.all false
set_option maxRecDepth 100000
set_option maxHeartbeats 400000
namespace Hg
open PySem PySem.Spec PyProof.Rows L2 Hw
abbrev Gt (i : Nat) : Genv := genv (fun _ => none) (ds.drop i)
theorem lawF : LawF (Gt 0) where
  tape := ⟨runDef (Gt 6) d_law_atape.N.length d_law_atape.ps d_law_atape.body, by kernel_rfl, fun ns k hk => t_atape ⟨runDef (Gt 7) d_law_acell.N.length d_law_acell.ps d_law_acell.body, by kernel_rfl, fun ns k => t_acell ns k⟩ ns k hk⟩
  digit := ⟨runDef (Gt 5) d_law_adigit.N.length d_law_adigit.ps d_law_adigit.body, by kernel_rfl, fun t m h1 h2 => t_digit t m h1 h2 _⟩
  number := ⟨runDef (Gt 2) d_law_anumber.N.length d_law_anumber.ps d_law_anumber.body, by kernel_rfl, fun t => t_number ⟨runDef (Gt 5) d_law_adigit.N.length d_law_adigit.ps d_law_adigit.body, by kernel_rfl, fun t m h1 h2 => t_digit t m h1 h2 _⟩ t⟩
  low := ⟨runDef (Gt 10) d_lowest.N.length d_lowest.ps d_lowest.body, by kernel_rfl, fun a b h1 h2 => t_lowest _ a b h1 h2⟩
  alow := ⟨runDef (Gt 3) d_law_alow.N.length d_law_alow.ps d_law_alow.body, by kernel_rfl, fun a b h1 h2 => t_alow _ a b h1 h2⟩
  islow := ⟨runDef (Gt 1) d_law_ais_low.N.length d_law_ais_low.ps d_law_ais_low.body, by kernel_rfl, fun p q h1 h2 h3 => t_islow ⟨runDef (Gt 3) d_law_alow.N.length d_law_alow.ps d_law_alow.body, by kernel_rfl, fun a b h1 h2 => t_alow _ a b h1 h2⟩ ⟨runDef (Gt 4) d_law_awhole.N.length d_law_awhole.ps d_law_awhole.body, by kernel_rfl, fun i => t_awhole i⟩ h1 h2 h3⟩
  plus := ⟨runDef (Gt 9) d_plus.N.length d_plus.ps d_plus.body, by kernel_rfl, fun a b c d h1 h2 h3 h4 h5 h6 => t_plus ⟨runDef (Gt 10) d_lowest.N.length d_lowest.ps d_lowest.body, by kernel_rfl, fun a b h1 h2 => t_lowest _ a b h1 h2⟩ h1 h2 h3 h4 h5 h6⟩
  less := ⟨runDef (Gt 8) d_is_less.N.length d_is_less.ps d_is_less.body, by kernel_rfl, fun a b c d h1 h2 h3 h4 => t_less h1 h2 h3 h4⟩
theorem hrun : ∀ ns : List Int, ns.length ≤ 63 → (∀ z ∈ ns, PySem.Builtin.Int.intBits z ≤ 1048576) → ∃ os, runDef (genv (fun _ => none) ds) d_law.N.length d_law.ps d_law.body [.s ns] = some (.ok (bT true) os) := by
  intro ns _ _
  obtain ⟨m, m1, m2, hm⟩ : ∃ m : Int, 1 ≤ m ∧ m ≤ 10 ∧ evIt (Gt 0) (.rng2 [.e (.lit (.int 0)), .e (.prim (.bi .max2) [.e (.lit (.int 1)), .e (.prim (.bi .min2) [.e (.lit (.int 10)), .e (.prim (.bi .len) [.pk 0])])])]) [.s ns, .gone, .gone, .gone, .gone, .gone, .gone, .gone, .gone, .gone, .gone, .gone, .gone] = some (.ok (rgD 0 m) [.s ns, .gone, .gone, .gone, .gone, .gone, .gone, .gone, .gone, .gone, .gone, .gone, .gone]) := by
    refine ⟨if (if (ns.length : Int) < 10 then (ns.length : Int) else 10) > 1 then (if (ns.length : Int) < 10 then (ns.length : Int) else 10) else 1, ?_, ?_, ?_⟩
    · split <;> omega
    · split <;> (try split) <;> omega
    · simp [evIt, ev, evAs, slotOk, AR.cons, resolves, resolve, primEv, biEv, int2, asInt, iT, flatD]
      split <;> (try split) <;> omega
  obtain ⟨Γ', e, x1, x2, x3, x4, x5, x6, x7, x8, x9, x10, x11, x12, hΓ⟩ := forL_inv (body := fun Γ => exB (Gt 0) bodyL Γ) (bind := fun Γ d => bindTg Γ (.nm 1) d) (fun _ Γ => ∃ x1 x2 x3 x4 x5 x6 x7 x8 x9 x10 x11 x12 : Tr, Γ = [.s ns, x1, x2, x3, x4, x5, x6, x7, x8, x9, x10, x11, x12]) (ds := rgD 0 m) (n := 0) (Γ := [.s ns, .gone, .gone, .gone, .gone, .gone, .gone, .gone, .gone, .gone, .gone, .gone, .gone]) (by
    rintro i d Γ hd ⟨x1, x2, x3, x4, x5, x6, x7, x8, x9, x10, x11, x12, rfl⟩
    obtain ⟨hi, rfl⟩ := rgD_get hd
    obtain ⟨y2, y3, y4, y5, y6, y7, y8, y9, y10, y11, y12, eb⟩ := t_body lawF ns i (by omega) x2 x3 x4 x5 x6 x7 x8 x9 x10 x11 x12
    exact ⟨_, [.s ns, iT i, y2, y3, y4, y5, y6, y7, y8, y9, y10, y11, y12], rfl, (by
      show exB (Gt 0) bodyL [.s ns, .c (.int (0 + (i : Nat))), x2, x3, x4, x5, x6, x7, x8, x9, x10, x11, x12] = _
      rw [Int.zero_add]
      exact eb), ⟨_, _, _, _, _, _, _, _, _, _, _, _, rfl⟩⟩) ⟨_, _, _, _, _, _, _, _, _, _, _, _, rfl⟩
  refine ⟨_, run_rt (n := 13) (ps := [false]) (ts := [.s ns]) (Γ := Γ') (t := bT true) rfl (by decide) ?_⟩
  have e2 := (exS_for (F := Gt 0) (tg := .nm 1) (body := bodyL) hm).trans e
  have : exB (Gt 0) d_law.body [.s ns, .gone, .gone, .gone, .gone, .gone, .gone, .gone, .gone, .gone, .gone, .gone, .gone] = some (.rt (bT true) Γ') := by
    have h : d_law.body = [.for_ (.nm 1) (.rng2 [.e (.lit (.int 0)), .e (.prim (.bi .max2) [.e (.lit (.int 1)), .e (.prim (.bi .min2) [.e (.lit (.int 10)), .e (.prim (.bi .len) [.pk 0])])])]) bodyL, .ret (.lit (.bool true))] := rfl
    rw [h, exB_nx e2]
    apply exB_rt
    simp [exS, ev, flatD, bT]
  exact this
end Hg
open PySem PySem.W PyProof.Rows
set_option maxHeartbeats 0 in
theorem PySem.Challenge.cw_heapward_k25_fractions_told_holds : PySem.Challenge.rw_heapward_k25_fractions_told.Holds := by
  w_on; o_law; k_head; (case hw => w_witness2)
  k_fill
  refine L2.walk_ofB (l := PySem.Challenge.rw_heapward_k25_fractions_told) (n := 63) (k := 11) (x := "script") (CX := fun w => L2.CX PySem.Challenge.rw_heapward_k25_fractions_told.prog w) (sp := fun w => Hw.spLaw _) rfl (by decide) rfl ⟨rfl, by decide, by decide⟩ (fun w h Y => PySem.W.kIn_of Y) ?F (fun _ _ a ns hl hb _ hS => ⟨a, ns, rfl, hS, hl, hb, fun _ => rfl⟩) (fun _ _ _ _ _ h => by obtain ⟨_, _, _, _, _, _, _, _, _, _, _, _, z⟩ := h; exact z.elim)
  case F =>
    intro w mg fa h KX G hmg
    refine' Hw.law_mk KX G hmg (fun _ => none) [] Hg.d_law Hg.ds (fun _ _ e => by cases e) Hg.ds_ok rfl rfl Hg.hrun ?D ?B (fun x hx => by cases hx)
    case D =>
      refine' ⟨Hw.defIn ?a0 ?l0 ?c0 ?k0 (fun _ _ _ _ _ _ us hl => match us, hl with | [_], _ => rfl), Hw.defIn ?a1 ?l1 ?c1 ?k1 (fun _ _ _ _ _ _ us hl => match us, hl with | [_], _ => rfl), Hw.defIn ?a2 ?l2 ?c2 ?k2 (fun _ _ _ _ _ _ us hl => match us, hl with | [_], _ => rfl), Hw.defIn ?a3 ?l3 ?c3 ?k3 (fun _ _ _ _ _ _ us hl => match us, hl with | [_, _], _ => rfl), Hw.defIn ?a4 ?l4 ?c4 ?k4 (fun _ _ _ _ _ _ us hl => match us, hl with | [_], _ => rfl), Hw.defIn ?a5 ?l5 ?c5 ?k5 (fun _ _ _ _ _ _ us hl => match us, hl with | [_, _], _ => rfl), Hw.defIn ?a6 ?l6 ?c6 ?k6 (fun _ _ _ _ _ _ us hl => match us, hl with | [_, _], _ => rfl), Hw.defIn ?a7 ?l7 ?c7 ?k7 (fun _ _ _ _ _ _ us hl => match us, hl with | [_, _], _ => rfl), Hw.defIn ?a8 ?l8 ?c8 ?k8 (fun _ _ _ _ _ _ us hl => match us, hl with | [_, _], _ => rfl), Hw.defIn ?a9 ?l9 ?c9 ?k9 (fun _ _ _ _ _ _ us hl => match us, hl with | [_, _], _ => rfl), Hw.defIn ?a10 ?l10 ?c10 ?k10 (fun _ _ _ _ _ _ us hl => match us, hl with | [_, _], _ => rfl), trivial⟩
      (case a0 => k_is); (case l0 => k_is); (case c0 => k_is); (case k0 => k_is); (case a1 => k_is); (case l1 => k_is); (case c1 => k_is); (case k1 => k_is); (case a2 => k_is); (case l2 => k_is); (case c2 => k_is); (case k2 => k_is); (case a3 => k_is); (case l3 => k_is); (case c3 => k_is); (case k3 => k_is); (case a4 => k_is); (case l4 => k_is); (case c4 => k_is); (case k4 => k_is); (case a5 => k_is); (case l5 => k_is); (case c5 => k_is); (case k5 => k_is); (case a6 => k_is); (case l6 => k_is); (case c6 => k_is); (case k6 => k_is); (case a7 => k_is); (case l7 => k_is); (case c7 => k_is); (case k7 => k_is); (case a8 => k_is); (case l8 => k_is); (case c8 => k_is); (case k8 => k_is); (case a9 => k_is); (case l9 => k_is); (case c9 => k_is); (case k9 => k_is); (case a10 => k_is); (case l10 => k_is); (case c10 => k_is); (case k10 => k_is)
    case B =>
      refine' ⟨?z0, ?z1, ?z2, ?z3, ?z4, ?z5, ?z6, ?z7, ?z8, ?z9, ?z10, ?z11, ?z12, ?z13, ?z14, ?z15, ?z16, ?z17, ?z18, ?z19, trivial⟩
      (case z0 => k_is); (case z1 => k_is); (case z2 => k_is); (case z3 => k_is); (case z4 => k_is); (case z5 => k_is); (case z6 => k_is); (case z7 => k_is); (case z8 => k_is); (case z9 => k_is); (case z10 => k_is); (case z11 => k_is); (case z12 => k_is); (case z13 => k_is); (case z14 => k_is); (case z15 => k_is); (case z16 => k_is); (case z17 => k_is); (case z18 => k_is); (case z19 => k_is)
