import PyProof.Rows.All
import Wide.All
import OpenK.AllK
import Wide.FinOn
import HandS.ForMost
import HandS.ForExc
import HandS.Style
import HandS.TupAny
import HandS.IsInst
import HandS.TupMul
import HandS.TupLe
import HandS.Flow
import HandS.Deep
import HandS.Conv
import HandS.Wide
import HandS.Flt
import HandS.Walk
import HandS.Zip
import KE.GoesMore
import KE.GoesZip
import KE.KTupSum
import PyProof.MinMaxWalk
import PyProof.WalksMore
import HandS.List
import HandS.EndBits
import HandS.Call
import HandS.ExcOwn
import HandS.WordsExc
import PyProof.ReprRoads
import PyProof.CallFns
import PyProof.FitsInt
import PyProof.EqLayable
import PySem.Challenge.RW_heapward_k70_worths_of_anything
set_option Elab.async false
set_option linter.all false
set_option maxRecDepth 100000
/-! data, trees of data and of owned lists, what stands in the abstract heap -/
namespace Hw
open PySem PySem.Spec PyProof.Rows L2

abbrev Sig := L2.St
/-! ### settled data -/
mutual
def Dr (K : PySem.W.Frag) (H : Hp) : PyData → V → Prop
  | .none, v => v = .non
  | .bool b, v => v = .bl b
  | .int i, v => v = .int i
  | .str x, v => v = .str x
  | .list ds, v => ∃ a xs, v = .ref a ∧ H a = some (.lst xs) ∧ DrL K H ds xs
  | .tuple ds, v => ∃ a xs, v = .ref a ∧ H a = some (.tup xs) ∧ DrL K H ds xs
  | .dict kvs, v => ∃ a, v = .ref a ∧ kvs = [] ∧ H a = some (.dK [])
def DrL (K : PySem.W.Frag) (H : Hp) : List PyData → List V → Prop
  | [], vs => vs = []
  | d :: ds, vs => ∃ v r, vs = v :: r ∧ Dr K H d v ∧ DrL K H ds r
end

/-- more is known -/
def Ext (H H' : Hp) : Prop := ∀ a o, H a = some o → H' a = some o
theorem Ext.refl (H : Hp) : Ext H H := fun _ _ h => h
theorem Ext.trans {H H1 H2 : Hp} (a : Ext H H1) (b : Ext H1 H2) : Ext H H2 := fun x o h => b x o (a x o h)
theorem Ext.new {H : Hp} {p : Addr} {o : HO} (h : H p = none) : Ext H (upd H p o) := fun a u e => by
  rw [upd_ne (ne_of_none e h)]; exact e
theorem Ext.rd {H H' : Hp} {a : Addr} {u : HO} (e : Ext H H') (h : Rd H a u) : Rd H' a u := by
  rcases h with h | ⟨o, h⟩
  · exact .inl (e a _ h)
  · exact .inr ⟨o, e a _ h⟩
theorem Ext.sql {K : PySem.W.Frag} {H H' : Hp} {a : Addr} {xs : List V} (e : Ext H H') (h : SqL K H a xs) : SqL K H' a xs := h.elim (fun h => .inl (e.rd h)) .inr
theorem Ext.sqt {K : PySem.W.Frag} {H H' : Hp} {a : Addr} {xs : List V} (e : Ext H H') (h : SqT K H a xs) : SqT K H' a xs := h.elim (fun h => .inl (e.rd h)) .inr
mutual
theorem Dr.ext {K : PySem.W.Frag} {H H' : Hp} (e : Ext H H') : ∀ {d : PyData} {v : V}, Dr K H d v → Dr K H' d v
  | .none, _, h => h
  | .bool _, _, h => h
  | .int _, _, h => h
  | .str _, _, h => h
  | .list ds, _, h => by
    unfold Dr at h ⊢
    obtain ⟨a, xs, rfl, hs, hd⟩ := h
    exact ⟨a, xs, rfl, e _ _ hs, DrL.ext e hd⟩
  | .tuple ds, _, h => by
    unfold Dr at h ⊢
    obtain ⟨a, xs, rfl, hs, hd⟩ := h
    exact ⟨a, xs, rfl, e _ _ hs, DrL.ext e hd⟩
  | .dict _, _, h => by
    unfold Dr at h ⊢
    obtain ⟨a, rfl, e0, hr⟩ := h
    exact ⟨a, rfl, e0, e _ _ hr⟩
theorem DrL.ext {K : PySem.W.Frag} {H H' : Hp} (e : Ext H H') : ∀ {ds : List PyData} {vs : List V}, DrL K H ds vs → DrL K H' ds vs
  | [], _, h => h
  | d :: ds, _, h => by
    unfold DrL at h ⊢
    obtain ⟨v, r, rfl, h1, h2⟩ := h
    exact ⟨v, r, rfl, Dr.ext e h1, DrL.ext e h2⟩
end
theorem DrL.length {K : PySem.W.Frag} {H : Hp} : ∀ {ds : List PyData} {vs : List V}, DrL K H ds vs → vs.length = ds.length
  | [], _, h => by unfold DrL at h; rw [h]; rfl
  | d :: ds, _, h => by
    unfold DrL at h
    obtain ⟨v, r, rfl, h1, h2⟩ := h
    simp [DrL.length h2]
theorem DrL.get {K : PySem.W.Frag} {H : Hp} : ∀ {ds : List PyData} {vs : List V} {i : Nat} {d : PyData}, DrL K H ds vs → ds[i]? = some d → ∃ v, vs[i]? = some v ∧ Dr K H d v
  | [], _, _, _, _, e => by simp at e
  | d :: ds, _, 0, _, h, e => by
    unfold DrL at h
    obtain ⟨v, r, rfl, h1, h2⟩ := h
    simp at e; subst e
    exact ⟨v, rfl, h1⟩
  | d :: ds, _, i + 1, _, h, e => by
    unfold DrL at h
    obtain ⟨v, r, rfl, h1, h2⟩ := h
    obtain ⟨w, e1, e2⟩ := DrL.get (i := i) h2 (by simpa using e)
    exact ⟨w, by simpa using e1, e2⟩
theorem DrL.getV {K : PySem.W.Frag} {H : Hp} {ds : List PyData} {vs : List V} {i : Nat} {v : V} (h : DrL K H ds vs) (e : vs[i]? = some v) : ∃ d, ds[i]? = some d ∧ Dr K H d v := by
  have hl := h.length
  have hi : i < ds.length := by rw [← hl]; exact (List.getElem?_eq_some_iff.mp e).1
  obtain ⟨w, e1, e2⟩ := h.get (List.getElem?_eq_getElem hi)
  rw [e] at e1; cases e1
  exact ⟨_, List.getElem?_eq_getElem hi, e2⟩
theorem DrL.append {K : PySem.W.Frag} {H : Hp} : ∀ {ds es : List PyData} {vs ws : List V}, DrL K H ds vs → DrL K H es ws → DrL K H (ds ++ es) (vs ++ ws)
  | [], _, _, _, h, h' => by unfold DrL at h; rw [h]; exact h'
  | d :: ds, es, _, _, h, h' => by
    unfold DrL at h
    obtain ⟨v, r, rfl, h1, h2⟩ := h
    show DrL K H (d :: (ds ++ es)) _
    unfold DrL
    exact ⟨v, _, rfl, h1, h2.append h'⟩
theorem DrL.of_get {K : PySem.W.Frag} {H : Hp} : ∀ {ds : List PyData} {vs : List V}, vs.length = ds.length → (∀ (i : Nat) (d : PyData) (v : V), ds[i]? = some d → vs[i]? = some v → Dr K H d v) → DrL K H ds vs
  | [], vs, h, _ => by unfold DrL; simpa using h
  | d :: ds, [], h, _ => by simp at h
  | d :: ds, v :: vs, h, q => by
    unfold DrL
    exact ⟨v, vs, rfl, q 0 d v rfl rfl, DrL.of_get (by simpa using h) fun i e w h1 h2 => q (i + 1) e w (by simpa using h1) (by simpa using h2)⟩

/-- no dict within -/
def noDict : PyData → Bool
  | .list ds => noDictL ds
  | .tuple ds => noDictL ds
  | .dict _ => false
  | _ => true
where noDictL : List PyData → Bool
  | [] => true
  | d :: ds => noDict d && noDictL ds
/-- no list within, dicts bare -/
def noLst : PyData → Bool
  | .list _ => false
  | .tuple ds => noLstL ds
  | .dict kvs => kvs.isEmpty
  | _ => true
where noLstL : List PyData → Bool
  | [] => true
  | d :: ds => noLst d && noLstL ds
mutual
theorem Dr.dp {K : PySem.W.Frag} {H : Hp} : ∀ {d : PyData} {v : V}, Dr K H d v → noDict d = true → Dp K H v d
  | .none, _, h, _ => by unfold Dr at h; subst h; exact .non
  | .bool _, _, h, _ => by unfold Dr at h; subst h; exact .bl _
  | .int _, _, h, _ => by unfold Dr at h; subst h; exact .int _
  | .str _, _, h, _ => by unfold Dr at h; subst h; exact .str _
  | .list ds, _, h, n => by
    unfold Dr at h
    obtain ⟨a, xs, rfl, hs, hd⟩ := h
    exact .lst (SqL.of hs) (DrL.dp hd (by unfold noDict at n; exact n))
  | .tuple ds, _, h, n => by
    unfold Dr at h
    obtain ⟨a, xs, rfl, hs, hd⟩ := h
    exact .tup (SqT.of hs) (DrL.dp hd (by unfold noDict at n; exact n))
  | .dict _, _, h, n => by unfold noDict at n; cases n
theorem DrL.dp {K : PySem.W.Frag} {H : Hp} : ∀ {ds : List PyData} {vs : List V}, DrL K H ds vs → noDict.noDictL ds = true → DpAll K H vs ds
  | [], _, h, _ => by unfold DrL at h; subst h; exact .nil
  | d :: ds, _, h, n => by
    unfold DrL at h
    obtain ⟨v, r, rfl, h1, h2⟩ := h
    unfold noDict.noDictL at n
    rw [Bool.and_eq_true] at n
    exact .cons (Dr.dp h1 n.1) (DrL.dp h2 n.2)
end

/-! ### trees: settled data, lists that are owned, tuples that hold such -/
inductive Tr where
  | c (d : PyData)
  | l (xs : List Tr)
  | t (xs : List Tr)
  /-- the script -/
  | s (ns : List Int)
  | gone
abbrev Fp := Addr → Nat
/-- the heap without what is owned -/
def mn (H : Hp) (f : Fp) : Hp := fun a => if f a = 0 then H a else none
theorem mn_some {H : Hp} {f : Fp} {a : Addr} {o : HO} (h : mn H f a = some o) : f a = 0 ∧ H a = some o := by
  unfold mn at h
  split at h
  · exact ⟨by assumption, h⟩
  · cases h
theorem mn_of {H : Hp} {f : Fp} {a : Addr} {o : HO} (h0 : f a = 0) (h : H a = some o) : mn H f a = some o := by
  unfold mn; rw [if_pos h0]; exact h
theorem mn_ext (H : Hp) (f : Fp) : Ext (mn H f) H := fun _ _ h => (mn_some h).2
theorem mn_le {H : Hp} {f g : Fp} (h : ∀ a, g a ≤ f a) : Ext (mn H f) (mn H g) := fun a o e => by
  obtain ⟨h0, e⟩ := mn_some e
  exact mn_of (by have := h a; omega) e
def one (p : Addr) : Fp := fun a => if a = p then 1 else 0
theorem one_self {p : Addr} : one p p = 1 := if_pos rfl
theorem one_ne {p a : Addr} (h : a ≠ p) : one p a = 0 := if_neg h

mutual
def Rep (K : PySem.W.Frag) (H : Hp) (f : Fp) : Tr → V → Fp → Prop
  | .c d, v, _ => Dr K (mn H f) d v
  | .l xs, v, g => ∃ p vs g', v = .ref p ∧ H p = some (.lst vs) ∧ RepL K H f xs vs g' ∧ ∀ a, one p a + g' a ≤ g a
  | .t xs, v, g => ∃ p vs, v = .ref p ∧ mn H f p = some (.tup vs) ∧ RepL K H f xs vs g
  | .s ns, v, _ => ∃ a, v = .ref a ∧ SqL K (mn H f) a (ns.map V.int)
  | .gone, _, _ => True
def RepL (K : PySem.W.Frag) (H : Hp) (f : Fp) : List Tr → List V → Fp → Prop
  | [], vs, _ => vs = []
  | x :: xs, vs, g => ∃ v r g1 g2, vs = v :: r ∧ Rep K H f x v g1 ∧ RepL K H f xs r g2 ∧ ∀ a, g1 a + g2 a ≤ g a
end
/-- a step of the heap: what is settled stays, what is protected stays -/
def Stp (H : Hp) (f pr : Fp) (H' : Hp) (f' : Fp) : Prop :=
  (∀ a o, H a = some o → f a = 0 → H' a = some o ∧ f' a = 0) ∧ ∀ a o, 1 ≤ pr a → H a = some o → H' a = some o
theorem Stp.refl {H : Hp} {f pr : Fp} : Stp H f pr H f := ⟨fun _ _ h h0 => ⟨h, h0⟩, fun _ _ _ h => h⟩
theorem Stp.trans {H H1 H2 : Hp} {f f1 f2 pr pr' : Fp} (a : Stp H f pr H1 f1) (b : Stp H1 f1 pr' H2 f2) (h : ∀ a, pr a ≤ pr' a) : Stp H f pr H2 f2 :=
  ⟨fun x o e e0 => let ⟨h1, h2⟩ := a.1 x o e e0; b.1 x o h1 h2, fun x o hp e => b.2 x o (Nat.le_trans hp (h x)) (a.2 x o hp e)⟩
theorem Stp.weak {H H1 : Hp} {f f1 pr pr' : Fp} (a : Stp H f pr' H1 f1) (h : ∀ a, pr a ≤ pr' a) : Stp H f pr H1 f1 := ⟨a.1, fun x o hp e => a.2 x o (Nat.le_trans hp (h x)) e⟩
theorem Stp.ext {H H1 : Hp} {f f1 pr : Fp} (a : Stp H f pr H1 f1) : Ext (mn H f) (mn H1 f1) := fun x o e => by
  obtain ⟨h0, e⟩ := mn_some e
  obtain ⟨h1, h2⟩ := a.1 x o e h0
  exact mn_of h2 h1
section
variable {K : PySem.W.Frag} {H H' : Hp} {f f' pr : Fp}
mutual
theorem Rep.mono : ∀ {x : Tr} {v : V} {g g' : Fp}, Rep K H f x v g → (∀ a, g a ≤ g' a) → Rep K H f x v g'
  | .c _, _, _, _, h, _ => h
  | .gone, _, _, _, _, _ => trivial
  | .s _, _, _, _, h, _ => h
  | .l xs, v, g, g', h, m => by
    unfold Rep at h ⊢
    obtain ⟨p, vs, g0, rfl, e, h1, h2⟩ := h
    exact ⟨p, vs, g0, rfl, e, h1, fun a => Nat.le_trans (h2 a) (m a)⟩
  | .t xs, v, g, g', h, m => by
    unfold Rep at h ⊢
    obtain ⟨p, vs, rfl, e, h1⟩ := h
    exact ⟨p, vs, rfl, e, RepL.mono h1 m⟩
theorem RepL.mono : ∀ {xs : List Tr} {vs : List V} {g g' : Fp}, RepL K H f xs vs g → (∀ a, g a ≤ g' a) → RepL K H f xs vs g'
  | [], _, _, _, h, _ => h
  | x :: xs, vs, g, g', h, m => by
    unfold RepL at h ⊢
    obtain ⟨v, r, g1, g2, rfl, h1, h2, h3⟩ := h
    exact ⟨v, r, g1, g2, rfl, h1, h2, fun a => Nat.le_trans (h3 a) (m a)⟩
end
/-- a tree whose lists are protected goes along -/
theorem Rep.stp (s : Stp H f pr H' f') : (∀ {x : Tr} {v : V} {g : Fp}, Rep K H f x v g → (∀ a, g a ≤ pr a) → Rep K H' f' x v g) := by
  intro x
  exact Tr.rec (motive_1 := fun x => ∀ {v : V} {g : Fp}, Rep K H f x v g → (∀ a, g a ≤ pr a) → Rep K H' f' x v g)
    (motive_2 := fun xs => ∀ {vs : List V} {g : Fp}, RepL K H f xs vs g → (∀ a, g a ≤ pr a) → RepL K H' f' xs vs g)
    (fun d v g h _ => by unfold Rep at h ⊢; exact Dr.ext s.ext h)
    (fun xs ih v g h m => by
      unfold Rep at h ⊢
      obtain ⟨p, vs, g0, rfl, e, h1, h2⟩ := h
      have hp := h2 p
      rw [one_self] at hp
      exact ⟨p, vs, g0, rfl, s.2 p _ (by have := m p; omega) e, ih h1 fun a => by have := h2 a; have := m a; omega, h2⟩)
    (fun xs ih v g h m => by
      unfold Rep at h ⊢
      obtain ⟨p, vs, rfl, e, h1⟩ := h
      exact ⟨p, vs, rfl, s.ext p _ e, ih h1 m⟩)
    (fun ns v g h _ => by
      unfold Rep at h ⊢
      obtain ⟨a, e, h⟩ := h
      exact ⟨a, e, s.ext.sql h⟩)
    (fun _ _ => trivial)
    (fun h _ => h)
    (fun x xs ih1 ih2 vs g h m => by
      unfold RepL at h ⊢
      obtain ⟨v, r, g1, g2, rfl, h1, h2, h3⟩ := h
      exact ⟨v, r, g1, g2, rfl, ih1 h1 fun a => by have := h3 a; have := m a; omega, ih2 h2 fun a => by have := h3 a; have := m a; omega, h3⟩) x
theorem RepL.stp (s : Stp H f pr H' f') : ∀ {xs : List Tr} {vs : List V} {g : Fp}, RepL K H f xs vs g → (∀ a, g a ≤ pr a) → RepL K H' f' xs vs g
  | [], _, _, h, _ => h
  | x :: xs, vs, g, h, m => by
    unfold RepL at h ⊢
    obtain ⟨v, r, g1, g2, rfl, h1, h2, h3⟩ := h
    exact ⟨v, r, g1, g2, rfl, Rep.stp s h1 fun a => by have := h3 a; have := m a; omega, RepL.stp s h2 fun a => by have := h3 a; have := m a; omega, h3⟩
end

/-! ### a tree seen as data -/
mutual
def frz : Tr → Option PyData
  | .c d => some d
  | .l xs => (frzL xs).map PyData.list
  | .t xs => (frzL xs).map PyData.tuple
  | .s _ => none
  | .gone => none
def frzL : List Tr → Option (List PyData)
  | [] => some []
  | x :: xs => match frz x with
    | some d => (frzL xs).map (d :: ·)
    | none => none
end
/-- the whole tree settled: its lists are given up -/
theorem Rep.frz {K : PySem.W.Frag} {H : Hp} {f f' : Fp} (hf : ∀ a, f' a ≤ f a) : ∀ {x : Tr} {v : V} {g : Fp} {d : PyData}, Rep K H f x v g → Hw.frz x = some d → (∀ a, g a + f' a ≤ 1) → Dr K (mn H f') d v := by
  intro x
  exact Tr.rec (motive_1 := fun x => ∀ {v : V} {g : Fp} {d : PyData}, Rep K H f x v g → Hw.frz x = some d → (∀ a, g a + f' a ≤ 1) → Dr K (mn H f') d v)
    (motive_2 := fun xs => ∀ {vs : List V} {g : Fp} {ds : List PyData}, RepL K H f xs vs g → Hw.frzL xs = some ds → (∀ a, g a + f' a ≤ 1) → DrL K (mn H f') ds vs)
    (fun d v g d' h e _ => by
      unfold Hw.frz at e; cases e
      unfold Rep at h
      exact Dr.ext (mn_le hf) h)
    (fun xs ih v g d h e m => by
      unfold Hw.frz at e
      obtain ⟨ds, e1, e2⟩ := Option.map_eq_some_iff.mp e
      subst e2
      unfold Rep at h
      obtain ⟨p, vs, g0, rfl, e0, h1, h2⟩ := h
      have hp := h2 p
      rw [one_self] at hp
      unfold Dr
      exact ⟨p, vs, rfl, mn_of (by have := m p; omega) e0, ih h1 e1 fun a => by have := h2 a; have := m a; omega⟩)
    (fun xs ih v g d h e m => by
      unfold Hw.frz at e
      obtain ⟨ds, e1, e2⟩ := Option.map_eq_some_iff.mp e
      subst e2
      unfold Rep at h
      obtain ⟨p, vs, rfl, e0, h1⟩ := h
      unfold Dr
      exact ⟨p, vs, rfl, mn_le hf _ _ e0, ih h1 e1 m⟩)
    (fun _ _ _ _ _ e => by unfold Hw.frz at e; cases e)
    (fun _ e => by unfold Hw.frz at e; cases e)
    (fun h e _ => by unfold Hw.frzL at e; cases e; unfold RepL at h; unfold DrL; exact h)
    (fun x xs ih1 ih2 vs g ds h e m => by
      unfold RepL at h
      obtain ⟨v, r, g1, g2, rfl, h1, h2, h3⟩ := h
      unfold Hw.frzL at e
      cases q : Hw.frz x with
      | none => rw [q] at e; cases e
      | some d =>
        rw [q] at e
        obtain ⟨es, e1, e2⟩ := Option.map_eq_some_iff.mp e
        subst e2
        unfold DrL
        exact ⟨v, r, rfl, ih1 h1 q fun a => by have := h3 a; have := m a; omega, ih2 h2 e1 fun a => by have := h3 a; have := m a; omega⟩) x
/-- seen whole, where it lies (nothing is given up): in the whole heap -/
theorem Rep.see {K : PySem.W.Frag} {H : Hp} {f : Fp} : ∀ {x : Tr} {v : V} {g : Fp} {d : PyData}, Rep K H f x v g → Hw.frz x = some d → Dr K H d v := by
  intro x
  exact Tr.rec (motive_1 := fun x => ∀ {v : V} {g : Fp} {d : PyData}, Rep K H f x v g → Hw.frz x = some d → Dr K H d v)
    (motive_2 := fun xs => ∀ {vs : List V} {g : Fp} {ds : List PyData}, RepL K H f xs vs g → Hw.frzL xs = some ds → DrL K H ds vs)
    (fun d v g d' h e => by
      unfold Hw.frz at e; cases e
      unfold Rep at h
      exact Dr.ext (mn_ext H f) h)
    (fun xs ih v g d h e => by
      unfold Hw.frz at e
      obtain ⟨ds, e1, e2⟩ := Option.map_eq_some_iff.mp e
      subst e2
      unfold Rep at h
      obtain ⟨p, vs, g0, rfl, e0, h1, h2⟩ := h
      unfold Dr
      exact ⟨p, vs, rfl, e0, ih h1 e1⟩)
    (fun xs ih v g d h e => by
      unfold Hw.frz at e
      obtain ⟨ds, e1, e2⟩ := Option.map_eq_some_iff.mp e
      subst e2
      unfold Rep at h
      obtain ⟨p, vs, rfl, e0, h1⟩ := h
      unfold Dr
      exact ⟨p, vs, rfl, mn_ext H f _ _ e0, ih h1 e1⟩)
    (fun _ _ _ _ _ e => by unfold Hw.frz at e; cases e)
    (fun _ e => by unfold Hw.frz at e; cases e)
    (fun h e => by unfold Hw.frzL at e; cases e; unfold RepL at h; unfold DrL; exact h)
    (fun x xs ih1 ih2 vs g ds h e => by
      unfold RepL at h
      obtain ⟨v, r, g1, g2, rfl, h1, h2, h3⟩ := h
      unfold Hw.frzL at e
      cases q : Hw.frz x with
      | none => rw [q] at e; cases e
      | some d =>
        rw [q] at e
        obtain ⟨es, e1, e2⟩ := Option.map_eq_some_iff.mp e
        subst e2
        unfold DrL
        exact ⟨v, r, rfl, ih1 h1 q, ih2 h2 e1⟩) x

/-! ### slots -/
def RepO (K : PySem.W.Frag) (H : Hp) (f : Fp) : Tr → Option V → Fp → Prop
  | .gone, _, _ => True
  | x, o, g => ∃ v, o = some v ∧ Rep K H f x v g
theorem RepO.mk {K : PySem.W.Frag} {H : Hp} {f g : Fp} {x : Tr} {v : V} (h : Rep K H f x v g) : RepO K H f x (some v) g := by
  cases x <;> first | trivial | exact ⟨v, rfl, h⟩
theorem RepO.get {K : PySem.W.Frag} {H : Hp} {f g : Fp} {x : Tr} {o : Option V} (h : RepO K H f x o g) (n : x ≠ .gone) : ∃ v, o = some v ∧ Rep K H f x v g := by
  cases x <;> first | exact absurd rfl n | exact h
def RepS (K : PySem.W.Frag) (H : Hp) (f : Fp) : List Tr → Sig → Fp → Prop
  | [], σ, _ => σ = []
  | x :: xs, σ, g => ∃ o r g1 g2, σ = o :: r ∧ RepO K H f x o g1 ∧ RepS K H f xs r g2 ∧ ∀ a, g1 a + g2 a ≤ g a
section
variable {K : PySem.W.Frag} {H H' : Hp} {f f' pr : Fp}
theorem RepO.stp (s : Stp H f pr H' f') {x : Tr} {o : Option V} {g : Fp} (h : RepO K H f x o g) (m : ∀ a, g a ≤ pr a) : RepO K H' f' x o g := by
  by_cases n : x = .gone
  · subst n; trivial
  · obtain ⟨v, e, r⟩ := h.get n
    subst e
    exact .mk (r.stp s m)
theorem RepO.mono {x : Tr} {o : Option V} {g g' : Fp} (h : RepO K H f x o g) (m : ∀ a, g a ≤ g' a) : RepO K H f x o g' := by
  by_cases n : x = .gone
  · subst n; trivial
  · obtain ⟨v, e, r⟩ := h.get n
    subst e
    exact .mk (r.mono m)
theorem RepS.stp (s : Stp H f pr H' f') : ∀ {xs : List Tr} {σ : Sig} {g : Fp}, RepS K H f xs σ g → (∀ a, g a ≤ pr a) → RepS K H' f' xs σ g
  | [], _, _, h, _ => h
  | x :: xs, _, _, h, m => by
    obtain ⟨o, r, g1, g2, rfl, h1, h2, h3⟩ := h
    exact ⟨o, r, g1, g2, rfl, h1.stp s fun a => by have := h3 a; have := m a; omega, RepS.stp s h2 fun a => by have := h3 a; have := m a; omega, h3⟩
theorem RepS.mono : ∀ {xs : List Tr} {σ : Sig} {g g' : Fp}, RepS K H f xs σ g → (∀ a, g a ≤ g' a) → RepS K H f xs σ g'
  | [], _, _, _, h, _ => h
  | x :: xs, _, _, _, h, m => by
    obtain ⟨o, r, g1, g2, rfl, h1, h2, h3⟩ := h
    exact ⟨o, r, g1, g2, rfl, h1, h2, fun a => Nat.le_trans (h3 a) (m a)⟩
theorem RepS.length : ∀ {xs : List Tr} {σ : Sig} {g : Fp}, RepS K H f xs σ g → σ.length = xs.length
  | [], _, _, h => by unfold RepS at h; rw [h]; rfl
  | x :: xs, _, _, h => by
    obtain ⟨o, r, g1, g2, rfl, h1, h2, h3⟩ := h
    simp [RepS.length h2]
/-- a slot taken out: what stands there, and the others -/
theorem RepS.take : ∀ {xs : List Tr} {σ : Sig} {g : Fp} {i : Nat} {x : Tr}, RepS K H f xs σ g → xs[i]? = some x →
    ∃ o g1 g2, σ[i]? = some o ∧ RepO K H f x o g1 ∧ RepS K H f (xs.set i .gone) σ g2 ∧ ∀ a, g1 a + g2 a ≤ g a
  | [], _, _, _, _, _, e => by simp at e
  | x :: xs, _, _, 0, y, h, e => by
    obtain ⟨o, r, g1, g2, rfl, h1, h2, h3⟩ := h
    simp at e; subst e
    exact ⟨o, g1, g2, rfl, h1, ⟨o, r, fun _ => 0, g2, rfl, trivial, h2, fun a => by (try dsimp only); omega⟩, h3⟩
  | x :: xs, _, _, i + 1, y, h, e => by
    obtain ⟨o, r, g1, g2, rfl, h1, h2, h3⟩ := h
    obtain ⟨o', k1, k2, e1, q1, q2, q3⟩ := RepS.take (i := i) h2 (by simpa using e)
    exact ⟨o', k1, fun a => g1 a + k2 a, by simpa using e1, q1, ⟨o, r, g1, k2, rfl, h1, q2, fun a => by (try dsimp only); omega⟩, fun a => by have := h3 a; have := q3 a; (try dsimp only); omega⟩
/-- a slot that claims nothing is filled -/
theorem RepS.put : ∀ {xs : List Tr} {σ : Sig} {g g' : Fp} {i : Nat} {x : Tr} {o : Option V}, RepS K H f xs σ g → xs[i]? = some .gone → σ[i]? = some o → RepO K H f x o g' →
    RepS K H f (xs.set i x) σ (fun a => g' a + g a)
  | [], _, _, _, _, _, _, _, e, _, _ => by simp at e
  | x :: xs, _, _, g', 0, y, o', h, e, e2, q => by
    obtain ⟨o, r, g1, g2, rfl, h1, h2, h3⟩ := h
    simp at e2; subst e2
    exact ⟨o, r, g', g2, rfl, q, h2, fun a => by have := h3 a; (try dsimp only); omega⟩
  | x :: xs, _, _, g', i + 1, y, o', h, e, e2, q => by
    obtain ⟨o, r, g1, g2, rfl, h1, h2, h3⟩ := h
    have := RepS.put (i := i) h2 (by simpa using e) (by simpa using e2) q
    exact ⟨o, r, g1, _, rfl, h1, this, fun a => by have := h3 a; show g1 a + (g' a + g2 a) ≤ g' a + _; omega⟩
/-- a slot stored anew -/
theorem RepS.store : ∀ {xs : List Tr} {σ : Sig} {g g' : Fp} {i : Nat} {x : Tr} {o : Option V}, RepS K H f xs σ g → RepO K H f x o g' →
    RepS K H f (xs.set i x) (σ.set i o) (fun a => g' a + g a)
  | [], _, _, _, _, _, _, h, _ => by unfold RepS at h; subst h; simp [RepS]
  | x :: xs, _, _, g', 0, y, o', h, q => by
    obtain ⟨o, r, g1, g2, rfl, h1, h2, h3⟩ := h
    exact ⟨o', r, g', g2, rfl, q, h2, fun a => by have := h3 a; (try dsimp only); omega⟩
  | x :: xs, _, _, g', i + 1, y, o', h, q => by
    obtain ⟨o, r, g1, g2, rfl, h1, h2, h3⟩ := h
    have := RepS.store (i := i) h2 q
    exact ⟨o, r.set i o', g1, _, rfl, h1, this, fun a => by have := h3 a; show g1 a + (g' a + g2 a) ≤ g' a + _; omega⟩
end

/-- the state: slots' trees, protected lists (pr), all that is owned (f) -/
def StA (K : PySem.W.Frag) (Γ : List Tr) (σ : Sig) (H : Hp) (f pr : Fp) (G : Fp → Prop) : Prop :=
  (∀ a, f a ≤ 1) ∧ (∀ a, 1 ≤ f a → ∃ o, H a = some o) ∧ ∃ g ga, RepS K H f Γ σ g ∧ G ga ∧ ∀ a, ga a + (g a + pr a) ≤ f a
/-- .. and a value besides -/
abbrev St1 (K : PySem.W.Frag) (Γ : List Tr) (σ : Sig) (H : Hp) (f pr : Fp) (v : V) (t : Tr) : Prop := StA K Γ σ H f pr fun g => Rep K H f t v g
abbrev St0 (K : PySem.W.Frag) (Γ : List Tr) (σ : Sig) (H : Hp) (f pr : Fp) : Prop := StA K Γ σ H f pr fun _ => True
end Hw
set_option Elab.async false
set_option linter.all false
set_option maxRecDepth 100000
/-! t[::-1] of a tuple -/
namespace Hx
open PySem PySem.Spec PyProof.Rows L2 HT
theorem adj_rev (n : Nat) : Builtin.Slice.sliceAdjust none none (-1) (n : Int) = ((n : Int) - 1, -1) := by
  unfold Builtin.Slice.sliceAdjust
  simp
theorem pl_rev (n : Nat) : Builtin.Slice.slicePlaces ((n : Int) - 1) (-1) (-1) = n := by
  unfold Builtin.Slice.slicePlaces
  have h1 : ¬ ((-1 : Int) > 0) := by omega
  simp only [h1, if_false]
  by_cases h : n = 0
  · subst h; rfl
  · rw [if_pos (by omega)]
    have e : ((n : Int) - 1 - -1 - 1) / (- -1) = (n : Int) - 1 := by
      rw [show (- -1 : Int) = 1 by rfl, Int.ediv_one]; omega
    rw [e]; omega
section
variable {prog : Program} {w : World} {A : Around} {E : Value → Shared → Prop} {s : Shared}
theorem applied_rev {sl : Addr} {vl vu vs : Value} {n : Nat} {Q : Int × Int × Nat → Shared → Prop} (hs : s.heap.IsSliceOf sl vl vu vs) (pl : IsPart vl none) (pu : IsPart vu none) (ps : IsPart vs (some (-1)))
    (h : Q ((n : Int) - 1, -1, n) s) : wpAny (model prog w) A (Builtin.Slice.sliceApplied (.ref sl) (pure (n : Int))) Q E s := by
  obtain ⟨os, hos, hcs, hds⟩ := id hs
  unfold Builtin.Slice.sliceApplied Builtin.Slice.sliceFields
  refine wpAny_bind (wpAny_bind (wpAny_field hos hds (x := vl) rfl (wpAny_bind (wpAny_field hos hds (x := vu) rfl (wpAny_bind (wpAny_field hos hds (x := vs) rfl (wpAny_pure ?_)))))))
  refine wpAny_bind (slicePart_ ps ?_)
  show wpAny _ _ (if ((-1 : Int) == 0) = true then _ else _) _ _ s
  rw [if_neg (by decide)]
  refine wpAny_bind (slicePart_ pl (wpAny_bind (slicePart_ pu (wpAny_bind (wpAny_pure ?_)))))
  show wpAny _ _ (match Builtin.Slice.sliceAdjust none none (-1) (n : Int) with | (lo, hi) => pure (lo, (-1 : Int), Builtin.Slice.slicePlaces lo hi (-1))) _ _ s
  rw [adj_rev n]
  show wpAny _ _ (pure ((n : Int) - 1, (-1 : Int), Builtin.Slice.slicePlaces ((n : Int) - 1) (-1) (-1))) _ _ s
  rw [pl_rev]
  exact wpAny_pure h
theorem fm_congr {α β : Type} {f g : α → Option β} : ∀ {l : List α}, (∀ x ∈ l, f x = g x) → l.filterMap f = l.filterMap g
  | [], _ => rfl
  | x :: l, h => by
    rw [List.filterMap_cons, List.filterMap_cons, h x List.mem_cons_self, fm_congr fun y hy => h y (List.mem_cons_of_mem _ hy)]
theorem pick_rev (xs : Array Value) : ((List.range xs.size).filterMap fun (m : Nat) => xs[(((xs.size : Int) - 1) + (m : Int) * -1).toNat]?).toArray = xs.toList.reverse.toArray := by
  congr 1
  have e : ∀ m ∈ List.range xs.size, xs[(((xs.size : Int) - 1) + (m : Int) * -1).toNat]? = xs.toList.reverse[m]? := by
    intro m hm
    have hm := List.mem_range.mp hm
    rw [List.getElem?_reverse (by simpa using hm), ← Array.getElem?_toList]
    congr 1
    simp
    omega
  rw [fm_congr e]
  apply List.ext_getElem?
  intro i
  have key : ∀ (l : List Value), (List.range l.length).filterMap (fun m => l[m]?) = l := by
    intro l
    induction l with
    | nil => rfl
    | cons a l ih =>
      rw [List.length_cons, List.range_succ_eq_map, List.filterMap_cons]
      simp only [List.getElem?_cons_zero, List.filterMap_map]
      congr 1
  have := key xs.toList.reverse
  rw [List.length_reverse] at this
  have l : xs.toList.length = xs.size := rfl
  rw [l] at this
  rw [this]
theorem getItem_tuple_rev {t sl : Addr} {items : Array Value} {vl vu vs : Value} {Q : Value → Shared → Prop} (ht : IsTup s.heap t items) (hs : s.heap.IsSliceOf sl vl vu vs) (pl : IsPart vl none) (pu : IsPart vu none) (ps : IsPart vs (some (-1)))
    (h : Q (.ref s.heap.objs.size) { s with heap := s.heap.push { cls := .type "tuple", data := .seq items.toList.reverse.toArray } })
    (hsz : items.size ≤ sizeLine) : wpAny (model prog w) A (getItem (.ref t) (.ref sl)) Q E s := by
  have htake : sizeOk (.seq items.toList.reverse.toArray) := by
    show items.toList.reverse.toArray.size ≤ sizeLine
    rw [List.size_toArray, List.length_reverse, Array.length_toList]
    exact hsz
  obtain ⟨os, hos, hcs, hds⟩ := id hs
  have hTs : s.TypeIs (.ref sl) "slice" := ⟨os, hos, hcs⟩
  unfold getItem
  try with_reducible refine wpAny_holding ?_
  first | refine wpAny_bind (wpAny_pure ?_) | skip
  refine wpAny_bind (wpAny_sequenceKey ht.typeIs (by decide) ?_)
  refine wpAny_bind (wpAny_callSpecial?_slot (name := Str.ofString "__getitem__") ht.typeIs PyProof.Rows.slot_tuple_getitem
    (wpAny_call_entry PyProof.Rows.slot_tuple_getitem ht.typeIs entry_tuple_getitem ?_ (args_tuple_getitem _ _)))
  show wpAny _ _ (Builtin.Tuple.tupleItemsOf (.ref t) >>= _) _ _ s
  refine wpAny_bind (tupleItemsOf_ ht ?_)
  refine wpAny_bind (wpAny_typeOf hTs ?_)
  rw [if_pos (by decide)]
  refine wpAny_bind (applied_rev (n := items.size) hs pl pu ps ?_)
  have hno : ¬ ((((items.size : Int) - 1) == 0 && (-1 : Int) == 1 && items.size == items.size) = true) := by
    intro q
    rw [Bool.and_eq_true, Bool.and_eq_true] at q
    exact absurd q.1.2 (by decide)
  show wpAny _ _ (if (((items.size : Int) - 1) == 0 && (-1 : Int) == 1 && items.size == items.size) = true then _ else _) _ _ s
  rw [if_neg hno, pick_rev]
  first
    | exact wpAny_bind (m := Builtin.Tuple.tupleExact _) (wpAny_newObj_type (wpAny_pure ⟨_, rfl, wpAny_pure h⟩) htake)
    | exact wpAny_bind (m := Builtin.Tuple.tupleExact _) (wpAny_newObj_type (wpAny_bind (wpAny_pure (wpAny_pure ⟨_, rfl, wpAny_pure h⟩))) htake)
    | exact wpAny_bind (wpAny_bind (m := Builtin.Tuple.tupleExact _) (wpAny_newObj_type (wpAny_pure (wpAny_pure ⟨_, rfl, wpAny_pure h⟩)) htake))
    | exact wpAny_bind (wpAny_bind (m := Builtin.Tuple.tupleExact _) (wpAny_newObj_type (wpAny_pure ⟨_, rfl, wpAny_pure h⟩) htake))
end
section
variable {X : Cx}
def rRevS (K : PySem.W.Frag) (x : V) (H1 : Hp) (Q : VK) : Prop := (∃ a xs, x = .ref a ∧ SqL K H1 a xs ∧ ∀ p, H1 p = none → Q (.ref p) (upd H1 p (.lst xs.reverse))) ∨ ∃ a xs, x = .ref a ∧ SqT K H1 a xs ∧ ∀ p, H1 p = none → Q (.ref p) (upd H1 p (.tup xs.reverse))
theorem pe_revS {e : Expr} {te : TE} {k : Nat} {p1 p2 p3 pos : Pos} (he : PE X e te) : PE X (.Subscript e (.Slice none none (some (.UnaryOp .USub (.Constant (.int 1) k p1) p2)) p3) pos) (fun σ H Q => te σ H fun x H1 => rRevS X.K x H1 Q) := by
  refine ⟨fun pins s σ H Q I h => ?_⟩
  refine Subscript_ (thn (he.run pins s σ H _ I h) fun v s1 ⟨x, H1, I1, r1, q1⟩ => ?_)
  have hst : PO X (some (.UnaryOp .USub (.Constant (.int 1) k p1) p2)) (tPart (tUn (rU fun i => .int (-i)) (tC (.int 1)))) := po_some (pe_un un_neg pe_int)
  refine wpAny_Slice (thn (po_none.run pins s1 σ H1 (fun o H2 => o = none ∧ H2 = H1) I1 ⟨rfl, rfl⟩) fun vl s2 ⟨l, H2, I2, pl, el, e2⟩ => ?_)
  subst el e2
  refine thn (po_none.run pins s2 σ H2 (fun o H3 => o = none ∧ H3 = H2) I2 ⟨rfl, rfl⟩) fun vu s3 ⟨u, H3, I3, pu, eu, e3⟩ => ?_
  subst eu e3
  refine thn (hst.run pins s3 σ H3 (fun o H4 => o = some (-1) ∧ H4 = H3) I3 ⟨1, rfl, -1, rfl, rfl, rfl⟩) fun vs s4 ⟨o, H4, I4, ps, eo, e4⟩ => ?_
  subst eo e4
  have I5 : Inv X pins σ H4 { s4 with heap := s4.heap.push { cls := .type "slice", data := .fields #[vl, vu, vs] } } := I4.kept (t' := s4.toks) fun b ob q => Heap.get?_push_of_some _ q
  rcases q1 with ⟨a, xs, ex, hx, q⟩ | ⟨a, xs, ex, hx, q⟩
  · subst ex
    cases r1
    obtain ⟨its, r, ht, hz⟩ := I5.list hx
    have hlen := r.length
    show wpAny (model X.prog X.w) X.A (subscriptTail e (.Slice none none (some (.UnaryOp .USub (.Constant (.int 1) k p1) p2)) p3) (.ref a) (.ref s4.heap.objs.size)) (EP X pins σ Q) X.xe { s4 with heap := s4.heap.push { cls := .type "slice", data := .fields #[vl, vu, vs] } }
    refine tail_any (ops := [.ref a, .ref s4.heap.objs.size]) ht.isList.typeIs (PySem.slot_list_getitem.lookup) ?_ (by with_unfolding_all rfl)
    refine wpAny_getItem_list_slice ht.isList (Heap.IsSliceOf.new _ vl vu vs) pl pu ps (by decide) ?_ (by rw [List.size_toArray]; omega)
    rw [PySem.W.krv_pick]
    refine ⟨.ref _, _, I5.laid (t' := s4.toks) (o := .lst xs.reverse) (fun b ob q => Heap.get?_push_of_some _ q) (Nat.le_refl _) ?_, rfl, q _ (I5.hok.fresh (Nat.le_refl _))⟩
    exact ⟨by rw [List.length_reverse]; exact hz, _, 0, r.reverse, Heap.get?_push_size _ rfl⟩
  · subst ex
    cases r1
    obtain ⟨its, r, ht, hz⟩ := I5.tuple hx
    have hlen := r.length
    show wpAny (model X.prog X.w) X.A (subscriptTail e (.Slice none none (some (.UnaryOp .USub (.Constant (.int 1) k p1) p2)) p3) (.ref a) (.ref s4.heap.objs.size)) (EP X pins σ Q) X.xe { s4 with heap := s4.heap.push { cls := .type "slice", data := .fields #[vl, vu, vs] } }
    refine tail_any (ops := [.ref a, .ref s4.heap.objs.size]) ht.typeIs (PyProof.Rows.slot_tuple_getitem.lookup) ?_ (by with_unfolding_all rfl)
    refine getItem_tuple_rev ht (Heap.IsSliceOf.new _ vl vu vs) pl pu ps ?_ (by rw [List.size_toArray]; omega)
    refine ⟨.ref _, _, I5.laid (t' := s4.toks) (o := .tup xs.reverse) (fun b ob q => Heap.get?_push_of_some _ q) (Nat.le_refl _) ?_, rfl, q _ (I5.hok.fresh (Nat.le_refl _))⟩
    exact ⟨by rw [List.length_reverse]; exact hz, _, r.reverse, IsTup.new _ _⟩
end
end Hx
set_option Elab.async false
set_option linter.all false
set_option maxRecDepth 100000
/-! the compact syntax and its interpreter -/
namespace Hw
open PySem PySem.Spec PyProof.Rows L2

inductive Bi where
  | len | abs | max2 | min2 | max3 | min3 | max1 | min1 | sum | all | any | tuple | list | int | str
  deriving DecidableEq
inductive P where
  | add | sub | mul | fdiv | mod | pow | neg
  | cmp (o : CmpOp)
  | ix | sl (lo hi : Bool) | rev
  | bi (b : Bi)
  | isi (T : String)
  | lrg (two : Bool) | trg (two : Bool)
  | rpr
inductive CTg where
  | nm (i : Nat) | tp (is : List Nat)
mutual
inductive CE where
  | var (i : Nat) | mv (i : Nat)
  | lit (d : PyData)
  | glb (x : Str)
  | prim (p : P) (as : List CA)
  | tup (as : List CA) | lst (as : List CA)
  | and_ (a b : CE) | or_ (a b : CE) | not_ (a : CE) | ife (c : CT) (a b : CE)
  | chain (o1 o2 : CmpOp) (ab : List CA) (c : CE)
  | call (x : Str) (as : List CA)
  | lc (own : List Nat) (tg : CTg) (it : CIt) (cond : List CT) (elt : CE)
  | pth (i : Nat) (es : List CE)
  | pop (i : Nat) (as : List CA)
  | idx (i : Nat) (a : CE)
  | stl (a : CE)
  | emp
  | sl2 (a b c : CE)
inductive CA where
  | e (a : CE) | pk (i : Nat) | io (i : Nat)
inductive CT where
  | e (a : CE) | pk (i : Nat) | and_ (a b : CT) | or_ (a b : CT) | not_ (a : CT)
inductive CIt where
  | sq (e : CE) | rng1 (a : CE) | rng2 (ab : List CA) | enm (e : CE) | zip (ab : List CA) | zip3 (ab : List CA)
end
inductive CS where
  | set (i : Nat) (e : CE)
  | setT (is : List Nat) (e : CE)
  | par (i j : Nat) (a b : CE)
  | setp (i : Nat) (es : List CE) (l : CE) (e : CE)
  | app (i : Nat) (es : List CE) (e : CE)
  | clr (i : Nat) (es : List CE)
  | ext (i : Nat) (e : CE)
  | ex (e : CE)
  | ret (e : CE) | retN
  | ite (c : CT) (a b : List CS)
  | for_ (tg : CTg) (it : CIt) (body : List CS)
  | whl (fuel : Nat) (c : CT) (body : List CS)
  | brk | cnt | pass | doc
  | rais (x : Str)
  | try_ (body : List CS) (x : Str) (i : Nat) (h : List CS)

/-! ### results -/
inductive ER where
  | ok (t : Tr) (Γ : List Tr) | ex (x : Str) (Γ : List Tr)
inductive AV where
  | tmp (t : Tr) | pk (i : Nat) | io (i : Nat)
inductive AR where
  | ok (as : List AV) (Γ : List Tr) | ex (x : Str) (Γ : List Tr)
inductive TR where
  | ok (b : Bool) (Γ : List Tr) | ex (x : Str) (Γ : List Tr)
inductive IR where
  | ok (ds : List PyData) (Γ : List Tr) | ex (x : Str) (Γ : List Tr)
inductive SR where
  | nx (Γ : List Tr) | rt (t : Tr) (Γ : List Tr) | bk (Γ : List Tr) | ct (Γ : List Tr) | ex (x : Str) (Γ : List Tr)
inductive FR where
  | ok (t : Tr) (outs : List Tr) | ex (x : Str)
structure Genv where
  fn : Str → Option (List Tr → Option FR)
  gl : Str → Option PyData

/-! ### trees as they are seen -/
def see : Tr → Option PyData
  | .s ns => some (.list (ns.map PyData.int))
  | t => frz t
def asInt : Tr → Option Int
  | .c (.int i) => some i
  | _ => none
def asStr : Tr → Option Str
  | .c (.str x) => some x
  | _ => none
def asBool : Tr → Option Bool
  | .c (.bool b) => some b
  | _ => none
/-- settled items -/
def stl : List Tr → Option (List PyData)
  | [] => some []
  | .c d :: xs => (stl xs).map (d :: ·)
  | _ => none
def asList : Tr → Option (List PyData)
  | .c (.list ds) => some ds
  | .l xs => stl xs
  | _ => none
def asTup : Tr → Option (List PyData)
  | .c (.tuple ds) => some ds
  | .t xs => stl xs
  | _ => none
def asSeq (t : Tr) : Option (List PyData) := match asList t with
  | some ds => some ds
  | none => asTup t
def lT (ds : List PyData) : Tr := .l (ds.map .c)
def intsOf : List PyData → Option (List Int)
  | [] => some []
  | .int i :: r => (intsOf r).map (i :: ·)
  | _ => none
def boolsOf : List PyData → Option (List Bool)
  | [] => some []
  | .bool b :: r => (boolsOf r).map (b :: ·)
  | _ => none
def flatD : PyData → Bool
  | .none | .bool _ | .int _ | .str _ => true
  | _ => false
def tyName : Tr → Option String
  | .c .none => some "NoneType"
  | .c (.bool _) => some "bool"
  | .c (.int _) => some "int"
  | .c (.str _) => some "str"
  | .c (.list _) => some "list"
  | .c (.tuple _) => some "tuple"
  | .c (.dict _) => some "dict"
  | .l _ => some "list"
  | .t _ => some "tuple"
  | _ => none
def truth : Tr → Option Bool
  | .c .none => some false
  | .c (.bool b) => some b
  | .c (.int i) => some (i != 0)
  | .c (.str x) => if x.length ≤ sizeLine then some ((x.length : Int) != 0) else none
  | .c (.list ds) => some (!ds.isEmpty)
  | .c (.tuple ds) => some (!ds.isEmpty)
  | .l xs => some (!xs.isEmpty)
  | .t xs => some (!xs.isEmpty)
  | .s ns => some (!ns.isEmpty)
  | _ => none

/-! ### operations on values that are seen -/
def plainD (d : PyData) : Bool := noDict d && SeqAt.shaped d
def eqEv0 (a b : Tr) : Option Bool := match see a, see b with
  | some d, some e => if plainD d && plainD e then some (PyData.eqv d e) else none
  | _, _ => none
def eqEv (a b : Tr) : Option Bool := match asStr a, asStr b with
  | some x, some y => some (decide (x = y))
  | _, _ => eqEv0 a b
def cmpI (p : Int → Int → Bool) (a b : Tr) : Option Bool := match asInt a, asInt b with
  | some i, some j => some (p i j)
  | _, _ => none
def ltT (a b : Tr) : Option Bool := match asTup a, asTup b with
  | some xs, some ys => match intsOf xs, intsOf ys with
    | some ns, some ms => some (HT.lexLt ns ms)
    | _, _ => none
  | _, _ => none
def isEv (a b : Tr) : Option Bool := match b with
  | .c .none => (match a with
    | .c .none => some true
    | .gone => none
    | _ => some false)
  | .c (.bool k) => (match asBool a with
    | some j => some (decide (j = k))
    | none => none)
  | _ => none
def inEv (a b : Tr) : Option Bool := match see a with
  | some d => (match b with
    | .c (.tuple ds) => if flatD d && ds.all flatD then some (ds.any fun z => PyData.eqv z d) else none
    | _ => match see b with
      | some (.list ds) => if plainD d && plainD (.list ds) then some (ds.any fun z => PyData.eqv z d) else none
      | _ => none)
  | none => none
def cmpEv : CmpOp → Tr → Tr → Option Bool
  | .Eq, a, b => eqEv a b
  | .NotEq, a, b => (eqEv a b).map (!·)
  | .Lt, a, b => match cmpI (fun i j => decide (i < j)) a b with
    | some r => some r
    | none => ltT a b
  | .LtE, a, b => cmpI (fun i j => decide (i ≤ j)) a b
  | .Gt, a, b => cmpI (fun i j => decide (j < i)) a b
  | .GtE, a, b => cmpI (fun i j => decide (j ≤ i)) a b
  | .Is, a, b => isEv a b
  | .IsNot, a, b => (isEv a b).map (!·)
  | .In, a, b => inEv a b
  | .NotIn, a, b => (inEv a b).map (!·)
def iT (i : Int) : Tr := .c (.int i)
def bT (b : Bool) : Tr := .c (.bool b)
def int2 (g : Int → Int → Option Int) (a b : Tr) : Option Tr := match asInt a, asInt b with
  | some i, some j => (g i j).map iT
  | _, _ => none
def addEv (a b : Tr) : Option Tr := match asInt a, asInt b with
  | some i, some j => some (iT (i + j))
  | _, _ => match asList a, asList b with
    | some xs, some ys => if xs.length + ys.length ≤ sizeLine then some (lT (xs ++ ys)) else none
    | _, _ => match asTup a, asTup b with
      | some xs, some ys => if xs.length + ys.length ≤ sizeLine then some (.c (.tuple (xs ++ ys))) else none
      | _, _ => match asStr a, asStr b with
        | some x, some y => if x.length + y.length ≤ sizeLine then some (.c (.str (x ++ y))) else none
        | _, _ => none
/-- small enough for a size or an index -/
def okR (j : Int) : Bool := Nat.ble j.natAbs 1000000
theorem okR_le {j : Int} (h : okR j = true) : -1000000 ≤ j ∧ j ≤ 1000000 := by
  have := Nat.le_of_ble_eq_true h
  omega
theorem okR_of {j : Int} (h0 : -1000000 ≤ j) (h1 : j ≤ 1000000) : okR j = true := Nat.ble_eq_true_of_le (by omega)
theorem okR_62 {j : Int} (h : okR j = true) : -(2 ^ 62) ≤ j ∧ j < 2 ^ 62 := by have := okR_le h; omega
theorem okR_63 {j : Int} (h : okR j = true) : -(2 ^ 63) ≤ j ∧ j < 2 ^ 63 := by have := okR_le h; omega
theorem okR_31 {j : Int} (h : okR j = true) : -(2 ^ 31) ≤ j ∧ j ≤ 2 ^ 31 := by have := okR_le h; omega
def mulEv (a b : Tr) : Option Tr := match asInt b with
  | some k => (match asInt a with
    | some i => if i.natAbs.log2 + k.natAbs.log2 < 1000000 then some (iT (i * k)) else none
    | none => match asList a with
      | some xs => if okR k = true ∧ xs.length * k.toNat ≤ sizeLine then some (lT (List.replicate k.toNat xs).flatten) else none
      | none => match asTup a with
        | some xs => if xs ≠ [] ∧ okR k = true ∧ xs.length * k.toNat ≤ sizeLine then some (.c (.tuple (List.replicate k.toNat xs).flatten)) else none
        | none => none)
  | none => none
def ixEv (a b : Tr) : Option Tr := match asInt b with
  | some i => (match a with
    | .s ns => (atI ns i).map iT
    | _ => match asSeq a with
      | some xs => (atI xs i).map .c
      | none => match asStr a with
        | some x => if x.length ≤ sizeLine then (atI x.cps.toList i).map fun c => .c (.str ⟨#[c]⟩) else none
        | none => none)
  | none => none
def cutD (xs : List PyData) (lo hi : Option Int) : List PyData := (xs.drop (HT.sIx xs.length 0 lo)).take (HT.sIx xs.length xs.length hi - HT.sIx xs.length 0 lo)
def slEv (a : Tr) (lo hi : Option Int) : Option Tr := match asList a with
  | some xs => some (lT (cutD xs lo hi))
  | none => match asTup a with
    | some xs => some (.c (.tuple (cutD xs lo hi)))
    | none => none
mutual
/-- a bound on the length of what repr shows -/
def szD : PyData → Nat
  | .none => 4
  | .bool _ => 5
  | .int i => i.natAbs.log2 + 3
  | .str x => (reprText x).length
  | .list xs => 2 + szL xs
  | .tuple xs => 3 + szL xs
  | .dict _ => 2
def szL : List PyData → Nat
  | [] => 0
  | x :: xs => szD x + 2 + szL xs
end
def plainR (d : PyData) : Bool := (noDict d || noLst d) && PyData.showable d && decide (PyData.depth d ≤ 60) && decide (szD d ≤ sizeLine)
def biEv : Bi → List Tr → Option Tr
  | .len, [a] => match a with
    | .s ns => some (iT ns.length)
    | _ => match asSeq a with
      | some xs => some (iT xs.length)
      | none => match asStr a with
        | some x => if x.length ≤ sizeLine then some (iT x.length) else none
        | none => none
  | .abs, [a] => (asInt a).map fun i => iT (if i < 0 then -i else i)
  | .max2, [a, b] => int2 (fun i j => some (if j > i then j else i)) a b
  | .min2, [a, b] => int2 (fun i j => some (if j < i then j else i)) a b
  | .max3, [a, b, c] => (match asInt a, asInt b, asInt c with
    | some i, some j, some k => some (iT (if k > (if j > i then j else i) then k else (if j > i then j else i)))
    | _, _, _ => none)
  | .min3, [a, b, c] => (match asInt a, asInt b, asInt c with
    | some i, some j, some k => some (iT (if k < (if j < i then j else i) then k else (if j < i then j else i)))
    | _, _, _ => none)
  | .sum, [a] => match asList a with
    | some xs => (intsOf xs).map fun ns => iT ns.sum
    | none => match asTup a with
      | some xs => (intsOf xs).map fun ns => iT ns.sum
      | none => none
  | .max1, [a] => match asList a with
    | some xs => (match intsOf xs with
      | some (n :: ns) => some (iT (ns.foldl max n))
      | _ => none)
    | none => match asTup a with
      | some xs => (match intsOf xs with
        | some (n :: ns) => some (iT (ns.foldl max n))
        | _ => none)
      | none => none
  | .min1, [a] => match asList a with
    | some xs => (match intsOf xs with
      | some (n :: ns) => some (iT (ns.foldl min n))
      | _ => none)
    | none => none
  | .all, [a] => match asList a with
    | some xs => (boolsOf xs).map fun bs => bT (bs.all id)
    | none => none
  | .any, [a] => match asList a with
    | some xs => (boolsOf xs).map fun bs => bT (bs.any id)
    | none => none
  | .tuple, [a] => (asSeq a).map fun xs => .c (.tuple xs)
  | .list, [a] => (asSeq a).map lT
  | .int, [a] => match a with
    | .c (.int i) => some (iT i)
    | .c (.bool b) => some (iT (if b then 1 else 0))
    | _ => none
  | .str, [a] => match asInt a with
    | some i => if i.natAbs.log2 < 1920 then some (.c (.str (toString i))) else none
    | none => none
  | _, _ => none
def rgD (a b : Int) : List PyData := (List.range (b - a).toNat).map fun i => PyData.int (a + (i : Nat))
def rgOkB (a b : Int) : Bool := okR a && okR b
def primEv : P → List Tr → Option Tr
  | .add, [a, b] => addEv a b
  | .sub, [a, b] => int2 (fun i j => some (i - j)) a b
  | .mul, [a, b] => mulEv a b
  | .fdiv, [a, b] => int2 (fun i j => if 0 < j ∧ j.natAbs.log2 < 9000 then some (i / j) else none) a b
  | .mod, [a, b] => int2 (fun i j => if 0 < j then some (i % j) else none) a b
  | .pow, [a, b] => int2 (fun i j => if 0 ≤ j ∧ j ≤ 1000000 ∧ i.natAbs < 2 ^ 64 then some (i ^ j.toNat) else none) a b
  | .neg, [a] => (asInt a).map fun i => iT (-i)
  | .cmp o, [a, b] => (cmpEv o a b).map bT
  | .ix, [a, b] => ixEv a b
  | .sl false false, [a] => slEv a none none
  | .sl true false, [a, b] => (asInt b).bind fun i => slEv a (some i) none
  | .sl false true, [a, b] => (asInt b).bind fun i => slEv a none (some i)
  | .sl true true, [a, b, c] => (asInt b).bind fun i => (asInt c).bind fun j => slEv a (some i) (some j)
  | .rev, [a] => (match asList a with
    | some xs => some (lT xs.reverse)
    | none => (asTup a).map fun xs => .c (.tuple xs.reverse))
  | .bi b, as => biEv b as
  | .isi T, [a] => match tyName a with
    | some n => (kitB n T).map bT
    | none => none
  | .rpr, [a] => (see a).bind fun d => if plainR d = true then some (.c (.str (PyData.shown d))) else none
  | .lrg false, [a] => (asInt a).bind fun j => if rgOkB 0 j then some (lT (rgD 0 j)) else none
  | .lrg true, [a, b] => (asInt a).bind fun i => (asInt b).bind fun j => if rgOkB i j then some (lT (rgD i j)) else none
  | .trg false, [a] => (asInt a).bind fun j => if rgOkB 0 j then some (.c (.tuple (rgD 0 j))) else none
  | .trg true, [a, b] => (asInt a).bind fun i => (asInt b).bind fun j => if rgOkB i j then some (.c (.tuple (rgD i j))) else none
  | _, _ => none

/-! ### the interpreter -/
def isStl : Tr → Bool
  | .c _ => true
  | .s _ => true
  | _ => false
def putIn (i : Nat) (t : Tr) : Option ER → Option ER
  | some (.ok r Γ) => (match Γ[i]? with
    | some .gone => some (.ok r (Γ.set i t))
    | _ => none)
  | _ => none
def slotOk (Γ : List Tr) (i : Nat) : Bool := match Γ[i]? with
  | none => false
  | some .gone => false
  | some _ => true
def AR.cons (a : AV) : Option AR → Option AR
  | some (.ok avs Γ) => some (.ok (a :: avs) Γ)
  | r => r
def resolve (Γ : List Tr) : AV → Option Tr
  | .tmp t => some t
  | .pk i => Γ[i]?
  | .io _ => none
def resolves (Γ : List Tr) : List AV → Option (List Tr)
  | [] => some []
  | a :: as => match resolve Γ a, resolves Γ as with
    | some t, some ts => some (t :: ts)
    | _, _ => none
def tmps : List AV → Option (List Tr)
  | [] => some []
  | .tmp t :: as => (tmps as).map (t :: ·)
  | _ => none
/-- settled: data, or the script -/
def settle : Tr → Option Tr
  | .s ns => some (.s ns)
  | t => (frz t).map .c
/-- what a call hands in -/
def argOf (Γ : List Tr) : AV → Option Tr
  | .tmp t => settle t
  | .pk i => Γ[i]?.bind settle
  | .io i => match Γ[i]? with
    | some .gone => none
    | x => x
def argsOf (Γ : List Tr) : List AV → Option (List Tr)
  | [] => some []
  | a :: as => match argOf Γ a, argsOf Γ as with
    | some t, some ts => some (t :: ts)
    | _, _ => none
def slotsOf : List AV → List Nat
  | [] => []
  | .tmp _ :: as => slotsOf as
  | .pk i :: as => i :: slotsOf as
  | .io i :: as => i :: slotsOf as
def hasPk : List AV → Bool
  | [] => false
  | .pk _ :: _ => true
  | _ :: as => hasPk as
/-- behind a call: what was lent comes back -/
def backs (Γ : List Tr) : List AV → List Tr → List Tr
  | .io i :: as, o :: os => backs (Γ.set i o) as os
  | _ :: as, _ :: os => backs Γ as os
  | _, _ => Γ
def lost (Γ : List Tr) : List AV → List Tr
  | .io i :: as => lost (Γ.set i .gone) as
  | _ :: as => lost Γ as
  | [] => Γ
mutual
def aliasFree : Tr → Bool
  | .c d => flatD d
  | .l xs => aliasFrees xs
  | _ => false
def aliasFrees : List Tr → Bool
  | [] => true
  | x :: xs => aliasFree x && aliasFrees xs
end
def bindTp (Γ : List Tr) : List Nat → List PyData → Option (List Tr)
  | [], [] => some Γ
  | i :: is, d :: ds => bindTp (Γ.set i (.c d)) is ds
  | _, _ => none
def bindTg (Γ : List Tr) : CTg → PyData → Option (List Tr)
  | .nm i, d => some (Γ.set i (.c d))
  | .tp is, .tuple ds => if is.length = ds.length then bindTp Γ is ds else none
  | .tp _, _ => none
def tupT (ts : List Tr) : Tr := match stl ts with
  | some ds => .c (.tuple ds)
  | none => .t ts
def wipeT (Γ : List Tr) : List Nat → List Tr
  | [] => Γ
  | i :: is => (wipeT Γ is).set i .gone
/-- a path in settled data -/
def kidD : PyData → Int → Option PyData
  | .list ds, i => atI ds i
  | .tuple ds, i => atI ds i
  | _, _ => none
/-- the kid at a place -/
def kidT : Tr → Int → Option Tr
  | .l xs, k => atI xs k
  | .t xs, k => atI xs k
  | .c d, k => (kidD d k).map .c
  | .s ns, k => (atI ns k).map iT
  | .gone, _ => none
def seqD : PyData → Option (List PyData)
  | .list ds => some ds
  | .tuple ds => some ds
  | _ => none
/-- the comprehension's turns: the state, what is made so far -/
def lcL (f : PyData → List Tr → Option ER) (c : List Tr → Option TR) (own : List Nat) (bind : List Tr → PyData → Option (List Tr)) : List PyData → List Tr → List Tr → Option ER
  | [], Γ, acc => some (.ok (.l acc) Γ)
  | d :: ds, Γ, acc => match bind Γ d with
    | none => none
    | some Γ1 => match c Γ1 with
      | some (.ok true Γ2) => (match f d Γ2 with
        | some (.ok t Γ3) => if acc.length < sizeLine then lcL f c own bind ds (wipeT Γ3 own) (acc ++ [t]) else none
        | _ => none)
      | some (.ok false Γ2) => lcL f c own bind ds (wipeT Γ2 own) acc
      | _ => none
/-- the value given up: data from here on -/
def stlE : Option ER → Option ER
  | some (.ok t Γ) => (frz t).map fun d => .ok (.c d) Γ
  | r => r
mutual
def ev (F : Genv) : CE → List Tr → Option ER
  | .var i, Γ => match Γ[i]? with
    | some (.c d) => some (.ok (.c d) Γ)
    | some (.s ns) => some (.ok (.s ns) Γ)
    | some t => (frz t).map fun d => .ok (.c d) (Γ.set i (.c d))
    | none => none
  | .mv i, Γ => match Γ[i]? with
    | some .gone => none
    | some t => some (.ok t (Γ.set i .gone))
    | none => none
  | .lit d, Γ => if flatD d then some (.ok (.c d) Γ) else none
  | .glb x, Γ => (F.gl x).bind fun d => if flatD d then some (.ok (.c d) Γ) else none
  | .prim p as, Γ => match evAs F as Γ with
    | some (.ok avs Γ1) => (resolves Γ1 avs).bind fun ts => (primEv p ts).map fun t => .ok t Γ1
    | some (.ex x Γ1) => some (.ex x Γ1)
    | none => none
  | .tup as, Γ => match evAs F as Γ with
    | some (.ok avs Γ1) => (tmps avs).bind fun ts => if ts.length ≤ sizeLine then some (.ok (tupT ts) Γ1) else none
    | some (.ex x Γ1) => some (.ex x Γ1)
    | none => none
  | .lst as, Γ => match evAs F as Γ with
    | some (.ok avs Γ1) => (tmps avs).bind fun ts => if ts.length ≤ sizeLine then some (.ok (.l ts) Γ1) else none
    | some (.ex x Γ1) => some (.ex x Γ1)
    | none => none
  | .and_ a b, Γ => match ev F a Γ with
    | some (.ok t Γ1) => (match asBool t with
      | some true => ev F b Γ1
      | some false => some (.ok (bT false) Γ1)
      | none => none)
    | r => r
  | .or_ a b, Γ => match ev F a Γ with
    | some (.ok t Γ1) => (match asBool t with
      | some true => some (.ok (bT true) Γ1)
      | some false => ev F b Γ1
      | none => none)
    | r => r
  | .not_ a, Γ => match ev F a Γ with
    | some (.ok t Γ1) => (truth t).map fun b => .ok (bT (!b)) Γ1
    | r => r
  | .ife c a b, Γ => match evT F c Γ with
    | some (.ok true Γ1) => ev F a Γ1
    | some (.ok false Γ1) => ev F b Γ1
    | some (.ex x Γ1) => some (.ex x Γ1)
    | none => none
  | .chain o1 o2 ab c, Γ => match evAs F ab Γ with
    | some (.ok avs Γ1) => (match resolves Γ1 avs with
      | some [ta, tb] => (match cmpEv o1 ta tb with
        | some false => some (.ok (bT false) Γ1)
        | some true => (match see tb with
          | some db => (if flatD db then (match ev F c Γ1 with
            | some (.ok tc Γ2) => (cmpEv o2 (.c db) tc).map fun r => .ok (bT r) Γ2
            | r => r) else none)
          | none => none)
        | none => none)
      | _ => none)
    | some (.ex x Γ1) => some (.ex x Γ1)
    | none => none
  | .call x as, Γ => match F.fn x with
    | none => none
    | some f => match evAs F as Γ with
      | some (.ok avs Γ1) => if (slotsOf avs).Nodup then (argsOf Γ1 avs).bind fun ts => match f ts with
          | some (.ok t os) => if hasPk avs = false ∧ os.length = avs.length then some (.ok t (backs Γ1 avs os)) else none
          | some (.ex y) => if hasPk avs = false then some (.ex y (lost Γ1 avs)) else none
          | none => none
        else none
      | some (.ex y Γ1) => some (.ex y Γ1)
      | none => none
  | .lc own tg it cond elt, Γ => match evIt F it Γ with
    | some (.ok ds Γ1) => lcL (fun _ Γ => ev F elt Γ) (fun Γ => evC F cond Γ) own (fun Γ d => bindTg Γ tg d) ds (wipeT Γ1 own) []
    | some (.ex x Γ1) => some (.ex x Γ1)
    | none => none
  | .pth i es, Γ => evP F i es Γ
  | .pop i as, Γ => match Γ[i]? with
    | some (.l _) => (match evAs F as Γ with
      | some (.ok avs Γ1) => (match tmps avs, Γ1[i]? with
        | some [], some (.l xs) => (match xs[xs.length - 1]? with
          | some x => some (.ok x (Γ1.set i (.l xs.dropLast)))
          | none => none)
        | some [t], some (.l xs) => (match asInt t with
          | some k => if okR k = true then (match seqIndex? k xs.length with
            | some j => (match xs[j]? with
              | some x => some (.ok x (Γ1.set i (.l (xs.eraseIdx j))))
              | none => none)
            | none => none) else none
          | none => none)
        | _, _ => none)
      | some (.ex x Γ1) => some (.ex x Γ1)
      | none => none)
    | _ => none
  | .idx i a, Γ => match Γ[i]? with
    | none => none
    | some t0 => (match see t0 with
      | some (.list _) => (match ev F a Γ with
        | some (.ok t Γ1) => (match Γ1[i]? with
          | some t1 => (match see t, see t1 with
            | some d, some (.list ds) => if (flatD d && ds.all flatD) = true then (match ds.findIdx? (fun z => PyData.eqv z d) with
              | some j => some (.ok (iT (j : Nat)) Γ1)
              | none => none) else none
            | _, _ => none)
          | none => none)
        | some (.ex x Γ1) => some (.ex x Γ1)
        | none => none)
      | _ => none)
  | .stl a, Γ => stlE (ev F a Γ)
  | .emp, Γ => some (.ok (.c (.dict [])) Γ)
  | .sl2 a b c, Γ => match ev F a Γ with
    | some (.ok (.c d) Γ1) => (match ev F b Γ1 with
      | some (.ok tb Γ2) => (match asInt tb with
        | some i => (match ev F c Γ2 with
          | some (.ok tc Γ3) => (match asInt tc with
            | some j => (slEv (.c d) (some i) (some j)).map fun t => .ok t Γ3
            | none => none)
          | some (.ex x Γ3) => some (.ex x Γ3)
          | none => none)
        | none => none)
      | some (.ex x Γ2) => some (.ex x Γ2)
      | none => none)
    | some (.ex x Γ1) => some (.ex x Γ1)
    | _ => none
def evAs (F : Genv) : List CA → List Tr → Option AR
  | [], Γ => some (.ok [] Γ)
  | .pk i :: as, Γ => if slotOk Γ i then AR.cons (.pk i) (evAs F as Γ) else none
  | .io i :: as, Γ => if slotOk Γ i then AR.cons (.io i) (evAs F as Γ) else none
  | .e a :: as, Γ => match ev F a Γ with
    | some (.ok t Γ1) => AR.cons (.tmp t) (evAs F as Γ1)
    | some (.ex x Γ1) => some (.ex x Γ1)
    | none => none
def evT (F : Genv) : CT → List Tr → Option TR
  | .and_ a b, Γ => match evT F a Γ with
    | some (.ok true Γ1) => evT F b Γ1
    | r => r
  | .or_ a b, Γ => match evT F a Γ with
    | some (.ok false Γ1) => evT F b Γ1
    | r => r
  | .not_ a, Γ => match evT F a Γ with
    | some (.ok b Γ1) => some (.ok (!b) Γ1)
    | r => r
  | .pk i, Γ => match Γ[i]? with
    | some t => (truth t).map fun b => .ok b Γ
    | none => none
  | .e e, Γ => match ev F e Γ with
    | some (.ok t Γ1) => (truth t).map fun b => .ok b Γ1
    | some (.ex x Γ1) => some (.ex x Γ1)
    | none => none
def evC (F : Genv) : List CT → List Tr → Option TR
  | [], Γ => some (.ok true Γ)
  | c :: _, Γ => evT F c Γ
def evIt (F : Genv) : CIt → List Tr → Option IR
  | .sq e, Γ => match ev F e Γ with
    | some (.ok t Γ1) => (match t with
      | .s ns => some (.ok (ns.map .int) Γ1)
      | _ => match frz t with
        | some (.list ds) => some (.ok ds Γ1)
        | some (.tuple ds) => some (.ok ds Γ1)
        | _ => none)
    | some (.ex x Γ1) => some (.ex x Γ1)
    | none => none
  | .rng1 a, Γ => match ev F a Γ with
    | some (.ok t Γ1) => (asInt t).bind fun j => if okR j = true then some (.ok (rgD 0 j) Γ1) else none
    | some (.ex x Γ1) => some (.ex x Γ1)
    | none => none
  | .rng2 ab, Γ => match evAs F ab Γ with
    | some (.ok avs Γ1) => (match resolves Γ1 avs with
      | some [ta, tb] => (asInt ta).bind fun i => (asInt tb).bind fun j => if okR i = true ∧ okR j = true then some (.ok (rgD i j) Γ1) else none
      | _ => none)
    | some (.ex x Γ1) => some (.ex x Γ1)
    | none => none
  | .enm e, Γ => match ev F e Γ with
    | some (.ok t Γ1) => (match frz t with
      | some (.list ds) => some (.ok (ds.zipIdx.map fun p => .tuple [.int (p.2 : Nat), p.1]) Γ1)
      | some (.tuple ds) => some (.ok (ds.zipIdx.map fun p => .tuple [.int (p.2 : Nat), p.1]) Γ1)
      | _ => none)
    | some (.ex x Γ1) => some (.ex x Γ1)
    | none => none
  | .zip ab, Γ => match evAs F ab Γ with
    | some (.ok avs Γ1) => (match tmps avs with
      | some [ta, tb] => (match frz ta, frz tb with
        | some d, some e => (match seqD d, seqD e with
          | some xs, some ys => some (.ok ((xs.zip ys).map fun p => .tuple [p.1, p.2]) Γ1)
          | _, _ => none)
        | _, _ => none)
      | _ => none)
    | some (.ex x Γ1) => some (.ex x Γ1)
    | none => none
  | .zip3 ab, Γ => match evAs F ab Γ with
    | some (.ok avs Γ1) => (match tmps avs with
      | some [ta, tb, tc] => (match frz ta, frz tb, frz tc with
        | some d, some e, some g => (match seqD d, seqD e, seqD g with
          | some xs, some ys, some zs => some (.ok ((xs.zip (ys.zip zs)).map fun p => .tuple [p.1, p.2.1, p.2.2]) Γ1)
          | _, _, _ => none)
        | _, _, _ => none)
      | _ => none)
    | some (.ex x Γ1) => some (.ex x Γ1)
    | none => none
/-- x[e1][e2].. of the slot i -/
def evP (F : Genv) (i : Nat) : List CE → List Tr → Option ER
  | [], _ => none
  | e :: es, Γ => if slotOk Γ i then match ev F e Γ with
    | some (.ok te Γ1) => (match asInt te, Γ1[i]? with
      | some k, some t => (match kidT t k with
        | some t' => if isStl t' then evPt F t' es Γ1 else putIn i t (evPt F t' es (Γ1.set i .gone))
        | none => none)
      | _, _ => none)
    | r => r
    else none
def evPt (F : Genv) (t : Tr) : List CE → List Tr → Option ER
  | [], Γ => if isStl t then some (.ok t Γ) else none
  | e :: es, Γ => match ev F e Γ with
    | some (.ok te Γ1) => (match asInt te with
      | some k => (match kidT t k with
        | some t' => evPt F t' es Γ1
        | none => none)
      | none => none)
    | r => r
end

/-! ### statements -/
/-- the indices of a path, the slot itself not to be looked at meanwhile -/
def idxs : List AV → Option (List Int)
  | [] => some []
  | .tmp t :: as => match asInt t, idxs as with
    | some k, some ks => some (k :: ks)
    | _, _ => none
  | _ => none
/-- the list at a path is changed -/
def putP (g : List Tr → Option (List Tr)) : List Int → Tr → Option Tr
  | [], .l xs => (g xs).map Tr.l
  | [], _ => none
  | k :: ks, .l xs => (ixN xs.length k).bind fun j => (xs[j]?).bind fun x => (putP g ks x).map fun y => .l (xs.set j y)
  | k :: ks, .t xs => (ixN xs.length k).bind fun j => (xs[j]?).bind fun x => (putP g ks x).map fun y => .t (xs.set j y)
  | _ :: _, _ => none
def setAt (k : Int) (v : Tr) (xs : List Tr) : Option (List Tr) := (ixN xs.length k).map fun j => xs.set j v
def appAt (v : Tr) (xs : List Tr) : Option (List Tr) := if xs.length < sizeLine then some (xs ++ [v]) else none
def extAt (vs : List Tr) (xs : List Tr) : Option (List Tr) := if xs.length + vs.length ≤ sizeLine then some (xs ++ vs) else none
def forL (body : List Tr → Option SR) (bind : List Tr → PyData → Option (List Tr)) : List PyData → List Tr → Option SR
  | [], Γ => some (.nx Γ)
  | d :: ds, Γ => match bind Γ d with
    | none => none
    | some Γ1 => match body Γ1 with
      | some (.nx Γ2) => forL body bind ds Γ2
      | some (.ct Γ2) => forL body bind ds Γ2
      | some (.bk Γ2) => some (.nx Γ2)
      | r => r
def whL (c : List Tr → Option TR) (body : List Tr → Option SR) : Nat → List Tr → Option SR
  | 0, _ => none
  | n + 1, Γ => match c Γ with
    | some (.ok true Γ1) => (match body Γ1 with
      | some (.nx Γ2) => whL c body n Γ2
      | some (.ct Γ2) => whL c body n Γ2
      | some (.bk Γ2) => some (.nx Γ2)
      | r => r)
    | some (.ok false Γ1) => some (.nx Γ1)
    | some (.ex x Γ1) => some (.ex x Γ1)
    | none => none
def setAll (Γ : List Tr) : List Nat → List Tr → Option (List Tr)
  | [], [] => some Γ
  | i :: is, t :: ts => setAll (Γ.set i t) is ts
  | _, _ => none
def partsOf : Tr → Option (List Tr)
  | .c (.tuple ds) => some (ds.map .c)
  | .t xs => some xs
  | _ => none
mutual
def exS (F : Genv) : CS → List Tr → Option SR
  | .set i e, Γ => match ev F e Γ with
    | some (.ok t Γ1) => some (.nx (Γ1.set i t))
    | some (.ex x Γ1) => some (.ex x Γ1)
    | none => none
  | .setT is e, Γ => match ev F e Γ with
    | some (.ok t Γ1) => (partsOf t).bind fun ts => if is.length = ts.length then (setAll Γ1 is ts).map .nx else none
    | some (.ex x Γ1) => some (.ex x Γ1)
    | none => none
  | .par i j a b, Γ => match ev F a Γ with
    | some (.ok t Γ1) => (match ev F b Γ1 with
      | some (.ok u Γ2) => some (.nx ((Γ2.set i t).set j u))
      | some (.ex x Γ2) => some (.ex x Γ2)
      | none => none)
    | some (.ex x Γ1) => some (.ex x Γ1)
    | none => none
  | .setp i es l e, Γ => match ev F e Γ with
    | some (.ok v Γ1) => (match Γ1[i]? with
      | some .gone => none
      | some t => (match evAs F (es.map .e) (Γ1.set i .gone) with
        | some (.ok avs Γ2) => (match idxs avs with
          | some ks => (match ev F l Γ2 with
            | some (.ok tl Γ3) => (match asInt tl, Γ3[i]? with
              | some k, some .gone => (match putP (setAt k v) ks t with
                | some t' => some (.nx (Γ3.set i t'))
                | none => none)
              | _, _ => none)
            | _ => none)
          | none => none)
        | _ => none)
      | none => none)
    | some (.ex x Γ1) => some (.ex x Γ1)
    | none => none
  | .app i [] e, Γ => match Γ[i]? with
    | some (.l _) => (match ev F e Γ with
      | some (.ok v Γ1) => (match Γ1[i]? with
        | some (.l xs) => if xs.length < sizeLine then some (.nx (Γ1.set i (.l (xs ++ [v])))) else none
        | _ => none)
      | some (.ex x Γ1) => some (.ex x Γ1)
      | none => none)
    | _ => none
  | .app i es e, Γ => match Γ[i]? with
    | some .gone => none
    | some t => (match evAs F (es.map .e) (Γ.set i .gone) with
      | some (.ok avs Γ2) => (match idxs avs with
        | some ks => (match ev F e Γ2 with
          | some (.ok v Γ3) => (match Γ3[i]? with
            | some .gone => (match putP (appAt v) ks t with
              | some t' => some (.nx (Γ3.set i t'))
              | none => none)
            | _ => none)
          | _ => none)
        | none => none)
      | _ => none)
    | none => none
  | .ext i e, Γ => match Γ[i]? with
    | some (.l _) => (match ev F e Γ with
      | some (.ok v Γ1) => (match Γ1[i]? with
        | some (.l xs) => (match v with
          | .l vs => if xs.length + vs.length ≤ sizeLine then some (.nx (Γ1.set i (.l (xs ++ vs)))) else none
          | .c (.list ds) => if xs.length + ds.length ≤ sizeLine then some (.nx (Γ1.set i (.l (xs ++ ds.map .c)))) else none
          | _ => none)
        | _ => none)
      | some (.ex x Γ1) => some (.ex x Γ1)
      | none => none)
    | _ => none
  | .clr i es, Γ => match Γ[i]? with
    | some .gone => none
    | some t => (match evAs F (es.map .e) (Γ.set i .gone) with
      | some (.ok avs Γ2) => (match idxs avs with
        | some ks => (match Γ2[i]? with
          | some .gone => (match putP (fun _ => some []) ks t with
            | some t' => some (.nx (Γ2.set i t'))
            | none => none)
          | _ => none)
        | none => none)
      | _ => none)
    | none => none
  | .ex e, Γ => match ev F e Γ with
    | some (.ok _ Γ1) => some (.nx Γ1)
    | some (.ex x Γ1) => some (.ex x Γ1)
    | none => none
  | .ret e, Γ => match ev F e Γ with
    | some (.ok t Γ1) => some (.rt t Γ1)
    | some (.ex x Γ1) => some (.ex x Γ1)
    | none => none
  | .retN, Γ => some (.rt (.c .none) Γ)
  | .ite c a b, Γ => match evT F c Γ with
    | some (.ok true Γ1) => exB F a Γ1
    | some (.ok false Γ1) => exB F b Γ1
    | some (.ex x Γ1) => some (.ex x Γ1)
    | none => none
  | .for_ tg it body, Γ => match evIt F it Γ with
    | some (.ok ds Γ1) => forL (fun Γ => exB F body Γ) (fun Γ d => bindTg Γ tg d) ds Γ1
    | some (.ex x Γ1) => some (.ex x Γ1)
    | none => none
  | .whl n c body, Γ => whL (fun Γ => evT F c Γ) (fun Γ => exB F body Γ) n Γ
  | .brk, Γ => some (.bk Γ)
  | .cnt, Γ => some (.ct Γ)
  | .pass, Γ => some (.nx Γ)
  | .doc, Γ => some (.nx Γ)
  | .rais x, Γ => some (.ex x Γ)
  | .try_ body x i h, Γ => none
def exB (F : Genv) : List CS → List Tr → Option SR
  | [], Γ => some (.nx Γ)
  | s :: ss, Γ => match exS F s Γ with
    | some (.nx Γ1) => exB F ss Γ1
    | r => r
end
/-- what is given back of the parameters: those that are lent -/
def outsOf : List Bool → List Tr → List Tr
  | true :: ps, x :: xs => x :: outsOf ps xs
  | false :: ps, _ :: xs => .gone :: outsOf ps xs
  | _, _ => []
/-- a def, by its body: n names, the parameters first; ps: which are lent -/
def runDef (F : Genv) (n : Nat) (ps : List Bool) (body : List CS) (ts : List Tr) : Option FR :=
  if ts.length = ps.length ∧ ps.length ≤ n then
    match exB F body (ts ++ List.replicate (n - ts.length) .gone) with
    | some (.nx Γ) => some (.ok (.c .none) (outsOf ps Γ))
    | some (.rt t Γ) => some (.ok t (outsOf ps Γ))
    | some (.ex x _) => some (.ex x)
    | _ => none
  else none
end Hw
set_option Elab.async false
set_option linter.all false
set_option maxRecDepth 100000
/-! what the library's hand layer lacks: enumerate of a tuple -/
namespace Hx
open PySem PySem.Spec PyProof.Rows L2
open AutoSeq1 (wpAny_loadPart')
theorem made_et (t : Addr) (zs : Array Value) :
    Meets (Builtin.«enumerate.__new__» ⟨[.type "enumerate", .ref t], []⟩) (fun _ R s => s.heap.IsTuple t zs ∧
      R (.ok (.ret (.ref (s.heap.push { cls := .type "tuple_iterator", data := .fields #[.ref t, .int 0 0] }).objs.size)))
        { s with heap := (s.heap.push { cls := .type "tuple_iterator", data := .fields #[.ref t, .int 0 0] }).push { cls := .type "enumerate", data := .fields #[.none, .bool false, .ref s.heap.objs.size, rawInt 0, .none, .none] } }) :=
  .of_wp fun P w A R s hh => by
    obtain ⟨hp, g, d, tk, os⟩ := s
    obtain ⟨ht, hr⟩ := hh
    have sub := sub_enumerate
    have hT : Heap.IsTuple (Shared.heap ⟨hp, g, d, tk, os⟩) t zs := ht
    wp_walk using wpAny_pyIter_tuple hT
    refine wpAny_stack_any fun st => wpAny_pure ?_
    split
    · rename_i c _ _ _ _ _
      cases (c == Value.type "enumerate")
      · wp_walk using wpAny_pyIter_tuple hT
        exact ⟨_, rfl, hr⟩
      · wp_walk using wpAny_pyIter_tuple hT
        exact ⟨_, rfl, hr⟩
    · wp_walk using wpAny_pyIter_tuple hT
      exact ⟨_, rfl, hr⟩
section
variable {P : Program} {w : World} {A : Around} {E : Value → Shared → Prop} {s : Shared}
theorem call_et {t : Addr} {zs : Array Value} {Q : Value → Shared → Prop} (ht : s.heap.IsTuple t zs)
    (k : ∀ g, IsEnum g (s.heap.objs.size + 1) s.heap.objs.size 0 .none → g.IsTupleIter s.heap.objs.size t 0 → (∀ b o, s.heap.get? b = some o → g.get? b = some o) → Q (.ref (s.heap.objs.size + 1)) { s with heap := g }) :
    wpAny (model P w) A (call (.type "enumerate") [.ref t]) Q E s := by
  refine callType_new F.called_enumerate (by decide) (F.typeCall_enumerate_1 _) (F.newCall_enumerate_1 _) (fun obj => F.args_object_init_2 obj _) F.entry_enumerate_new (made_et t zs) ⟨ht, ?_⟩
  generalize hit : ({ cls := .type "tuple_iterator", data := .fields #[.ref t, .int 0 0] } : Obj) = it
  have sz : (s.heap.push it).objs.size = s.heap.objs.size + 1 := Heap.size_push ..
  show _ ∧ _
  rw [sz]
  generalize hen : ({ cls := .type "enumerate", data := .fields #[.none, .bool false, .ref s.heap.objs.size, rawInt 0, .none, .none] } : Obj) = en
  have e1 : ((s.heap.push it).push en).get? (s.heap.objs.size + 1) = some en := by
    have := Heap.get?_push_size (s.heap.push it) (o := en) (by subst hen; rfl)
    rwa [sz] at this
  have e2 : IsEnum ((s.heap.push it).push en) (s.heap.objs.size + 1) s.heap.objs.size 0 .none := by subst hen; exact e1
  refine ⟨⟨_, e2, rfl⟩, k _ e2 ⟨it, Heap.get?_push_of_some _ (Heap.get?_push_size _ (by subst hit; rfl)), by subst hit; rfl, by subst hit; rfl⟩ fun b o x => Heap.get?_push_of_some _ (Heap.get?_push_of_some _ x)⟩
end
/-- the tuple at a as it stands at each turn, each item in a new pair -/
def ItEt (K : PySem.W.Frag) (a : Addr) : It where
  go i H := ∃ (xs : List V) (x : V), SqT K H a xs ∧ xs[i]? = some x
  yld i H v H' := ∃ T x, v = .ref T ∧ H T = none ∧ H' = upd H T (.tup [.int (i : Nat), x]) ∧ ∀ xs, SqT K H a xs → xs[i]? = some x
  stop i H := ∃ xs : List V, SqT K H a xs ∧ i = xs.length
theorem apart {h : Heap} {a b : Addr} {zs : Array Value} {o : Obj} (ht : h.IsTuple a zs) (e : h.get? b = some o) (n : o.cls ≠ .type "tuple") : a ≠ b := fun z => by
  subst z
  obtain ⟨u, e', hc, _⟩ := ht
  rw [e] at e'
  cases e'
  exact n hc
theorem turn_et {P : Program} {w : World} {K : PySem.W.Frag} {es : List Expr} {m : Nat} {tp : Pos} (a e it : Addr) :
    Turn P w K (.Tuple es m tp) (ItEt K a) [e, it] e (fun i h => (∃ old, IsEnum h e it ((i : Nat) : Int) old) ∧ h.IsTupleIter it a i ∧ e ≠ it) where
  mem := List.mem_cons_self ..
  obj := fun i h st b hb => by
    obtain ⟨⟨old, he⟩, ⟨o, ho, _, hd⟩, _⟩ := st
    rcases List.mem_cons.mp hb with z | z
    · subst z; exact ⟨_, he, fun v q => nomatch q⟩
    · rw [List.mem_singleton.mp z]; exact ⟨o, ho, fun v q => by rw [hd] at q; cases q⟩
  keep := fun i h h' st k => ⟨st.1.imp fun old he => k e (by simp) _ he, st.2.1.at fun o q => k it (by simp) o q, st.2.2⟩
  item := by
    intro X hP hw hK hc i pins s σ H E I hf st hg
    subst hP hw hK
    obtain ⟨⟨old, he⟩, hi, hne⟩ := st
    obtain ⟨xs, x, hq, hx⟩ := hg
    obtain ⟨its, rv, p, hz⟩ := I.tuple hq
    obtain ⟨u, hu, ru⟩ := rv.get hx
    have elt : e < s.heap.objs.size := Heap.lt_size he
    obtain ⟨oi, hoi, hci, hdi⟩ := id hi
    have ilt : it < s.heap.objs.size := Heap.lt_size hoi
    have na : a ≠ it := apart p hoi (by rw [hci]; decide)
    have ne : a ≠ e := apart p he (by show Value.type "enumerate" ≠ Value.type "tuple"; decide)
    refine wpAny_pyNext_enum_itemD (Draws.tuple (A := X.A.in1) (I.ok.hd hc) it a na its.toArray) he ⟨hi, p⟩ (by have := rv.length; have := (List.getElem?_eq_some_iff.mp hu).1; simpa using this) hne (by simp [hne, Ne.symm ne]) fun y g tk hy ho st' hT hsz hk => ?_
    have yu : y = u := by
      have : its[i]? = some y := by simpa using hy
      rw [hu] at this
      exact (Option.some.inj this).symm
    subst yu
    refine ⟨_, rfl, wpAny_letOwnedTupleGo_enum (s := { s with heap := g, toks := tk + 1 }) ho fun g2 he2 sb => ?_⟩
    have hT2 : g2.get? s.heap.objs.size = some { cls := .type "tuple", data := .seq #[.int i tk, y] } := (sb.2 _ (Nat.ne_of_gt elt)).trans hT
    have new : ObjOk X.prog X.w (upd H s.heap.objs.size (.tup [.int (i : Nat), x])) g2 s.heap.objs.size (.tup [.int (i : Nat), x]) :=
      ⟨by show 2 ≤ sizeLine; decide, [.int i tk, y], .cons ⟨_, rfl⟩ (.cons ru .nil), ⟨_, hT2, rfl, _, rfl⟩⟩
    have I1 : Inv X pins σ (upd H s.heap.objs.size (.tup [.int (i : Nat), x])) { s with heap := g2, toks := tk + 1 } :=
      I.turnedNew (ch := [e, it]) (fun b ob hb q => (sb.2 b (fun z => hb (by simp [z]))).trans (hk b ob (fun z => hb (by simp [z])) (fun z => hb (by simp [z])) q)) hf (Nat.le_refl _) new
    refine ⟨.ref s.heap.objs.size, _, I1, rfl, ⟨_, x, rfl, I.hok.fresh (Nat.le_refl _), rfl, fun ys hy => by rw [I.tuple_inj hy hq]; exact hx⟩, ⟨⟨y, ?_⟩, st'.1.at fun o q => (sb.2 it (Ne.symm hne)).trans q, hne⟩, fun b hb => ?_⟩
    · rw [show ((i + 1 : Nat) : Int) = (i : Int) + 1 by omega]; exact he2
    · have lt : b < s.heap.objs.size := by
        rcases List.mem_cons.mp hb with z | z
        · rw [z]; exact elt
        · rw [List.mem_singleton.mp z]; exact ilt
      rw [upd_ne (Nat.ne_of_lt lt)]
      exact (hf b hb).1
  done := by
    intro X hP hw hK hc i pins s σ H E I hf st hg
    subst hP hw hK
    obtain ⟨⟨old, he⟩, hi, hne⟩ := st
    obtain ⟨xs, hq, hx⟩ := hg
    obtain ⟨its, rv, p, hz⟩ := I.tuple hq
    obtain ⟨f0, f1, f2, f3, f4, f5⟩ := hf it (by simp)
    obtain ⟨oi, hoi, hci, hdi⟩ := id hi
    have na : a ≠ it := apart p hoi (by rw [hci]; decide)
    have hl := rv.length
    have hn : i = its.toArray.size := by simp; omega
    subst hn
    exact wpAny_pyNext_enum_endD (Draws.tuple (A := X.A.in1) (I.ok.hd hc) it a na its.toArray) he ⟨hi, p⟩ fun g eb => ⟨rfl, I.turned (t' := s.toks) (fun b o hb q => eb b o hb q) f0 f1 f3 f4 f5⟩
  self := fun A i s Q E st h => st.1.elim fun _ he => wpAny_pyIter_enum he h
def iEnumB (K : PySem.W.Frag) (te : TE) : TI := fun σ H R => te σ H fun v H1 => (∃ a xs, v = .ref a ∧ SqL K H1 a xs ∧ R (Ite K a) H1) ∨ ∃ a xs, v = .ref a ∧ SqT K H1 a xs ∧ R (ItEt K a) H1
theorem pi_enumB {X : Cx} {e : Expr} {te : TE} {p pos tp : Pos} {es : List Expr} {m : Nat} (hg : Gl X "enumerate") (hm : X.mg "enumerate" = none) (he : PE X e te) (hs : ∀ env, starEach [e] env = [(false, eval e env)]) :
    PI X (.Tuple es m tp) (.Call (.Name "enumerate" p) [e] [] pos) (iEnumB X.K te) := by
  constructor
  intro pins s σ H R I q
  have ha : PA X [e] (tCons te tNil) := pa_cons he pa_nil (hs X.env)
  refine Call_ (ld_blt I hg hm boot_enumerate (PyProof.Rows.callWith_type1 (thn (ha.run pos pins s σ H (fun vs H1 => match vs with
    | [v] => (∃ a xs, v = .ref a ∧ SqL X.K H1 a xs ∧ R (Ite X.K a) H1) ∨ ∃ a xs, v = .ref a ∧ SqT X.K H1 a xs ∧ R (ItEt X.K a) H1
    | _ => False) I q) fun us s1 ⟨vs, H1, I1, r1, q1⟩ => ?_) (hs X.env) rfl))
  match vs, r1, q1 with
  | [], _, q1 => exact q1.elim
  | _ :: _ :: _, _, q1 => exact q1.elim
  | [v], .cons r rr, q1 =>
    cases rr
    rcases q1 with ⟨a, xs, rfl, hq, q⟩ | ⟨a, xs, rfl, hq, q⟩
    · cases r
      obtain ⟨its, rv, tt, hz⟩ := I1.list hq
      refine call_enumerate_list tt.isList fun g he hit hsz hk => wpAny_pyIter_enum he ?_
      have I2 : Inv X pins σ H1 { s1 with heap := g } := I1.kept (t' := s1.toks) hk
      refine ⟨s1.heap.objs.size + 1, [s1.heap.objs.size + 1, s1.heap.objs.size], _, _, H1, rfl, I2, turn_enum a (s1.heap.objs.size + 1) s1.heap.objs.size, ⟨⟨.none, he⟩, hit, Nat.succ_ne_self _⟩, fun b hb => ?_, q⟩
      have le : s1.heap.objs.size ≤ b := by
        rcases List.mem_cons.mp hb with z | z
        · rw [z]; exact Nat.le_add_right _ _
        · rw [List.mem_singleton.mp z]; exact Nat.le_refl _
      exact I1.fpOk le (I1.hok.fresh le)
    · cases r
      obtain ⟨its, rv, tt, hz⟩ := I1.tuple hq
      refine call_et (zs := its.toArray) tt fun g he hit hk => wpAny_pyIter_enum he ?_
      have I2 : Inv X pins σ H1 { s1 with heap := g } := I1.kept (t' := s1.toks) hk
      refine ⟨s1.heap.objs.size + 1, [s1.heap.objs.size + 1, s1.heap.objs.size], _, _, H1, rfl, I2, turn_et a (s1.heap.objs.size + 1) s1.heap.objs.size, ⟨⟨.none, he⟩, hit, Nat.succ_ne_self _⟩, fun b hb => ?_, q⟩
      have le : s1.heap.objs.size ≤ b := by
        rcases List.mem_cons.mp hb with z | z
        · rw [z]; exact Nat.le_add_right _ _
        · rw [List.mem_singleton.mp z]; exact Nat.le_refl _
      exact I1.fpOk le (I1.hok.fresh le)
end Hx
set_option Elab.async false
set_option linter.all false
set_option maxRecDepth 100000
set_option maxHeartbeats 1000000
/-! zip of two, each a list or a tuple -/
namespace Hx
open PySem PySem.Spec PyProof.Rows L2
def IsItB : Bool → Heap → Addr → Addr → Nat → Prop
  | true, h, it, a, i => h.IsTupleIter it a i
  | false, h, it, a, i => h.IsListIter it a i
def IsSqB : Bool → Heap → Addr → Array Value → Prop
  | true, h, a, zs => h.IsTuple a zs
  | false, h, a, zs => h.IsList a zs
def itc : Bool → String
  | true => "tuple_iterator"
  | false => "list_iterator"
def SqB (K : PySem.W.Frag) (H : Hp) : Bool → Addr → List V → Prop
  | true, a, xs => SqT K H a xs
  | false, a, xs => SqL K H a xs
theorem drawsB {P : Program} {w : World} {A : Around} (hh : A.handled = none) (it a : Addr) (n : a ≠ it) (zs : Array Value) : ∀ b : Bool, Draws P w A it [it, a] zs.size (fun i v => zs[i]? = some v) (fun i h => IsItB b h it a i ∧ IsSqB b h a zs)
  | true => Draws.tuple hh it a n zs
  | false => Draws.list hh it a n zs
theorem iterB {P : Program} {w : World} {A : Around} {E : Value → Shared → Prop} {s : Shared} {t : Addr} {zs : Array Value} {Q : Value → Shared → Prop} : ∀ {b : Bool}, IsSqB b s.heap t zs →
    Q (.ref s.heap.objs.size) { s with heap := s.heap.push { cls := .type (itc b), data := .fields #[.ref t, .int 0 0] } } → wpAny (model P w) A (pyIter (.ref t)) Q E s
  | true, ht, q => wpAny_pyIter_tuple ht q
  | false, ht, q => wpAny_pyIter_list ht q
theorem IsSqB.ex {h : Heap} {a : Addr} {zs : Array Value} : ∀ {b : Bool}, IsSqB b h a zs → ∃ o, h.get? a = some o
  | true, ⟨o, e, _⟩ => ⟨o, e⟩
  | false, ⟨o, e, _⟩ => ⟨o, e⟩
theorem IsSqB.push {h : Heap} {a : Addr} {zs : Array Value} (o : Obj) : ∀ {b : Bool}, IsSqB b h a zs → IsSqB b (h.push o) a zs
  | true, x => Heap.IsTuple.push x o
  | false, x => Heap.IsList.push x o
theorem IsItB.at {h h' : Heap} {it a : Addr} {i : Nat} : ∀ {b : Bool}, IsItB b h it a i → (∀ o, h.get? it = some o → h'.get? it = some o) → IsItB b h' it a i
  | true, x, k => Heap.IsTupleIter.at x k
  | false, x, k => Heap.IsListIter.at x k
theorem IsItB.ob {h : Heap} {it a : Addr} {i : Nat} : ∀ {b : Bool}, IsItB b h it a i → ∃ o, h.get? it = some o ∧ ∀ v, o.data ≠ .cell v
  | true, ⟨o, e, _, d⟩ => ⟨o, e, fun v q => by rw [d] at q; cases q⟩
  | false, ⟨o, e, _, d⟩ => ⟨o, e, fun v q => by rw [d] at q; cases q⟩
theorem apB {h : Heap} {it a : Addr} {i : Nat} {zs : Array Value} : ∀ {b : Bool}, IsSqB b h a zs → IsItB b h it a i → a ≠ it
  | true, x, ⟨o, e, hc, _⟩ => apart x e (by rw [hc]; decide)
  | false, ⟨u, e', hc', _⟩, ⟨o, e, hc, _⟩ => fun z => by
    subst z
    rw [e] at e'
    cases e'
    rw [hc] at hc'
    exact absurd hc' (by decide)
theorem IsItB.new {h : Heap} {it a : Addr} : ∀ {b : Bool}, h.get? it = some { cls := .type (itc b), data := .fields #[.ref a, .int 0 0] } → IsItB b h it a 0
  | true, e => ⟨_, e, rfl, rfl⟩
  | false, e => ⟨_, e, rfl, rfl⟩
theorem seqB {X : Cx} {pins : List (Addr × Obj)} {σ : L2.St} {H : Hp} {s : Shared} (I : Inv X pins σ H s) {a : Addr} {xs : List V} : ∀ {b : Bool}, SqB X.K H b a xs → ∃ its, Vals xs its ∧ IsSqB b s.heap a its.toArray
  | true, h => let ⟨its, rv, p, _⟩ := I.tuple h; ⟨its, rv, p⟩
  | false, h => let ⟨its, rv, p, _⟩ := I.list h; ⟨its, rv, p.isList⟩
theorem injB {X : Cx} {pins : List (Addr × Obj)} {σ : L2.St} {H : Hp} {s : Shared} (I : Inv X pins σ H s) {a : Addr} {xs ys : List V} : ∀ {b : Bool}, SqB X.K H b a xs → SqB X.K H b a ys → xs = ys
  | true, h, k => I.tuple_inj h k
  | false, h, k => I.list_inj h k
def ItzB (K : PySem.W.Frag) (b1 b2 : Bool) (a c : Addr) : It where
  go i H := ∃ (xs ys : List V) (x y : V), SqB K H b1 a xs ∧ SqB K H b2 c ys ∧ xs[i]? = some x ∧ ys[i]? = some y
  yld i H v H' := ∃ T x y, v = .ref T ∧ H T = none ∧ H' = upd H T (.tup [x, y]) ∧ (∀ xs, SqB K H b1 a xs → xs[i]? = some x) ∧ ∀ ys, SqB K H b2 c ys → ys[i]? = some y
  stop i H := ∃ xs ys : List V, SqB K H b1 a xs ∧ SqB K H b2 c ys ∧ i = min xs.length ys.length
theorem turn_zB {P : Program} {w : World} {K : PySem.W.Frag} {es : List Expr} {m : Nat} {tp : Pos} {b1 b2 : Bool} {a c z TI TO i1 i2 : Addr} (S : ZipSep2 z TI TO i1 i2 [i1, a] [i2, c]) :
    Turn P w K (.Tuple es m tp) (ItzB K b1 b2 a c) [z, TI, TO, i1, i2] z (fun i h => IsZip h z TI TO .none ∧ IsTupOf2 h TI (.ref i1) (.ref i2) ∧ (∃ x y, IsTupOf2 h TO x y) ∧ IsItB b1 h i1 a i ∧ IsItB b2 h i2 c i) where
  mem := List.mem_cons_self ..
  obj := fun i h st q hq => by
    obtain ⟨hz, hTI, ⟨x, y, hTO⟩, h1, h2⟩ := st
    have e : q = z ∨ q = TI ∨ q = TO ∨ q = i1 ∨ q = i2 := by simpa using hq
    rcases e with e | e | e | e | e
    · subst e; exact ⟨_, hz, fun v k => nomatch k⟩
    · subst e; exact ⟨_, hTI, fun v k => nomatch k⟩
    · subst e; exact ⟨_, hTO, fun v k => nomatch k⟩
    · subst e; exact h1.ob
    · subst e; exact h2.ob
  keep := fun i h h' st k => by
    obtain ⟨hz, hTI, ⟨x, y, hTO⟩, h1, h2⟩ := st
    exact ⟨k z (by simp) _ hz, k TI (by simp) _ hTI, ⟨x, y, k TO (by simp) _ hTO⟩, h1.at fun o q => k i1 (by simp) o q, h2.at fun o q => k i2 (by simp) o q⟩
  item := by
    intro X hP hw hK hc i pins s σ H E I hf st hg
    subst hP hw hK
    obtain ⟨hz, hTI, ⟨x0, y0, hTO⟩, h1, h2⟩ := st
    obtain ⟨xs, ys, x, y, hqx, hqy, hx, hy⟩ := hg
    obtain ⟨its, rv, p⟩ := seqB I hqx
    obtain ⟨jts, rv2, p2⟩ := seqB I hqy
    obtain ⟨u, hu, ru⟩ := rv.get hx
    obtain ⟨u2, hu2, ru2⟩ := rv2.get hy
    have zl : z < s.heap.objs.size := Heap.lt_size hz
    have n1 : a ≠ i1 := apB p h1
    have n2 : c ≠ i2 := apB p2 h2
    refine wpAny_pyNext_zipD2_item S (drawsB (A := X.A.in1) (I.ok.hd hc) i1 a n1 its.toArray b1) (drawsB (A := X.A.in1) (I.ok.hd hc) i2 c n2 jts.toArray b2) hz hTI hTO ⟨h1, p⟩ ⟨h2, p2⟩ (by have := (List.getElem?_eq_some_iff.mp hu).1; simpa using this) (by have := (List.getElem?_eq_some_iff.mp hu2).1; simpa using this) fun v1 v2 g tk e1 e2 z' TO' d1 d2 hT hsz hk => ?_
    have yu : v1 = u := by
      have : its[i]? = some v1 := by simpa using e1
      rw [hu] at this
      exact (Option.some.inj this).symm
    have yu2 : v2 = u2 := by
      have : jts[i]? = some v2 := by simpa using e2
      rw [hu2] at this
      exact (Option.some.inj this).symm
    subst yu yu2
    refine ⟨_, rfl, wpAny_letOwnedTupleGo_zip (s := { s with heap := g, toks := tk }) z' fun g2 z'' sb => ?_⟩
    have hT2 : g2.get? s.heap.objs.size = some { cls := .type "tuple", data := .seq #[v1, v2] } := (sb.2 _ (Nat.ne_of_gt zl)).trans hT
    have new : ObjOk X.prog X.w (upd H s.heap.objs.size (.tup [x, y])) g2 s.heap.objs.size (.tup [x, y]) :=
      ⟨by show 2 ≤ sizeLine; decide, [v1, v2], .cons ru (.cons ru2 .nil), ⟨_, hT2, rfl, _, rfl⟩⟩
    have I1 : Inv X pins σ (upd H s.heap.objs.size (.tup [x, y])) { s with heap := g2, toks := tk } :=
      I.turnedNew (t' := tk) (ch := [z, TI, TO, i1, i2]) (fun q o hb e => (sb.2 q (fun k => hb (by simp [k]))).trans (hk q o (fun k => hb (by simp [k])) (fun k => hb (by simp [k])) (fun k => hb (by simp [k])) (fun k => hb (by simp [k])) e)) hf (Nat.le_refl _) new
    refine ⟨.ref s.heap.objs.size, _, I1, rfl, ⟨_, x, y, rfl, I.hok.fresh (Nat.le_refl _), rfl, fun l hl => by rw [injB I hl hqx]; exact hx, fun l hl => by rw [injB I hl hqy]; exact hy⟩, ⟨z'', ?_, ⟨v1, v2, ?_⟩, ?_, ?_⟩, fun q hq => ?_⟩
    · exact (sb.2 _ S.TIz).trans (hk _ _ S.TIz S.TITO S.TIi1 S.TIi2 hTI)
    · exact (sb.2 _ S.TOz).trans TO'
    · exact d1.1.at fun o e => (sb.2 _ (Ne.symm S.zi1)).trans e
    · exact d2.1.at fun o e => (sb.2 _ (Ne.symm S.zi2)).trans e
    · have lt : q < s.heap.objs.size := by
        have e : q = z ∨ q = TI ∨ q = TO ∨ q = i1 ∨ q = i2 := by simpa using hq
        rcases e with e | e | e | e | e
        · rw [e]; exact zl
        · rw [e]; exact Heap.lt_size hTI
        · rw [e]; exact Heap.lt_size hTO
        · rw [e]; obtain ⟨_, e1, _⟩ := h1.ob; exact Heap.lt_size e1
        · rw [e]; obtain ⟨_, e2, _⟩ := h2.ob; exact Heap.lt_size e2
      rw [upd_ne (Nat.ne_of_lt lt)]
      exact (hf q hq).1
  done := by
    intro X hP hw hK hc i pins s σ H E I hf st hg
    subst hP hw hK
    obtain ⟨hz, hTI, ⟨x0, y0, hTO⟩, h1, h2⟩ := st
    obtain ⟨xs, ys, hqx, hqy, hend⟩ := hg
    obtain ⟨its, rv, p⟩ := seqB I hqx
    obtain ⟨jts, rv2, p2⟩ := seqB I hqy
    have l1 := rv.length
    have l2 := rv2.length
    have n1 : a ≠ i1 := apB p h1
    have n2 : c ≠ i2 := apB p2 h2
    exact wpAny_pyNext_zipD2_end S (drawsB (A := X.A.in1) (I.ok.hd hc) i1 a n1 its.toArray b1) (drawsB (A := X.A.in1) (I.ok.hd hc) i2 c n2 jts.toArray b2) hz hTI hTO ⟨h1, p⟩ ⟨h2, p2⟩ (by simp; omega) (by simp; omega) (by simp; omega) fun g tk hk => ⟨rfl, I.turnedL (t' := tk) (ch := [z, TI, TO, i1, i2]) (fun q o hb e =>
      hk q o (fun k => hb (by simp [k])) (fun k => hb (by simp [k])) (fun k => hb (by simp [k])) (fun k => hb (by simp [k])) e) hf⟩
  self := fun A i s Q E st h => wpAny_pyIter_zip st.1 h
abbrev zO (b : Bool) (l : Addr) : Obj := { cls := .type (itc b), data := .fields #[.ref l, .int 0 0] }
abbrev zA (h : Heap) (b1 b2 : Bool) (l1 l2 : Addr) : Heap := (h.push (zO b1 l1)).push (zO b2 l2)
abbrev zB (h : Heap) (b1 b2 : Bool) (l1 l2 : Addr) : Heap := (zA h b1 b2 l1 l2).push { cls := .type "tuple", data := .seq #[.ref h.objs.size, .ref (h.push (zO b1 l1)).objs.size] }
abbrev zC (h : Heap) (b1 b2 : Bool) (l1 l2 : Addr) : Heap := (zB h b1 b2 l1 l2).push { cls := .type "tuple", data := .seq #[.none, .none] }
abbrev zD (h : Heap) (b1 b2 : Bool) (l1 l2 : Addr) : Heap := (zC h b1 b2 l1 l2).push { cls := .type "zip", data := .fields #[.none, .bool false, .bool false, .ref (zA h b1 b2 l1 l2).objs.size, .ref (zB h b1 b2 l1 l2).objs.size] }
theorem made_zB (b1 b2 : Bool) (l1 l2 : Addr) (xs ys : Array Value) :
    Meets (Builtin.«zip.__new__» ⟨[.type "zip", .ref l1, .ref l2], []⟩) (fun _ R s => IsSqB b1 s.heap l1 xs ∧ IsSqB b2 s.heap l2 ys ∧
      R (.ok (.ret (.ref (zC s.heap b1 b2 l1 l2).objs.size))) { s with heap := zD s.heap b1 b2 l1 l2 }) :=
  .of_wp fun P w A R s hh => by
    obtain ⟨hp, g, d, tk, os⟩ := s
    obtain ⟨q1, q2, hr⟩ := hh
    have sub := sub_zip
    have m1 : IsSqB b1 (Shared.heap ⟨hp, g, d, tk, os⟩) l1 xs := q1
    have m2 : IsSqB b2 (Shared.heap ⟨hp.push (zO b1 l1), g, d, tk, os⟩) l2 ys := q2.push _
    wp_walk using iterB m1, iterB m2
    exact ⟨_, rfl, hr⟩
section
variable {P : Program} {w : World} {A : Around} {E : Value → Shared → Prop} {s : Shared}
theorem call_zB {b1 b2 : Bool} {l1 l2 : Addr} {xs ys : Array Value} {Q : Value → Shared → Prop} (q1 : IsSqB b1 s.heap l1 xs) (q2 : IsSqB b2 s.heap l2 ys)
    (k : ∀ h' n, n = s.heap.objs.size → IsZip h' (n + 4) (n + 2) (n + 3) .none → IsTupOf2 h' (n + 2) (.ref n) (.ref (n + 1)) → IsTupOf2 h' (n + 3) .none .none → IsItB b1 h' n l1 0 → IsItB b2 h' (n + 1) l2 0 →
      (∀ c o, s.heap.get? c = some o → h'.get? c = some o) → Q (.ref (n + 4)) { s with heap := h' }) :
    wpAny (model P w) A (call (.type "zip") [.ref l1, .ref l2]) Q E s := by
  refine callType_new F.called_zip (by decide) (F.typeCall_zip_2 _ _) (F.newCall_zip_2 _ _) (fun obj => F.args_object_init_3 obj _ _) F.entry_zip_new (made_zB b1 b2 l1 l2 xs ys) ⟨q1, q2, ?_⟩
  have s1 : (s.heap.push (zO b1 l1)).objs.size = s.heap.objs.size + 1 := Heap.size_push ..
  have s2 : (zA s.heap b1 b2 l1 l2).objs.size = s.heap.objs.size + 2 := by rw [Heap.size_push, s1]
  have s3 : (zB s.heap b1 b2 l1 l2).objs.size = s.heap.objs.size + 3 := by rw [Heap.size_push, s2]
  have s4 : (zC s.heap b1 b2 l1 l2).objs.size = s.heap.objs.size + 4 := by rw [Heap.size_push, s3]
  have up : ∀ {h : Heap} {o u : Obj} {q : Addr}, h.get? q = some u → (h.push o).get? q = some u := fun e => Heap.get?_push_of_some _ e
  have g5 : (zD s.heap b1 b2 l1 l2).get? (zC s.heap b1 b2 l1 l2).objs.size = some _ := Heap.get?_push_size _ rfl
  have g4 : (zD s.heap b1 b2 l1 l2).get? (zB s.heap b1 b2 l1 l2).objs.size = some _ := up (Heap.get?_push_size _ rfl)
  have g3 : (zD s.heap b1 b2 l1 l2).get? (zA s.heap b1 b2 l1 l2).objs.size = some _ := up (up (Heap.get?_push_size _ rfl))
  have g2 : (zD s.heap b1 b2 l1 l2).get? (s.heap.push (zO b1 l1)).objs.size = some _ := up (up (up (Heap.get?_push_size _ rfl)))
  have g1 : (zD s.heap b1 b2 l1 l2).get? s.heap.objs.size = some _ := up (up (up (up (Heap.get?_push_size _ rfl))))
  show _ ∧ _
  rw [s4, s2, s3] at g5
  rw [s2, s1] at g3
  rw [s3] at g4
  rw [s1] at g2
  rw [s4]
  exact ⟨⟨_, g5, rfl⟩, k _ _ rfl g5 g3 g4 (.new g1) (.new g2) fun c o x => up (up (up (up (up x))))⟩
end
theorem notin2 {x y z : Nat} (h : x ≠ y) (k : x ≠ z) : x ∉ [y, z] := fun m => by
  rcases List.mem_cons.mp m with e | e
  · exact h e
  · exact k (List.mem_singleton.mp e)
theorem ne_ {x y : Nat} (h : x < y ∨ y < x) : x ≠ y := fun e => by subst e; omega
theorem sepN (n a b : Nat) (la : a < n) (lb : b < n) : ZipSep2 (n + 4) (n + 2) (n + 3) n (n + 1) [n, a] [n + 1, b] where
  TIz := ne_ (by omega)
  TOz := ne_ (by omega)
  TITO := ne_ (by omega)
  TIi1 := ne_ (by omega)
  mem1 := List.mem_cons_self ..
  zf1 := notin2 (ne_ (by omega)) (ne_ (by omega))
  Tf1 := notin2 (ne_ (by omega)) (ne_ (by omega))
  TIi2 := ne_ (by omega)
  mem2 := List.mem_cons_self ..
  zf2 := notin2 (ne_ (by omega)) (ne_ (by omega))
  Tf2 := notin2 (ne_ (by omega)) (ne_ (by omega))
  sep1_2 := notin2 (ne_ (by omega)) (ne_ (by omega))
  sep2_1 := notin2 (ne_ (by omega)) (ne_ (by omega))
def iZipB (K : PySem.W.Frag) (ta : TA) : TI := fun σ H R => ta σ H fun vs H1 => ∃ b1 b2 a b xs ys, vs = [.ref a, .ref b] ∧ SqB K H1 b1 a xs ∧ SqB K H1 b2 b ys ∧ R (ItzB K b1 b2 a b) H1
theorem pi_zipB {X : Cx} {e e2 : Expr} {ta : TA} {p pos tp : Pos} {es : List Expr} {m : Nat} (hg : Gl X "zip") (hm : X.mg "zip" = none) (ha : PA X [e, e2] ta)
    (hs : starEach [e, e2] X.env = (false, eval e X.env) :: starEach [e2] X.env) (hpl : (backTo pos (starEach [e2] X.env)).any (·.1) = false) :
    PI X (.Tuple es m tp) (.Call (.Name "zip" p) [e, e2] [] pos) (iZipB X.K ta) := by
  constructor
  intro pins s σ H R I q
  refine Call_ (ld_blt I hg hm PyProof.Rows.boot_zip (PyProof.Rows.callWith_type1 (thn (ha.run pos pins s σ H _ I q) fun us s1 ⟨vs, H1, I1, r1, q1⟩ => ?_) hs hpl))
  obtain ⟨b1, b2, a, b, xs, ys, rfl, h1, h2, q⟩ := q1
  have go : ∀ u1 u2, us = [u1, u2] → u1 = .ref a → u2 = .ref b → wpAny (model X.prog X.w) X.A (call (.type "zip") us) (fun v s1 => wpAny (model X.prog X.w) X.A (pyIter v) (PIE X pins σ (.Tuple es m tp) R) X.xe s1) X.xe s1 := by
    intro u1 u2 hu e1 e2
    subst hu e1 e2
    obtain ⟨its, rv, t1⟩ := seqB I1 h1
    obtain ⟨jts, rv2, t2⟩ := seqB I1 h2
    obtain ⟨_, ea⟩ := t1.ex
    obtain ⟨_, eb⟩ := t2.ex
    have la := Heap.lt_size ea
    have lb := Heap.lt_size eb
    refine call_zB t1 t2 fun h' n hn z1 z2 z3 z4 z5 hk => wpAny_pyIter_zip z1 ?_
    have I2 : Inv X pins σ H1 { s1 with heap := h' } := I1.kept (t' := s1.toks) hk
    have S := sepN n a b (by rw [hn]; exact la) (by rw [hn]; exact lb)
    have fr : ∀ c ∈ [n + 4, n + 2, n + 3, n, n + 1], FpOk X pins H1 c := fun c hc => by
      have le : s1.heap.objs.size ≤ c := by
        have q : c = n + 4 ∨ c = n + 2 ∨ c = n + 3 ∨ c = n ∨ c = n + 1 := by simpa using hc
        have hn' : (n : Nat) = s1.heap.objs.size := hn
        rcases q with e | e | e | e | e <;> (rw [e, ← hn']; first | exact Nat.le_add_right _ _ | exact Nat.le_refl _)
      exact I1.fpOk le (I1.hok.fresh le)
    have T := turn_zB (P := X.prog) (w := X.w) (K := X.K) (es := es) (m := m) (tp := tp) (b1 := b1) (b2 := b2) S
    exact ⟨n + 4, [n + 4, n + 2, n + 3, n, n + 1], _, _, H1, rfl, I2, T, ⟨z1, z2, ⟨_, _, z3⟩, z4, z5⟩, fr, q⟩
  cases r1 with
  | cons r rr =>
    cases rr with
    | cons r' rr' =>
      cases rr'
      exact go _ _ rfl r r'
end Hx
set_option Elab.async false
set_option linter.all false
set_option maxRecDepth 100000
/-! what the library's hand layer lacks: sum, max, min of a tuple of ints -/
namespace Hx
open PySem PySem.Spec PyProof.Rows L2
section
variable {prog : Program} {w : World} {A : Around} {E : Value → Shared → Prop} {s : Shared} {l : Addr} {its : List Value} {ns : List Int} {Q : Value → Shared → Prop}
theorem tsum_raw (hh : A.handled = none) (hl : s.heap.IsTuple l its.toArray) (hi : IntsAre its ns)
    (h : ∀ h' tk t', (∀ b o, s.heap.get? b = some o → h'.get? b = some o) → Q (.int ns.sum t') { s with heap := h', toks := tk }) : wpAny (model prog w) A (call (.builtin "sum") [.ref l]) Q E s := by
  obtain ⟨xs, e⟩ := hi.allInts.items
  have hn : numsOf (intItems xs).toList = ns := by rw [← e]; exact hi.numsOf
  rw [nums_intItems] at hn
  rw [e] at hl
  refine PySem.W.ktm_sumG hh hl fun h' tk t' hk => ?_
  have := h h' tk t' hk
  rw [preSum_eq, List.take_of_length_le (by simp), hn]; exact this
theorem tup_it {xs : Array (Int × Tok)} (hl : s.heap.IsTuple l (intItems xs)) {Q : Value → Shared → Prop}
    (h : ∀ s₂ : Shared, s₂ = { s with heap := s.heap.push { cls := .type "tuple_iterator", data := .fields #[.ref l, .int 0 0] } } → (s₂.heap.IsTupleIter s.heap.objs.size l 0 ∧ s₂.heap.IsTuple l (intItems xs)) → (∀ b ∈ [s.heap.objs.size, l], b < s₂.heap.objs.size) → l ≠ s.heap.objs.size → Q (.ref s.heap.objs.size) s₂) :
    wpAny (model prog w) A (pyIter (.ref l)) Q E s := by
  have hlt : l < s.heap.objs.size := by obtain ⟨_, e, _⟩ := hl; exact Heap.lt_size e
  refine wpAny_pyIter_tuple hl (h _ rfl ⟨⟨_, Heap.get?_push_size _ rfl, rfl, rfl⟩, hl.at fun o e => Heap.get?_push_of_some _ e⟩ (fun b hb => ?_) (Nat.ne_of_lt hlt))
  show b < (s.heap.push _).objs.size
  rw [Heap.size_push]
  rcases List.mem_cons.mp hb with rfl | hb
  · exact Nat.lt_succ_self _
  · rcases List.mem_cons.mp hb with rfl | hb
    · exact Nat.lt_succ_of_lt hlt
    · cases hb
theorem old_tk {h' : Heap} (hk : ∀ b o, b ∉ [s.heap.objs.size] → (s.heap.push { cls := .type "tuple_iterator", data := .fields #[.ref l, .int 0 0] }).get? b = some o → h'.get? b = some o) : ∀ b o, s.heap.get? b = some o → h'.get? b = some o := fun b o e => by
  refine hk b o (fun hm => ?_) (Heap.get?_push_of_some _ e)
  have := Heap.lt_size e
  rcases List.mem_cons.mp hm with e1 | hm
  · rw [e1] at this; exact Nat.lt_irrefl _ this
  · cases hm
theorem tmax_raw (hh : A.handled = none) (hl : s.heap.IsTuple l its.toArray) (hi : IntsAre its ns) (hne : 0 < ns.length)
    (h : ∀ h' tk M t', (∀ b o, s.heap.get? b = some o → h'.get? b = some o) → M ∈ ns → (∀ a, a ∈ ns → a ≤ M) → Q (.int M t') { s with heap := h', toks := tk }) : wpAny (model prog w) A (call (.builtin "max") [.ref l]) Q E s := by
  obtain ⟨xs, e⟩ := hi.allInts.items
  have hn : numsOf (intItems xs).toList = ns := by rw [← e]; exact hi.numsOf
  rw [nums_intItems] at hn
  subst hn
  rw [e] at hl
  have hsz : 0 < xs.size := by simpa using hne
  refine call_max_walk (tup_it hl fun s₂ e st hfp hlI => ?_)
  subst e
  refine ⟨_, _, _, _, _, _, _, rfl, Walks.tuple (A := A.in1) hh _ l hlI (intItems xs), st, hfp, by simpa [intItems] using hsz, CmpOf.ints_gt (numAt xs) (fun _ _ => intItems_at), fun v h' tk hP hk => ?_⟩
  have hv : (intItems xs)[argBest (fun i j => decide (numAt xs i > numAt xs j)) (xs.size - 1)]? = some v := by simpa [intItems] using hP
  obtain ⟨t, rfl⟩ := intItems_at hv
  obtain ⟨h1, h2⟩ := argBest_gt (numAt xs) (xs.size - 1)
  refine h h' tk _ t (old_tk hk) ?_ fun a ha => ?_
  · rw [numAt_eq]; exact PySem.getD_mem (by rw [List.length_map, Array.length_toList]; omega)
  · obtain ⟨j, hj, rfl⟩ := mem_getD ha
    rw [List.length_map, Array.length_toList] at hj
    rw [← numAt_eq]; exact h2 j (by omega)
end
section
variable {X : Cx}
def rSumT (K : PySem.W.Frag) : List V → Hp → VK → Prop := fun vs H Q => ∃ (a : Addr) (ns : List Int), vs = [V.ref a] ∧ SqT K H a (ns.map V.int) ∧ Q (.int ns.sum) H
def rMaxT (K : PySem.W.Frag) : List V → Hp → VK → Prop := fun vs H Q => ∃ (a : Addr) (ns : List Int), vs = [V.ref a] ∧ SqT K H a (ns.map V.int) ∧ 0 < ns.length ∧ ∀ m, m ∈ ns → (∀ y, y ∈ ns → y ≤ m) → Q (.int m) H
theorem cr_sumT (hc : X.calm = true) : CallR X (.builtin "sum") (rSumT X.K) := by
  intro pins s σ H vs us Q I r h
  obtain ⟨a, ns, rfl, hs, q⟩ := h
  obtain ⟨its, rv, hl, _⟩ := I.tuple hs
  rw [Vals.ref1 r]
  exact tsum_raw (I.ok.hd hc) hl rv.ints fun h' tk t' hk => ⟨.int _, H, I.kept hk, ⟨_, rfl⟩, q⟩
theorem cr_maxT (hc : X.calm = true) : CallR X (.builtin "max") (rMaxT X.K) := by
  intro pins s σ H vs us Q I r h
  obtain ⟨a, ns, rfl, hs, hne, q⟩ := h
  obtain ⟨its, rv, hl, _⟩ := I.tuple hs
  rw [Vals.ref1 r]
  exact tmax_raw (I.ok.hd hc) hl rv.ints hne fun h' tk m t' hk h1 h2 => ⟨.int _, H, I.kept hk, ⟨_, rfl⟩, q m h1 h2⟩
end
end Hx
set_option Elab.async false
set_option linter.all false
set_option maxRecDepth 100000
set_option maxHeartbeats 1000000
/-! operations on values: what the interpreter says is what the rules ask -/
namespace Hw
open PySem PySem.Spec PyProof.Rows L2

/-- a tree that is seen at a value -/
def RepW (K : PySem.W.Frag) (H : Hp) (f : Fp) (t : Tr) (v : V) : Prop := ∃ g, Rep K H f t v g
/-- what is owned stands -/
def Alc (H : Hp) (f : Fp) : Prop := ∀ a, 1 ≤ f a → ∃ o, H a = some o
theorem Alc.zero {H : Hp} {f : Fp} {p : Addr} (h : Alc H f) (n : H p = none) : f p = 0 := by
  cases q : f p with
  | zero => rfl
  | succ k =>
    obtain ⟨o, e⟩ := h p (by omega)
    rw [n] at e; cases e
/-- a new value: what stood stands, what is owned besides is new -/
def New (K : PySem.W.Frag) (H : Hp) (f : Fp) (H' : Hp) (f' : Fp) (t : Tr) (v : V) : Prop :=
  Ext H H' ∧ ∃ g, Rep K H' f' t v g ∧ (∀ a, f' a = f a + g a) ∧ ∀ a, 1 ≤ g a → g a ≤ 1 ∧ H a = none ∧ ∃ o, H' a = some o
section
variable {K : PySem.W.Frag} {H H' : Hp} {f f' pr : Fp}
theorem New.stp {t : Tr} {v : V} (n : New K H f H' f' t v) (pr : Fp) : Stp H f pr H' f' := by
  obtain ⟨e, g, r, hf, hg⟩ := n
  refine ⟨fun a o h h0 => ⟨e a o h, ?_⟩, fun a o _ h => e a o h⟩
  rw [hf a, h0, Nat.zero_add]
  cases q : g a with
  | zero => rfl
  | succ k =>
    obtain ⟨_, z, _⟩ := hg a (by omega)
    rw [h] at z; cases z
theorem New.alc {t : Tr} {v : V} (n : New K H f H' f' t v) (h : Alc H f) : Alc H' f' := by
  obtain ⟨e, g, r, hf, hg⟩ := n
  intro a ha
  rw [hf a] at ha
  by_cases q : 1 ≤ g a
  · exact (hg a q).2.2
  · obtain ⟨o, ho⟩ := h a (by omega)
    exact ⟨o, e a o ho⟩
theorem New.le1 {t : Tr} {v : V} (n : New K H f H' f' t v) (h : Alc H f) (h1 : ∀ a, f a ≤ 1) : ∀ a, f' a ≤ 1 := by
  obtain ⟨e, g, r, hf, hg⟩ := n
  intro a
  rw [hf a]
  by_cases q : 1 ≤ g a
  · obtain ⟨q1, q2, _⟩ := hg a q
    have := h.zero q2
    omega
  · have := h1 a
    omega
theorem New.flat {d : PyData} {v : V} (h : Dr K (mn H f) d v) : New K H f H f (.c d) v :=
  ⟨Ext.refl H, fun _ => 0, by unfold Rep; exact h, fun a => by simp, fun a z => by simp at z⟩
theorem New.int (i : Int) : New K H f H f (iT i) (.int i) := New.flat (by unfold Dr; rfl)
theorem New.bool (b : Bool) : New K H f H f (bT b) (.bl b) := New.flat (by unfold Dr; rfl)
theorem New.str (x : Str) : New K H f H f (.c (.str x)) (.str x) := New.flat (by unfold Dr; rfl)
theorem mn_new {p : Addr} {o : HO} (n : H p = none) (h : Alc H f) : Ext (mn H f) (mn (upd H p o) f) := fun a u e => by
  obtain ⟨e0, e⟩ := mn_some e
  exact mn_of e0 (Ext.new n a u e)
theorem New.tup {p : Addr} {ds : List PyData} {xs : List V} (n : H p = none) (h : Alc H f) (d : DrL K (mn H f) ds xs) : New K H f (upd H p (.tup xs)) f (.c (.tuple ds)) (.ref p) := by
  refine ⟨Ext.new n, fun _ => 0, ?_, fun a => by simp, fun a z => by simp at z⟩
  unfold Rep Dr
  exact ⟨p, xs, rfl, mn_of (h.zero n) upd_same, DrL.ext (mn_new n h) d⟩
theorem RepL.settled : ∀ {ds : List PyData} {xs : List V}, DrL K (mn H f) ds xs → RepL K H f (ds.map .c) xs (fun _ => 0)
  | [], _, h => by unfold DrL at h; rw [h]; show RepL K H f [] _ _; unfold RepL; rfl
  | d :: ds, _, h => by
    unfold DrL at h
    obtain ⟨v, r, rfl, h1, h2⟩ := h
    show RepL K H f (.c d :: ds.map .c) _ _
    unfold RepL
    exact ⟨v, r, fun _ => 0, fun _ => 0, rfl, by unfold Rep; exact h1, RepL.settled h2, fun _ => Nat.le_refl _⟩
theorem mn_lnew {p : Addr} {o : HO} (n : H p = none) (h : Alc H f) : Ext (mn H f) (mn (upd H p o) fun a => f a + one p a) := fun a u e => by
  obtain ⟨e0, e⟩ := mn_some e
  have hp : a ≠ p := ne_of_none e n
  refine mn_of ?_ (Ext.new n a u e)
  show f a + one p a = 0
  rw [e0, one_ne hp]
theorem New.lst {p : Addr} {ds : List PyData} {xs : List V} (n : H p = none) (h : Alc H f) (d : DrL K (mn H f) ds xs) : New K H f (upd H p (.lst xs)) (fun a => f a + one p a) (lT ds) (.ref p) := by
  refine ⟨Ext.new n, one p, ?_, fun a => rfl, fun a z => ?_⟩
  · unfold lT Rep
    exact ⟨p, xs, fun _ => 0, rfl, upd_same, RepL.settled (DrL.ext (mn_lnew n h) d), fun a => by simp⟩
  · by_cases q : a = p
    · subst q
      exact ⟨by rw [one_self]; exact Nat.le_refl _, n, _, upd_same⟩
    · rw [one_ne q] at z; omega

/-! ### what is seen -/
theorem asInt_rep {t : Tr} {v : V} {i : Int} (r : RepW K H f t v) (e : asInt t = some i) : v = .int i := by
  obtain ⟨g, r⟩ := r
  unfold asInt at e
  split at e
  · cases e; unfold Rep Dr at r; exact r
  · cases e
theorem asStr_rep {t : Tr} {v : V} {x : Str} (r : RepW K H f t v) (e : asStr t = some x) : v = .str x := by
  obtain ⟨g, r⟩ := r
  unfold asStr at e
  split at e
  · cases e; unfold Rep Dr at r; exact r
  · cases e
theorem asBool_rep {t : Tr} {v : V} {b : Bool} (r : RepW K H f t v) (e : asBool t = some b) : v = .bl b := by
  obtain ⟨g, r⟩ := r
  unfold asBool at e
  split at e
  · cases e; unfold Rep Dr at r; exact r
  · cases e
theorem stl_rep : ∀ {xs : List Tr} {vs : List V} {g : Fp} {ds : List PyData}, RepL K H f xs vs g → stl xs = some ds → DrL K (mn H f) ds vs
  | [], _, _, _, h, e => by unfold stl at e; cases e; unfold RepL at h; unfold DrL; exact h
  | .c d :: xs, _, _, _, h, e => by
    unfold stl at e
    obtain ⟨es, e1, e2⟩ := Option.map_eq_some_iff.mp e
    subst e2
    unfold RepL at h
    obtain ⟨v, r, g1, g2, rfl, h1, h2, h3⟩ := h
    unfold Rep at h1
    unfold DrL
    exact ⟨v, r, rfl, h1, stl_rep h2 e1⟩
  | .l _ :: _, _, _, _, _, e => by unfold stl at e; cases e
  | .t _ :: _, _, _, _, _, e => by unfold stl at e; cases e
  | .s _ :: _, _, _, _, _, e => by unfold stl at e; cases e
  | .gone :: _, _, _, _, _, e => by unfold stl at e; cases e
theorem asList_rep {t : Tr} {v : V} {ds : List PyData} (r : RepW K H f t v) (e : asList t = some ds) : ∃ p xs, v = .ref p ∧ H p = some (.lst xs) ∧ DrL K (mn H f) ds xs := by
  obtain ⟨g, r⟩ := r
  unfold asList at e
  split at e
  · cases e
    unfold Rep Dr at r
    obtain ⟨a, xs, rfl, h1, h2⟩ := r
    exact ⟨a, xs, rfl, mn_ext _ _ _ _ h1, h2⟩
  · unfold Rep at r
    obtain ⟨p, vs, g', rfl, h1, h2, _⟩ := r
    exact ⟨p, vs, rfl, h1, stl_rep h2 e⟩
  · cases e
theorem asTup_rep {t : Tr} {v : V} {ds : List PyData} (r : RepW K H f t v) (e : asTup t = some ds) : ∃ p xs, v = .ref p ∧ mn H f p = some (.tup xs) ∧ DrL K (mn H f) ds xs := by
  obtain ⟨g, r⟩ := r
  unfold asTup at e
  split at e
  · cases e
    unfold Rep Dr at r
    obtain ⟨a, xs, rfl, h1, h2⟩ := r
    exact ⟨a, xs, rfl, h1, h2⟩
  · unfold Rep at r
    obtain ⟨p, vs, rfl, h1, h2⟩ := r
    exact ⟨p, vs, rfl, h1, stl_rep h2 e⟩
  · cases e
theorem asSeq_rep {t : Tr} {v : V} {ds : List PyData} (r : RepW K H f t v) (e : asSeq t = some ds) : ∃ p xs, v = .ref p ∧ (H p = some (.lst xs) ∨ mn H f p = some (.tup xs)) ∧ DrL K (mn H f) ds xs := by
  unfold asSeq at e
  split at e
  · rename_i ds' q
    cases e
    obtain ⟨p, xs, h0, h1, h2⟩ := asList_rep r q
    exact ⟨p, xs, h0, .inl h1, h2⟩
  · obtain ⟨p, xs, h0, h1, h2⟩ := asTup_rep r e
    exact ⟨p, xs, h0, .inr h1, h2⟩
theorem script_dr {ns : List Int} : DrL K H (ns.map PyData.int) (ns.map V.int) := by
  induction ns with
  | nil => show DrL K H [] _; unfold DrL; rfl
  | cons n ns ih =>
    show DrL K H (.int n :: ns.map PyData.int) _
    unfold DrL
    exact ⟨.int n, _, rfl, by unfold Dr; rfl, ih⟩
theorem noDictL_ints (ns : List Int) : noDict.noDictL (ns.map PyData.int) = true := by
  induction ns with
  | nil => rfl
  | cons n ns ih => show (noDict (.int n) && noDict.noDictL (ns.map PyData.int)) = true; rw [ih]; rfl
theorem see_dp {t : Tr} {v : V} {d : PyData} (r : RepW K H f t v) (e : see t = some d) (n : noDict d = true) : Dp K H v d := by
  obtain ⟨g, r⟩ := r
  cases t with
  | s ns =>
    unfold see at e; cases e
    unfold Rep at r
    obtain ⟨a, rfl, h⟩ := r
    exact .lst ((mn_ext H f).sql h) (DrL.dp script_dr (noDictL_ints ns))
  | gone => unfold see frz at e; cases e
  | c d' => exact (r.see (by unfold see at e; exact e)).dp n
  | l xs => exact (r.see (by unfold see at e; exact e)).dp n
  | t xs => exact (r.see (by unfold see at e; exact e)).dp n
theorem intsOf_rep : ∀ {ds : List PyData} {ns : List Int} {xs : List V}, intsOf ds = some ns → DrL K H ds xs → xs = ns.map V.int
  | [], _, _, e, h => by unfold intsOf at e; cases e; unfold DrL at h; exact h
  | .int i :: ds, _, _, e, h => by
    unfold intsOf at e
    obtain ⟨ms, e1, e2⟩ := Option.map_eq_some_iff.mp e
    subst e2
    unfold DrL at h
    obtain ⟨v, r, rfl, h1, h2⟩ := h
    unfold Dr at h1
    rw [h1, intsOf_rep e1 h2]; rfl
  | .none :: _, _, _, e, _ => by unfold intsOf at e; cases e
  | .bool _ :: _, _, _, e, _ => by unfold intsOf at e; cases e
  | .str _ :: _, _, _, e, _ => by unfold intsOf at e; cases e
  | .list _ :: _, _, _, e, _ => by unfold intsOf at e; cases e
  | .tuple _ :: _, _, _, e, _ => by unfold intsOf at e; cases e
  | .dict _ :: _, _, _, e, _ => by unfold intsOf at e; cases e
theorem boolsOf_rep : ∀ {ds : List PyData} {ns : List Bool} {xs : List V}, boolsOf ds = some ns → DrL K H ds xs → xs = ns.map V.bl
  | [], _, _, e, h => by unfold boolsOf at e; cases e; unfold DrL at h; exact h
  | .bool i :: ds, _, _, e, h => by
    unfold boolsOf at e
    obtain ⟨ms, e1, e2⟩ := Option.map_eq_some_iff.mp e
    subst e2
    unfold DrL at h
    obtain ⟨v, r, rfl, h1, h2⟩ := h
    unfold Dr at h1
    rw [h1, boolsOf_rep e1 h2]; rfl
  | .none :: _, _, _, e, _ => by unfold boolsOf at e; cases e
  | .int _ :: _, _, _, e, _ => by unfold boolsOf at e; cases e
  | .str _ :: _, _, _, e, _ => by unfold boolsOf at e; cases e
  | .list _ :: _, _, _, e, _ => by unfold boolsOf at e; cases e
  | .tuple _ :: _, _, _, e, _ => by unfold boolsOf at e; cases e
  | .dict _ :: _, _, _, e, _ => by unfold boolsOf at e; cases e
theorem truth_rep {t : Tr} {v : V} {b : Bool} (r : RepW K H f t v) (e : truth t = some b) : TruV K v H b := by
  obtain ⟨g, r⟩ := r
  have em : ∀ {ds : List PyData} {xs : List V}, DrL K (mn H f) ds xs → (!ds.isEmpty) = !xs.isEmpty := fun {ds xs} h => by
    have := h.length
    cases ds <;> cases xs <;> simp_all
  have em2 : ∀ {xs : List Tr} {vs : List V} {g : Fp}, RepL K H f xs vs g → (!xs.isEmpty) = !vs.isEmpty := fun {xs vs g} h => by
    cases xs with
    | nil => unfold RepL at h; rw [h]; rfl
    | cons x xs => unfold RepL at h; obtain ⟨v, r, _, _, rfl, _⟩ := h; rfl
  unfold truth at e
  split at e
  · cases e; unfold Rep Dr at r; subst r; exact rfl
  · cases e; unfold Rep Dr at r; subst r; exact rfl
  · cases e; unfold Rep Dr at r; subst r; exact rfl
  · unfold Rep Dr at r; subst r
    split at e
    · cases e; exact ⟨by assumption, rfl⟩
    · cases e
  · cases e; unfold Rep Dr at r; obtain ⟨a, xs, rfl, h1, h2⟩ := r
    exact .inl ⟨xs, SqL.of (mn_ext _ _ _ _ h1), em h2⟩
  · cases e; unfold Rep Dr at r; obtain ⟨a, xs, rfl, h1, h2⟩ := r
    exact .inr (.inl ⟨xs, SqT.of (mn_ext _ _ _ _ h1), em h2⟩)
  · cases e; unfold Rep at r; obtain ⟨p, vs, g', rfl, h1, h2, _⟩ := r
    exact .inl ⟨vs, SqL.of h1, em2 h2⟩
  · cases e; unfold Rep at r; obtain ⟨p, vs, rfl, h1, h2⟩ := r
    exact .inr (.inl ⟨vs, SqT.of (mn_ext _ _ _ _ h1), em2 h2⟩)
  · cases e; unfold Rep at r; obtain ⟨a, rfl, h⟩ := r
    rename_i ns
    exact .inl ⟨_, (mn_ext H f).sql h, by cases ns <;> rfl⟩
  · cases e
end

/-! ### the operators -/
section
variable {X : Cx} {H : Hp} {f : Fp} {a b t : Tr} {x y : V} {Q : VK}
def rAdd4 (K : PySem.W.Frag) : R2 := fun x y H Q => rI0 (fun i j => .int (i + j)) x y H Q ∨ rCat x y H Q ∨ rCatA K x y H Q ∨ (∃ i j, x = .str i ∧ y = .str j ∧ i.length + j.length ≤ sizeLine ∧ Q (.str (i ++ j)) H)
theorem op_add4 : OpR X (binaryOp .Add) (rAdd4 X.K) := op_add.or (op_cat.or (op_catA.or op_add_str))
theorem add_ok {K : PySem.W.Frag} (al : Alc H f) (ra : RepW K H f a x) (rb : RepW K H f b y) (e : addEv a b = some t) (q : ∀ v H' f', New K H f H' f' t v → Q v H') : rAdd4 K x y H Q := by
  unfold addEv at e
  split at e
  · rename_i i j e1 e2
    cases e
    exact .inl ⟨i, j, asInt_rep ra e1, asInt_rep rb e2, q _ _ _ (New.int _)⟩
  · split at e
    · rename_i xs ys e1 e2
      split at e
      · rename_i hl
        cases e
        obtain ⟨p, vs, rfl, h1, d1⟩ := asList_rep ra e1
        obtain ⟨p2, vs2, rfl, h2, d2⟩ := asList_rep rb e2
        exact .inr (.inl ⟨p, p2, vs, vs2, rfl, rfl, h1, h2, by rw [d1.length, d2.length]; exact hl, fun l hl => q _ _ _ (New.lst hl al (d1.append d2))⟩)
      · cases e
    · split at e
      · rename_i xs ys e1 e2
        split at e
        · rename_i hl
          cases e
          obtain ⟨p, vs, rfl, h1, d1⟩ := asTup_rep ra e1
          obtain ⟨p2, vs2, rfl, h2, d2⟩ := asTup_rep rb e2
          refine .inr (.inr (.inl ⟨p, p2, vs, vs2, rfl, rfl, SqT.of (mn_ext _ _ _ _ h1), SqT.of (mn_ext _ _ _ _ h2), by rw [d1.length, d2.length]; exact hl, fun z => ?_, fun z1 z2 => ?_, fun _ _ l hl => q _ _ _ (New.tup hl al (d1.append d2))⟩))
          · subst z
            have : xs = [] := List.eq_nil_of_length_eq_zero (by have := d1.length; simpa using this.symm)
            subst this
            exact q _ _ _ (New.flat (by unfold Dr; exact ⟨p2, vs2, rfl, h2, d2⟩))
          · subst z2
            have : ys = [] := List.eq_nil_of_length_eq_zero (by have := d2.length; simpa using this.symm)
            subst this
            rw [List.append_nil] at q
            exact q _ _ _ (New.flat (by unfold Dr; exact ⟨p, vs, rfl, h1, d1⟩))
        · cases e
      · split at e
        · rename_i u w e1 e2
          split at e
          · rename_i hl
            cases e
            exact .inr (.inr (.inr ⟨u, w, asStr_rep ra e1, asStr_rep rb e2, hl, q _ _ _ (New.str _)⟩))
          · cases e
        · cases e
theorem int2_ok {K : PySem.W.Frag} {g : Int → Int → Option Int} (ra : RepW K H f a x) (rb : RepW K H f b y) (e : int2 g a b = some t) : ∃ i j k, x = .int i ∧ y = .int j ∧ g i j = some k ∧ t = iT k := by
  unfold int2 at e
  split at e
  · rename_i i j e1 e2
    obtain ⟨k, e3, e4⟩ := Option.map_eq_some_iff.mp e
    exact ⟨i, j, k, asInt_rep ra e1, asInt_rep rb e2, e3, e4.symm⟩
  · cases e
theorem RepL.flatten {K : PySem.W.Frag} {H : Hp} {ds : List PyData} {xs : List V} (h : DrL K H ds xs) : ∀ n : Nat, DrL K H (List.replicate n ds).flatten (List.replicate n xs).flatten
  | 0 => by show DrL K H [] []; unfold DrL; rfl
  | n + 1 => by
    rw [List.replicate_succ, List.replicate_succ, List.flatten_cons, List.flatten_cons]
    exact h.append (RepL.flatten h n)
end
/-! ### t * k, any k -/
theorem tuple_mul1 (l : Addr) (items : Array Value) (n : Nat) (dd : Option Addr) (sl : Array (Option Value)) (u : Tok) :
    Meets (Builtin.«tuple.__mul__» ⟨[.ref l, .int 1 u], []⟩) (fun _ R s => s.heap.get? l = some { cls := .type "tuple", dict := dd, data := .seq items n, slots := sl } ∧
      R (.ok (.ret (Value.ref l))) s) :=
  .of_wp fun prog w A R s h => by
    obtain ⟨hp, g, d, tk, os⟩ := s
    obtain ⟨hl, h⟩ := h
    have f1 := AutoSeq1.idx_int
    wp_walk using wpAny_loadPart' hl
    exact ⟨_, rfl, h⟩
theorem tuple_mul0 (l : Addr) (items : Array Value) (n : Nat) (dd : Option Addr) (sl : Array (Option Value)) (x : Int) (u : Tok) (c0 : (decide (x < -(2 ^ 63)) || decide (x ≥ 2 ^ 63)) = false) (c1 : (items.isEmpty || x == 1) = false) (c2 : (decide (x ≤ 0) || items.isEmpty) = true) :
    Meets (Builtin.«tuple.__mul__» ⟨[.ref l, .int x u], []⟩) (fun _ R s => s.heap.get? l = some { cls := .type "tuple", dict := dd, data := .seq items n, slots := sl } ∧
      R (.ok (.ret (Value.ref s.heap.objs.size))) { s with heap := s.heap.push { cls := Value.type "tuple", data := Data.seq #[] }, toks := s.toks }) :=
  .of_wp fun prog w A R s h => by
    obtain ⟨hp, g, d, tk, os⟩ := s
    obtain ⟨hl, h⟩ := h
    have f1 := AutoSeq1.idx_int
    wp_walk using wpAny_loadPart' hl
    repeat (first
      | (refine wpAny_ite_false (decide_eq_false (by rw [c0]; exact Bool.false_ne_true)) ?_; wp_walk using wpAny_loadPart' hl)
      | (refine wpAny_ite_false (decide_eq_false (by rw [c1]; exact Bool.false_ne_true)) ?_; wp_walk using wpAny_loadPart' hl)
      | (refine wpAny_ite_true (decide_eq_true c2) ?_; wp_walk using wpAny_loadPart' hl))
    exact ⟨_, rfl, h⟩
def rRepA (K : PySem.W.Frag) : R2 := fun x y H Q => ∃ l k xs, x = .ref l ∧ y = .int k ∧ SqT K H l xs ∧ xs ≠ [] ∧ -(2 ^ 31) ≤ k ∧ k ≤ 2 ^ 31 ∧ xs.length * k.toNat ≤ sizeLine ∧
  (k = 1 → Q (.ref l) H) ∧ (k ≠ 1 → ∀ p, H p = none → Q (.ref p) (upd H p (.tup (List.replicate k.toNat xs).flatten)))
theorem op_repA {X : Cx} : OpR X (binaryOp .Mult) (rRepA X.K) := by
  intro pins s σ H x y v u Q I rx ry h
  obtain ⟨l, k, xs, rfl, rfl, hT, hne, h1, h2, hz, q1, q⟩ := h
  cases rx
  obtain ⟨t, rfl⟩ := ry
  obtain ⟨its, r, ⟨⟨cls, dd, data, sl⟩, ho, hc, n, hd⟩, hs⟩ := I.tuple hT
  simp only at hc hd
  subst hc hd
  have hle : its.length = xs.length := r.length.symm
  have hn : its ≠ [] := fun e => hne (by
    rw [e] at hle
    exact List.eq_nil_of_length_eq_zero hle.symm)
  have hi : its.toArray.isEmpty = false := by
    cases its with
    | nil => exact absurd rfl hn
    | cons a b => rfl
  have hsz0 : its.toArray.size = xs.length := by rw [List.size_toArray, hle]
  have c0 : (decide (k < -(2 ^ 63)) || decide (k ≥ 2 ^ 63)) = false := by
    rw [decide_eq_false (by omega), decide_eq_false (by omega)] <;> rfl
  by_cases k1 : k = 1
  · subst k1
    exact wpAny_binaryOp_repeat_ref (T := "tuple") (U := "int") (by decide) ⟨_, ho, rfl⟩ (fun s' => typeIs_int s' 1 t) noFill_tuple_mul F.fills_int_mul F.slot_int_rmul repeat_tuple F.slot_int_index.lookup
      (call_meets F.slot_int_rmul (typeIs_int s 1 t) F.entry_int_rmul (F.args_int_rmul_2 _ _) (int_rmul_tuple 1 t l its.toArray n dd sl)
        ⟨ho, rfl, ⟨_, ho, rfl⟩, call_meets F.slot_tuple_mul ⟨_, ho, rfl⟩ F.entry_tuple_mul (F.args_tuple_mul_2 _ _) (tuple_mul1 l its.toArray n dd sl t) ⟨ho, ⟨.ref l, H, I, rfl, q1 rfl⟩⟩⟩)
  have c1 : (its.toArray.isEmpty || k == 1) = false := by
    rw [hi, Bool.false_or]
    exact beq_eq_false_iff_ne.mpr k1
  by_cases k0 : k ≤ 0
  · have c2 : (decide (k ≤ 0) || its.toArray.isEmpty) = true := by rw [decide_eq_true k0]; rfl
    refine wpAny_binaryOp_repeat_ref (T := "tuple") (U := "int") (by decide) ⟨_, ho, rfl⟩ (fun s' => typeIs_int s' k t) noFill_tuple_mul F.fills_int_mul F.slot_int_rmul repeat_tuple F.slot_int_index.lookup
      (call_meets F.slot_int_rmul (typeIs_int s k t) F.entry_int_rmul (F.args_int_rmul_2 _ _) (int_rmul_tuple k t l its.toArray n dd sl)
        ⟨ho, rfl, ⟨_, ho, rfl⟩, call_meets F.slot_tuple_mul ⟨_, ho, rfl⟩ F.entry_tuple_mul (F.args_tuple_mul_2 _ _) (tuple_mul0 l its.toArray n dd sl k t c0 c1 c2) ⟨ho, ?_⟩⟩)
    have e0 : k.toNat = 0 := by omega
    have q' := q k1
    rw [e0] at q'
    exact ⟨.ref s.heap.objs.size, _, I.laid (t' := s.toks) (o := .tup (List.replicate 0 xs).flatten) (fun b ob q => Heap.get?_push_of_some _ q) (Nat.le_refl _) ⟨Nat.zero_le _, [], .nil, IsTup.new _ _⟩, rfl, q' _ (I.hok.fresh (Nat.le_refl _))⟩
  have flen : (List.replicate k.toNat its).flatten.length ≤ sizeLine := by
    rw [PyProof.Rows.lm_len_rep_flat, hle, Nat.mul_comm]
    exact hz
  have hm : ((its.toArray.size : Nat) : Int) * k ≤ 16777216 := by
    rw [hsz0]
    have e : k = ((k.toNat : Nat) : Int) := by omega
    rw [e, ← Int.natCast_mul]
    rw [sizeLine_eq] at hz
    omega
  have c2 : (decide (k ≤ 0) || its.toArray.isEmpty) = false := by
    rw [hi, Bool.or_false]
    exact decide_eq_false k0
  have c4 : Builtin.Tuple.tupleTooMany (((its.toArray.size : Nat) : Int) * k) = false := by
    unfold Builtin.Tuple.tupleTooMany
    rw [sizeLine_eq]
    exact decide_eq_false (by omega)
  refine wpAny_binaryOp_repeat_ref (T := "tuple") (U := "int") (by decide) ⟨_, ho, rfl⟩ (fun s' => typeIs_int s' k t) noFill_tuple_mul F.fills_int_mul F.slot_int_rmul repeat_tuple F.slot_int_index.lookup
    (call_meets F.slot_int_rmul (typeIs_int s k t) F.entry_int_rmul (F.args_int_rmul_2 _ _) (int_rmul_tuple k t l its.toArray n dd sl)
      ⟨ho, rfl, ⟨_, ho, rfl⟩, call_meets F.slot_tuple_mul ⟨_, ho, rfl⟩ F.entry_tuple_mul (F.args_tuple_mul_2 _ _) (tuple_mulW l its.toArray n dd sl k t c0 c1 c2 (by omega) c4 (by rw [size_rep, List.size_toArray]; exact flen)) ⟨ho, ?_⟩⟩)
  rw [size_rep]
  refine ⟨.ref s.heap.objs.size, _, I.laid (t' := s.toks) (o := .tup (List.replicate k.toNat xs).flatten) (fun b ob q => Heap.get?_push_of_some _ q) (Nat.le_refl _) ?_, rfl, q k1 _ (I.hok.fresh (Nat.le_refl _))⟩
  exact ⟨by rw [PyProof.Rows.lm_len_rep_flat, Nat.mul_comm]; exact hz, _, r.rep k.toNat, IsTup.new _ _⟩

section
variable {X : Cx} {H : Hp} {f : Fp} {a b t : Tr} {x y : V} {Q : VK} {K : PySem.W.Frag}
def rMul4 (K : PySem.W.Frag) : R2 := fun x y H Q => rI CMulW (fun i j => .int (i * j)) x y H Q ∨ rRep x y H Q ∨ rRepA K x y H Q
theorem op_mul4 : OpR X (binaryOp .Mult) (rMul4 X.K) := op_mulW.or (op_rep.or op_repA)
theorem mul_ok (al : Alc H f) (ra : RepW K H f a x) (rb : RepW K H f b y) (e : mulEv a b = some t) (q : ∀ v H' f', New K H f H' f' t v → Q v H') : rMul4 K x y H Q := by
  unfold mulEv at e
  split at e
  · rename_i k e1
    split at e
    · rename_i i e2
      split at e
      · rename_i hl
        cases e
        exact .inl ⟨i, k, asInt_rep ra e2, asInt_rep rb e1, hl, q _ _ _ (New.int _)⟩
      · cases e
    · split at e
      · rename_i xs e2
        split at e
        · rename_i hl
          cases e
          obtain ⟨p, vs, rfl, h1, d1⟩ := asList_rep ra e2
          exact .inr (.inl ⟨p, k, vs, rfl, asInt_rep rb e1, h1, (okR_63 hl.1).1, (okR_63 hl.1).2, by rw [d1.length]; exact hl.2, fun l hl => q _ _ _ (New.lst hl al (RepL.flatten d1 _))⟩)
        · cases e
      · split at e
        · rename_i xs e2
          split at e
          · rename_i hl
            cases e
            obtain ⟨p, vs, rfl, h1, d1⟩ := asTup_rep ra e2
            refine .inr (.inr ⟨p, k, vs, rfl, asInt_rep rb e1, SqT.of (mn_ext _ _ _ _ h1), fun z => hl.1 ?_, (okR_31 hl.2.1).1, (okR_31 hl.2.1).2, by rw [d1.length]; exact hl.2.2, fun k1 => ?_, fun _ l hl => q _ _ _ (New.tup hl al (RepL.flatten d1 _))⟩)
            · subst z
              exact List.eq_nil_of_length_eq_zero (by have := d1.length; simpa using this.symm)
            · subst k1
              have e0 : (List.replicate (1 : Int).toNat xs).flatten = xs := by show (List.replicate 1 xs).flatten = xs; simp
              rw [e0] at q
              exact q _ _ _ (New.flat (by unfold Dr; exact ⟨p, vs, rfl, h1, d1⟩))
          · cases e
        · cases e
  · cases e
/-! #### items, slices -/
theorem atI_map {α β : Type} (g : α → β) (xs : List α) (i : Int) : atI (xs.map g) i = (atI xs i).map g := by
  unfold atI
  rw [List.length_map]
  cases ixN xs.length i with
  | none => rfl
  | some j => simp
theorem atI_rep {ds : List PyData} {xs : List V} {i : Int} {d : PyData} (h : DrL K H ds xs) (e : atI ds i = some d) : ∃ v, atI xs i = some v ∧ Dr K H d v := by
  unfold atI at e ⊢
  rw [h.length]
  cases q : ixN ds.length i with
  | none => rw [q] at e; cases e
  | some j =>
    rw [q] at e
    exact h.get e
theorem ix_ok (ra : RepW K H f a x) (rb : RepW K H f b y) (e : ixEv a b = some t) (q : ∀ v H' f', New K H f H' f' t v → Q v H') : rIx K x y H Q := by
  unfold ixEv at e
  split at e
  · rename_i i e1
    have hy := asInt_rep rb e1
    subst hy
    split at e
    · rename_i ns
      obtain ⟨n, e2, rfl⟩ := Option.map_eq_some_iff.mp e
      obtain ⟨g, r⟩ := ra
      unfold Rep at r
      obtain ⟨p, rfl, h⟩ := r
      exact .inl ⟨p, _, i, .int n, rfl, rfl, (mn_ext H f).sql h, by rw [atI_map, e2]; rfl, q _ _ _ (New.int _)⟩
    · split at e
      · rename_i xs e2
        obtain ⟨d, e3, rfl⟩ := Option.map_eq_some_iff.mp e
        obtain ⟨p, vs, rfl, h1, d1⟩ := asSeq_rep ra e2
        obtain ⟨v, e4, d2⟩ := atI_rep d1 e3
        rcases h1 with h1 | h1
        · exact .inl ⟨p, vs, i, v, rfl, rfl, SqL.of h1, e4, q _ _ _ (New.flat d2)⟩
        · exact .inr (.inl ⟨p, vs, i, v, rfl, rfl, SqT.of (mn_ext _ _ _ _ h1), e4, q _ _ _ (New.flat d2)⟩)
      · split at e
        · rename_i z e2
          split at e
          · rename_i hl
            obtain ⟨c, e3, rfl⟩ := Option.map_eq_some_iff.mp e
            exact .inr (.inr ⟨z, i, c, asStr_rep ra e2, rfl, hl, e3, q _ _ _ (New.str _)⟩)
          · cases e
        · cases e
  · cases e
theorem DrL.take {ds : List PyData} {xs : List V} (h : DrL K H ds xs) (n : Nat) : DrL K H (ds.take n) (xs.take n) := by
  refine DrL.of_get (by rw [List.length_take, List.length_take, h.length]) fun i d v e1 e2 => ?_
  rw [List.getElem?_take] at e1 e2
  split at e1
  · rename_i hi
    rw [if_pos hi] at e2
    obtain ⟨w, e3, e4⟩ := h.get e1
    rw [e2] at e3; cases e3; exact e4
  · cases e1
theorem DrL.drop {ds : List PyData} {xs : List V} (h : DrL K H ds xs) (n : Nat) : DrL K H (ds.drop n) (xs.drop n) := by
  refine DrL.of_get (by rw [List.length_drop, List.length_drop, h.length]) fun i d v e1 e2 => ?_
  rw [List.getElem?_drop] at e1 e2
  obtain ⟨w, e3, e4⟩ := h.get e1
  rw [e2] at e3; cases e3; exact e4
theorem DrL.reverse {ds : List PyData} {xs : List V} (h : DrL K H ds xs) : DrL K H ds.reverse xs.reverse := by
  refine DrL.of_get (by rw [List.length_reverse, List.length_reverse, h.length]) fun i d v e1 e2 => ?_
  have hi : i < ds.length := by have := (List.getElem?_eq_some_iff.mp e1).1; simpa using this
  rw [List.getElem?_reverse hi] at e1
  rw [List.getElem?_reverse (by rw [h.length]; exact hi), h.length] at e2
  obtain ⟨w, e3, e4⟩ := h.get e1
  rw [e2] at e3; cases e3; exact e4
theorem DrL.cut {ds : List PyData} {xs : List V} (h : DrL K H ds xs) (lo hi : Option Int) : DrL K H (cutD ds lo hi) (cutV xs lo hi) := by
  unfold cutD cutV
  rw [h.length]
  exact (h.drop _).take _
def rSl2 (K : PySem.W.Frag) : V → Option Int → Option Int → Hp → VK → Prop := fun x lo hi H Q => rSlL K x lo hi H Q ∨ rSlA K x lo hi H Q
theorem sl_2 : SlR X (rSl2 X.K) := sl_list.or sl_tupA
theorem sl_ok {lo hi : Option Int} (al : Alc H f) (ra : RepW K H f a x) (e : slEv a lo hi = some t) (q : ∀ v H' f', New K H f H' f' t v → Q v H') : rSl2 K x lo hi H Q := by
  unfold slEv at e
  split at e
  · rename_i xs e1
    cases e
    obtain ⟨p, vs, rfl, h1, d1⟩ := asList_rep ra e1
    exact .inl ⟨p, vs, rfl, SqL.of h1, fun l hl => q _ _ _ (New.lst hl al (d1.cut lo hi))⟩
  · split at e
    · rename_i xs e1
      cases e
      obtain ⟨p, vs, rfl, h1, d1⟩ := asTup_rep ra e1
      refine .inr ⟨p, vs, rfl, SqT.of (mn_ext _ _ _ _ h1), fun z => ?_, fun _ l hl => q _ _ _ (New.tup hl al (d1.cut lo hi))⟩
      have e0 : cutD xs lo hi = xs := by
        unfold cutD
        rw [← d1.length, z.1, z.2, List.drop_zero, Nat.sub_zero, d1.length]
        exact List.take_length
      rw [e0] at q
      exact q _ _ _ (New.flat (by unfold Dr; exact ⟨p, vs, rfl, h1, d1⟩))
    · cases e
/-! #### comparisons -/
theorem eqv_flat {d e : PyData} {v w : V} (hd : Dr K H d v) (he : Dr K H e w) (fd : flatD d = true) (fe : flatD e = true) : PyData.eqv d e = eqV v w := by
  cases d <;> first | (unfold flatD at fd; cases fd; done) | (cases e <;> first | (unfold flatD at fe; cases fe; done) | (unfold Dr at hd he; subst hd; subst he; rfl))
theorem flat_v {d : PyData} {v : V} (hd : Dr K H d v) (fd : flatD d = true) : flatV v = true := by
  cases d <;> first | (unfold flatD at fd; cases fd; done) | (unfold Dr at hd; subst hd; rfl)
theorem flats_v : ∀ {ds : List PyData} {vs : List V}, DrL K H ds vs → ds.all flatD = true → vs.all flatV = true
  | [], _, h, _ => by unfold DrL at h; rw [h]; rfl
  | d :: ds, _, h, f => by
    unfold DrL at h
    obtain ⟨v, r, rfl, h1, h2⟩ := h
    rw [List.all_cons, Bool.and_eq_true] at f
    rw [List.all_cons, flat_v h1 f.1, flats_v h2 f.2]; rfl
theorem any_flat {d : PyData} {v : V} (hd : Dr K H d v) (fd : flatD d = true) : ∀ {ds : List PyData} {vs : List V}, DrL K H ds vs → ds.all flatD = true → (ds.any fun z => PyData.eqv z d) = inV v vs
  | [], _, h, _ => by unfold DrL at h; rw [h]; rfl
  | e :: ds, _, h, f => by
    unfold DrL at h
    obtain ⟨w, r, rfl, h1, h2⟩ := h
    rw [List.all_cons, Bool.and_eq_true] at f
    unfold inV
    rw [List.any_cons, List.any_cons, eqv_flat h1 hd f.1 fd]
    have := any_flat hd fd h2 f.2
    unfold inV at this
    rw [this]
def rCmp (K : PySem.W.Frag) : CmpOp → R2
  | .Eq => fun x y H Q => rEqD K x y H Q ∨ rEq x y H Q
  | .NotEq => fun x y H Q => rNeD K x y H Q ∨ rNe x y H Q
  | .Lt => fun x y H Q => rI0 (fun i j => .bl (decide (i < j))) x y H Q ∨ rLtT K x y H Q
  | .LtE => rI0 fun i j => .bl (decide (i ≤ j))
  | .Gt => rI0 fun i j => .bl (decide (j < i))
  | .GtE => rI0 fun i j => .bl (decide (j ≤ i))
  | .Is => fun x y H Q => (y = .non ∧ Q (.bl (decide (x = .non))) H) ∨ rIsB x y H Q
  | .IsNot => fun x y H Q => (y = .non ∧ Q (.bl (!decide (x = .non))) H) ∨ rNotB x y H Q
  | .In => fun x y H Q => rIn K false x y H Q ∨ rInD K x y H Q
  | .NotIn => fun x y H Q => rIn K true x y H Q ∨ rNotInD K x y H Q
theorem op_cmp (hu : X.A.units + 65 < cLine) : ∀ o : CmpOp, OpR X (compareOp o) (rCmp X.K o)
  | .Eq => (op_eqD (X := X) (by omega)).or op_eq
  | .NotEq => (op_neD (X := X) (by omega)).or op_ne
  | .Lt => op_lt.or (op_ltT (by omega))
  | .LtE => op_le
  | .Gt => op_gt
  | .GtE => op_ge
  | .Is => op_isN.or op_isBl
  | .IsNot => op_notN.or op_notBl
  | .In => op_in_seq.or (op_inD hu)
  | .NotIn => op_notIn_seq.or (op_notInD hu)
theorem eq_ok0 {r : Bool} (ra : RepW K H f a x) (rb : RepW K H f b y) (e : eqEv0 a b = some r) : ∃ d e, Dp K H x d ∧ Dp K H y e ∧ SeqAt.shaped d = true ∧ SeqAt.shaped e = true ∧ PyData.eqv d e = r := by
  unfold eqEv0 at e
  split at e
  · rename_i d d' e1 e2
    split at e
    · rename_i hp
      cases e
      simp only [plainD, Bool.and_eq_true] at hp
      exact ⟨d, d', see_dp ra e1 hp.1.1, see_dp rb e2 hp.2.1, hp.1.2, hp.2.2, rfl⟩
    · cases e
  · cases e
theorem eq_ok {r : Bool} (ra : RepW K H f a x) (rb : RepW K H f b y) (e : eqEv a b = some r) : (∃ d e, Dp K H x d ∧ Dp K H y e ∧ SeqAt.shaped d = true ∧ SeqAt.shaped e = true ∧ PyData.eqv d e = r) ∨ ∃ u v, x = .str u ∧ y = .str v ∧ decide (u = v) = r := by
  unfold eqEv at e
  split at e
  · rename_i u v e1 e2
    cases e
    exact .inr ⟨u, v, asStr_rep ra e1, asStr_rep rb e2, rfl⟩
  · exact .inl (eq_ok0 ra rb e)
theorem scal_str {u v : Str} {r : Bool} (h : decide (u = v) = r) : scal (.str u) (.str v) = true ∧ decide (V.str u = V.str v) = r := by
  subst h
  refine ⟨rfl, ?_⟩
  rw [dec_str]
  by_cases e : u = v
  · subst e; simp
  · simp [e]
theorem cmpI_ok {p : Int → Int → Bool} {r : Bool} (ra : RepW K H f a x) (rb : RepW K H f b y) (e : cmpI p a b = some r) : ∃ i j, x = .int i ∧ y = .int j ∧ p i j = r := by
  unfold cmpI at e
  split at e
  · rename_i i j e1 e2
    cases e
    exact ⟨i, j, asInt_rep ra e1, asInt_rep rb e2, rfl⟩
  · cases e
theorem isEv_ok {r : Bool} (ra : RepW K H f a x) (rb : RepW K H f b y) (e : isEv a b = some r) : (y = .non ∧ decide (x = .non) = r) ∨ ∃ i j : Bool, x = .bl i ∧ y = .bl j ∧ decide (i = j) = r := by
  unfold isEv at e
  split at e
  · obtain ⟨g, rb⟩ := rb
    unfold Rep Dr at rb
    refine .inl ⟨rb, ?_⟩
    split at e
    · cases e
      obtain ⟨g, ra⟩ := ra
      unfold Rep Dr at ra
      rw [ra]; rfl
    · cases e
    · rename_i n1 n2
      cases e
      refine decide_eq_false fun z => ?_
      subst z
      obtain ⟨g, ra⟩ := ra
      cases a with
      | gone => exact n2 rfl
      | l xs => unfold Rep at ra; obtain ⟨_, _, _, h, _⟩ := ra; cases h
      | t xs => unfold Rep at ra; obtain ⟨_, _, h, _⟩ := ra; cases h
      | s ns => unfold Rep at ra; obtain ⟨_, h, _⟩ := ra; cases h
      | c d =>
        unfold Rep at ra
        cases d with
        | none => exact n1 rfl
        | bool b => unfold Dr at ra; cases ra
        | int b => unfold Dr at ra; cases ra
        | str b => unfold Dr at ra; cases ra
        | list b => unfold Dr at ra; obtain ⟨_, _, h, _⟩ := ra; cases h
        | tuple b => unfold Dr at ra; obtain ⟨_, _, h, _⟩ := ra; cases h
        | dict b => unfold Dr at ra; obtain ⟨_, h, _⟩ := ra; cases h
  · obtain ⟨g, rb⟩ := rb
    unfold Rep Dr at rb
    split at e
    · rename_i j e1
      cases e
      exact .inr ⟨j, _, asBool_rep ra e1, rb, rfl⟩
    · cases e
  · cases e
theorem inEv_ok {r : Bool} (ra : RepW K H f a x) (rb : RepW K H f b y) (e : inEv a b = some r) :
    (∃ p xs, y = .ref p ∧ (SqL K H p xs ∨ SqT K H p xs) ∧ flatV x = true ∧ xs.all flatV = true ∧ inV x xs = r) ∨
    (∃ d ds, Dp K H x d ∧ Dp K H y (.list ds) ∧ SeqAt.shaped d = true ∧ SeqAt.shaped (.list ds) = true ∧ (ds.any fun z => PyData.eqv z d) = r) := by
  unfold inEv at e
  split at e
  · rename_i d e1
    split at e
    · rename_i ds
      split at e
      · rename_i hp
        cases e
        rw [Bool.and_eq_true] at hp
        obtain ⟨g, rb⟩ := rb
        unfold Rep Dr at rb
        obtain ⟨p, xs, rfl, h1, h2⟩ := rb
        have nd : noDict d = true := by
          cases d <;> first | rfl | (have := hp.1; unfold flatD at this; cases this; done)
        have dx : Dr K H d x := by
          have h := see_dp ra e1 nd
          have h0 := hp.1
          cases d <;> first | (unfold flatD at h0; cases h0; done) | (cases h; unfold Dr; rfl)
        refine .inl ⟨p, xs, rfl, .inr (SqT.of (mn_ext _ _ _ _ h1)), flat_v dx hp.1, flats_v h2 hp.2, ?_⟩
        exact (any_flat dx hp.1 (DrL.ext (mn_ext H f) h2) hp.2).symm
      · cases e
    · split at e
      · rename_i ds e2
        split at e
        · rename_i hp
          cases e
          simp only [plainD, Bool.and_eq_true] at hp
          exact .inr ⟨d, ds, see_dp ra e1 hp.1.1, see_dp rb e2 hp.2.1, hp.1.2, hp.2.2, rfl⟩
        · cases e
      · cases e
  · cases e
theorem cmp_ok {o : CmpOp} {r : Bool} (ra : RepW K H f a x) (rb : RepW K H f b y) (e : cmpEv o a b = some r) (q : Q (.bl r) H) : rCmp K o x y H Q := by
  cases o with
  | Eq =>
    rcases eq_ok ra rb e with ⟨d, e', h1, h2, h3, h4, h5⟩ | ⟨u, v, rfl, rfl, h5⟩
    · exact .inl ⟨d, e', h1, h2, h3, h4, by rw [h5]; exact q⟩
    · exact .inr ⟨(scal_str h5).1, by rw [(scal_str h5).2]; exact q⟩
  | NotEq =>
    obtain ⟨r', e1, rfl⟩ := Option.map_eq_some_iff.mp (show (eqEv a b).map (!·) = some r from e)
    rcases eq_ok ra rb e1 with ⟨d, e', h1, h2, h3, h4, h5⟩ | ⟨u, v, rfl, rfl, h5⟩
    · exact .inl ⟨d, e', h1, h2, h3, h4, by rw [h5]; exact q⟩
    · exact .inr ⟨(scal_str h5).1, by rw [(scal_str h5).2]; exact q⟩
  | Lt =>
    simp only [cmpEv] at e
    split at e
    · rename_i r' e1
      cases e
      obtain ⟨i, j, h1, h2, h3⟩ := cmpI_ok ra rb e1
      exact .inl ⟨i, j, h1, h2, by show Q (.bl (decide (i < j))) H; rw [h3]; exact q⟩
    · unfold ltT at e
      split at e
      · rename_i xs ys e1 e2
        split at e
        · rename_i ns ms e3 e4
          cases e
          obtain ⟨p, vs, rfl, h1, d1⟩ := asTup_rep ra e1
          obtain ⟨p2, vs2, rfl, h2, d2⟩ := asTup_rep rb e2
          refine .inr ⟨p, p2, ns, ms, rfl, rfl, ?_, ?_, q⟩
          · rw [← intsOf_rep e3 d1]; exact SqT.of (mn_ext _ _ _ _ h1)
          · rw [← intsOf_rep e4 d2]; exact SqT.of (mn_ext _ _ _ _ h2)
        · cases e
      · cases e
  | LtE => obtain ⟨i, j, h1, h2, h3⟩ := cmpI_ok ra rb e; exact ⟨i, j, h1, h2, by show Q (.bl (decide (i ≤ j))) H; rw [h3]; exact q⟩
  | Gt => obtain ⟨i, j, h1, h2, h3⟩ := cmpI_ok ra rb e; exact ⟨i, j, h1, h2, by show Q (.bl (decide (j < i))) H; rw [h3]; exact q⟩
  | GtE => obtain ⟨i, j, h1, h2, h3⟩ := cmpI_ok ra rb e; exact ⟨i, j, h1, h2, by show Q (.bl (decide (j ≤ i))) H; rw [h3]; exact q⟩
  | Is =>
    rcases isEv_ok ra rb e with ⟨h1, h2⟩ | ⟨i, j, h1, h2, h3⟩
    · exact .inl ⟨h1, by rw [h2]; exact q⟩
    · exact .inr ⟨i, j, h1, h2, by rw [h3]; exact q⟩
  | IsNot =>
    obtain ⟨r', e1, rfl⟩ := Option.map_eq_some_iff.mp (show (isEv a b).map (!·) = some r from e)
    rcases isEv_ok ra rb e1 with ⟨h1, h2⟩ | ⟨i, j, h1, h2, h3⟩
    · exact .inl ⟨h1, by rw [h2]; exact q⟩
    · exact .inr ⟨i, j, h1, h2, by rw [h3]; exact q⟩
  | In =>
    rcases inEv_ok ra rb e with ⟨p, xs, h0, h1, h2, h3, h4⟩ | ⟨d, ds, h1, h2, h3, h4, h5⟩
    · exact .inl ⟨p, xs, h0, h1, h2, h3, by rw [h4]; exact q⟩
    · exact .inr ⟨d, ds, h1, h2, h3, h4, by rw [h5]; exact q⟩
  | NotIn =>
    obtain ⟨r', e1, rfl⟩ := Option.map_eq_some_iff.mp (show (inEv a b).map (!·) = some r from e)
    rcases inEv_ok ra rb e1 with ⟨p, xs, h0, h1, h2, h3, h4⟩ | ⟨d, ds, h1, h2, h3, h4, h5⟩
    · exact .inl ⟨p, xs, h0, h1, h2, h3, by rw [h4]; exact q⟩
    · exact .inr ⟨d, ds, h1, h2, h3, h4, by rw [h5]; exact q⟩
/-! #### built-ins -/
theorem foldl_max (ns : List Int) : ∀ n : Int, (ns.foldl max n = n ∨ ns.foldl max n ∈ ns) ∧ n ≤ ns.foldl max n ∧ ∀ y ∈ ns, y ≤ ns.foldl max n := by
  induction ns with
  | nil => intro n; exact ⟨.inl rfl, Int.le_refl _, fun _ h => nomatch h⟩
  | cons a r ih =>
    intro n
    obtain ⟨h1, h2, h3⟩ := ih (max n a)
    show ((r.foldl max (max n a)) = n ∨ _) ∧ _
    refine ⟨?_, by show n ≤ r.foldl max (max n a); omega, fun y hy => ?_⟩
    · rcases h1 with h1 | h1
      · show r.foldl max (max n a) = n ∨ r.foldl max (max n a) ∈ a :: r
        rw [h1]
        by_cases q : a ≤ n
        · exact .inl (by omega)
        · exact .inr (by rw [show max n a = a by omega]; exact List.mem_cons_self)
      · exact .inr (List.mem_cons_of_mem _ h1)
    · rcases List.mem_cons.mp hy with rfl | hy
      · show y ≤ r.foldl max (max n y); omega
      · exact h3 y hy
theorem foldl_min (ns : List Int) : ∀ n : Int, (ns.foldl min n = n ∨ ns.foldl min n ∈ ns) ∧ ns.foldl min n ≤ n ∧ ∀ y ∈ ns, ns.foldl min n ≤ y := by
  induction ns with
  | nil => intro n; exact ⟨.inl rfl, Int.le_refl _, fun _ h => nomatch h⟩
  | cons a r ih =>
    intro n
    obtain ⟨h1, h2, h3⟩ := ih (min n a)
    show ((r.foldl min (min n a)) = n ∨ _) ∧ _
    refine ⟨?_, by show r.foldl min (min n a) ≤ n; omega, fun y hy => ?_⟩
    · rcases h1 with h1 | h1
      · show r.foldl min (min n a) = n ∨ r.foldl min (min n a) ∈ a :: r
        rw [h1]
        by_cases q : n ≤ a
        · exact .inl (by omega)
        · exact .inr (by rw [show min n a = a by omega]; exact List.mem_cons_self)
      · exact .inr (List.mem_cons_of_mem _ h1)
    · rcases List.mem_cons.mp hy with rfl | hy
      · show r.foldl min (min n y) ≤ y; omega
      · exact h3 y hy
/-- the built-in's rule -/
def Bi.val : Bi → Value
  | .len => .builtin "len" | .abs => .builtin "abs" | .max2 => .builtin "max" | .min2 => .builtin "min" | .max3 => .builtin "max" | .min3 => .builtin "min" | .max1 => .builtin "max" | .min1 => .builtin "min"
  | .sum => .builtin "sum" | .all => .builtin "all" | .any => .builtin "any" | .tuple => .type "tuple" | .list => .type "list" | .int => .type "int" | .str => .type "str"
def Bi.nm : Bi → Str
  | .len => "len" | .abs => "abs" | .max2 => "max" | .min2 => "min" | .max3 => "max" | .min3 => "min" | .max1 => "max" | .min1 => "min"
  | .sum => "sum" | .all => "all" | .any => "any" | .tuple => "tuple" | .list => "list" | .int => "int" | .str => "str"
def Bi.ar : Bi → Nat
  | .max2 => 2 | .min2 => 2 | .max3 => 3 | .min3 => 3 | _ => 1
abbrev RL := List V → Hp → VK → Prop
def rBi (K : PySem.W.Frag) : Bi → RL
  | .len => fun xs H Q => (∃ p ys, xs = [.ref p] ∧ (SqL K H p ys ∨ SqT K H p ys) ∧ Q (.int ys.length) H) ∨ (∃ z, xs = [.str z] ∧ z.length ≤ sizeLine ∧ Q (.int z.length) H)
  | .abs => fun xs H Q => ∃ i, xs = [.int i] ∧ Q (.int (if i < 0 then -i else i)) H
  | .max2 => fun xs H Q => ∃ i j, xs = [.int i, .int j] ∧ Q (.int (if j > i then j else i)) H
  | .min2 => fun xs H Q => ∃ i j, xs = [.int i, .int j] ∧ Q (.int (if j < i then j else i)) H
  | .max3 => rNuC3 nuMax3
  | .min3 => rNuC3 nuMin3
  | .max1 => fun xs H Q => rMax K xs H Q ∨ Hx.rMaxT K xs H Q
  | .min1 => rMin K
  | .sum => fun xs H Q => rSum K xs H Q ∨ Hx.rSumT K xs H Q
  | .all => rAll K
  | .any => rAny K
  | .tuple => fun xs H Q => ∃ p ys, xs = [.ref p] ∧ ((SqL K H p ys ∧ ∀ l, H l = none → Q (.ref l) (upd H l (.tup ys))) ∨ (SqT K H p ys ∧ Q (.ref p) H))
  | .list => fun xs H Q => ∃ p ys, xs = [.ref p] ∧ (SqL K H p ys ∨ SqT K H p ys) ∧ ∀ l, H l = none → Q (.ref l) (upd H l (.lst ys))
  | .int => fun xs H Q => (∃ i, xs = [.int i] ∧ Q (.int i) H) ∨ ∃ k, xs = [.bl k] ∧ Q (.int (if k then 1 else 0)) H
  | .str => fun xs H Q => ∃ i, xs = [.int i] ∧ i.natAbs.log2 < 1920 ∧ Q (.str (toString i)) H
theorem call_bi (hc : X.calm = true) : ∀ b : Bi, CallR X b.val (rBi X.K b)
  | .len => call_len_seq.or call_len_str
  | .abs => call_abs
  | .max2 => call_max2 hc
  | .min2 => call_min2 hc
  | .max3 => call_max3Nu hc
  | .min3 => call_min3Nu hc
  | .max1 => (cr_max hc).or (Hx.cr_maxT hc)
  | .min1 => cr_min hc
  | .sum => (cr_sum hc).or (Hx.cr_sumT hc)
  | .all => cr_all hc
  | .any => cr_any hc
  | .tuple => call_tuple_of
  | .list => call_list_of
  | .int => call_int1
  | .str => call_str_int
/-- trees seen at values, one by one -/
def RepWs (K : PySem.W.Frag) (H : Hp) (f : Fp) : List Tr → List V → Prop
  | [], vs => vs = []
  | t :: ts, vs => ∃ v r, vs = v :: r ∧ RepW K H f t v ∧ RepWs K H f ts r
theorem RepWs.one {vs : List V} (h : RepWs K H f [a] vs) : ∃ v, vs = [v] ∧ RepW K H f a v := by
  obtain ⟨v, r, rfl, h1, h2⟩ := h
  unfold RepWs at h2
  exact ⟨v, by rw [h2], h1⟩
theorem RepWs.two {vs : List V} (h : RepWs K H f [a, b] vs) : ∃ v w, vs = [v, w] ∧ RepW K H f a v ∧ RepW K H f b w := by
  obtain ⟨v, r, rfl, h1, h2⟩ := h
  obtain ⟨w, rfl, h3⟩ := RepWs.one h2
  exact ⟨v, w, rfl, h1, h3⟩
theorem RepWs.three {c : Tr} {vs : List V} (h : RepWs K H f [a, b, c] vs) : ∃ v w z, vs = [v, w, z] ∧ RepW K H f a v ∧ RepW K H f b w ∧ RepW K H f c z := by
  obtain ⟨v, r, rfl, h1, h2⟩ := h
  obtain ⟨w, z, rfl, h3, h4⟩ := RepWs.two h2
  exact ⟨v, w, z, rfl, h1, h3, h4⟩
theorem nu_max3 (i j k : Int) : nuMax3 (.int i) (.int j) (.int k) = some (.int (if k > (if j > i then j else i) then k else (if j > i then j else i))) := by
  have e : ∀ a b : Int, nuLt (.int a) (.int b) = some (decide (a < b)) := fun _ _ => rfl
  have e2 : ∀ a b : Int, nuMax2 (.int a) (.int b) = some (.int (if b > a then b else a)) := fun a b => by
    unfold nuMax2
    rw [e]
    by_cases h : a < b <;> simp [h]
  unfold nuMax3
  rw [e2]
  exact e2 _ _
theorem nu_min3 (i j k : Int) : nuMin3 (.int i) (.int j) (.int k) = some (.int (if k < (if j < i then j else i) then k else (if j < i then j else i))) := by
  have e : ∀ a b : Int, nuLt (.int a) (.int b) = some (decide (a < b)) := fun _ _ => rfl
  have e2 : ∀ a b : Int, nuMin2 (.int a) (.int b) = some (.int (if b < a then b else a)) := fun a b => by
    unfold nuMin2
    rw [e]
    by_cases h : b < a <;> simp [h]
  unfold nuMin3
  rw [e2]
  exact e2 _ _
theorem see_dr {t : Tr} {v : V} {d : PyData} (r : RepW K H f t v) (e : see t = some d) (n : noLst d = true) : Dr K H d v := by
  obtain ⟨g, r⟩ := r
  cases t with
  | s ns => cases e; cases n
  | c d' => exact Rep.see r (by simpa [see] using e)
  | l xs => exact Rep.see r (by simpa [see] using e)
  | t xs => exact Rep.see r (by simpa [see] using e)
  | gone => unfold see frz at e; cases e
theorem bi_ok {bi : Bi} {ts : List Tr} {vs : List V} (al : Alc H f) (r : RepWs K H f ts vs) (e : biEv bi ts = some t) (q : ∀ v H' f', New K H f H' f' t v → Q v H') : rBi K bi vs H Q := by
  unfold biEv at e
  split at e
  · obtain ⟨v, rfl, rr⟩ := r.one
    split at e
    · cases e
      obtain ⟨g, rr⟩ := rr
      unfold Rep at rr
      obtain ⟨p, rfl, h⟩ := rr
      exact .inl ⟨p, _, rfl, .inl ((mn_ext H f).sql h), by rw [List.length_map]; exact q _ _ _ (New.int _)⟩
    · split at e
      · rename_i xs e1
        cases e
        obtain ⟨p, vs, rfl, h1, d1⟩ := asSeq_rep rr e1
        refine .inl ⟨p, vs, rfl, ?_, by rw [d1.length]; exact q _ _ _ (New.int _)⟩
        rcases h1 with h1 | h1
        · exact .inl (SqL.of h1)
        · exact .inr (SqT.of (mn_ext _ _ _ _ h1))
      · split at e
        · rename_i z e1
          split at e
          · rename_i hl
            cases e
            exact .inr ⟨z, by rw [asStr_rep rr e1], hl, q _ _ _ (New.int _)⟩
          · cases e
        · cases e
  · obtain ⟨v, rfl, rr⟩ := r.one
    obtain ⟨i, e1, rfl⟩ := Option.map_eq_some_iff.mp e
    exact ⟨i, by rw [asInt_rep rr e1], q _ _ _ (New.int _)⟩
  · obtain ⟨v, w, rfl, r1, r2⟩ := r.two
    obtain ⟨i, j, k, rfl, rfl, h, rfl⟩ := int2_ok (K := K) r1 r2 e
    cases h
    exact ⟨i, j, rfl, q _ _ _ (New.int _)⟩
  · obtain ⟨v, w, rfl, r1, r2⟩ := r.two
    obtain ⟨i, j, k, rfl, rfl, h, rfl⟩ := int2_ok (K := K) r1 r2 e
    cases h
    exact ⟨i, j, rfl, q _ _ _ (New.int _)⟩
  · obtain ⟨v, w, z, rfl, r1, r2, r3⟩ := r.three
    split at e
    · rename_i i j k e1 e2 e3
      cases e
      refine ⟨v, w, z, _, rfl, ?_, q _ _ _ (New.int _)⟩
      rw [asInt_rep r1 e1, asInt_rep r2 e2, asInt_rep r3 e3]
      exact nu_max3 i j k
    · cases e
  · obtain ⟨v, w, z, rfl, r1, r2, r3⟩ := r.three
    split at e
    · rename_i i j k e1 e2 e3
      cases e
      refine ⟨v, w, z, _, rfl, ?_, q _ _ _ (New.int _)⟩
      rw [asInt_rep r1 e1, asInt_rep r2 e2, asInt_rep r3 e3]
      exact nu_min3 i j k
    · cases e
  · obtain ⟨v, rfl, rr⟩ := r.one
    split at e
    · rename_i xs e1
      obtain ⟨ns, e2, rfl⟩ := Option.map_eq_some_iff.mp e
      obtain ⟨p, vs, rfl, h1, d1⟩ := asList_rep rr e1
      exact .inl ⟨p, ns, rfl, by rw [← intsOf_rep e2 d1]; exact SqL.of h1, q _ _ _ (New.int _)⟩
    · split at e
      · rename_i xs e1
        obtain ⟨ns, e2, rfl⟩ := Option.map_eq_some_iff.mp e
        obtain ⟨p, vs, rfl, h1, d1⟩ := asTup_rep rr e1
        exact .inr ⟨p, ns, rfl, by rw [← intsOf_rep e2 d1]; exact SqT.of (mn_ext _ _ _ _ h1), q _ _ _ (New.int _)⟩
      · cases e
  · obtain ⟨v, rfl, rr⟩ := r.one
    split at e
    · rename_i xs e1
      split at e
      · rename_i n ns e2
        cases e
        obtain ⟨p, vs, rfl, h1, d1⟩ := asList_rep rr e1
        refine .inl ⟨p, n :: ns, rfl, by rw [← intsOf_rep e2 d1]; exact SqL.of h1, Nat.succ_pos _, fun m hm hle => ?_⟩
        obtain ⟨k1, k2, k3⟩ := foldl_max ns n
        have : m = ns.foldl max n := by
          have a1 : ns.foldl max n ≤ m := by
            rcases k1 with k1 | k1
            · rw [k1]; exact hle n List.mem_cons_self
            · exact hle _ (List.mem_cons_of_mem _ k1)
          have a2 : m ≤ ns.foldl max n := by
            rcases List.mem_cons.mp hm with rfl | hm
            · exact k2
            · exact k3 m hm
          omega
        rw [this]
        exact q _ _ _ (New.int _)
      · cases e
    · split at e
      · rename_i xs e1
        split at e
        · rename_i n ns e2
          cases e
          obtain ⟨p, vs, rfl, h1, d1⟩ := asTup_rep rr e1
          refine .inr ⟨p, n :: ns, rfl, by rw [← intsOf_rep e2 d1]; exact SqT.of (mn_ext _ _ _ _ h1), Nat.succ_pos _, fun m hm hle => ?_⟩
          obtain ⟨k1, k2, k3⟩ := foldl_max ns n
          have : m = ns.foldl max n := by
            have a1 : ns.foldl max n ≤ m := by
              rcases k1 with k1 | k1
              · rw [k1]; exact hle n List.mem_cons_self
              · exact hle _ (List.mem_cons_of_mem _ k1)
            have a2 : m ≤ ns.foldl max n := by
              rcases List.mem_cons.mp hm with rfl | hm
              · exact k2
              · exact k3 m hm
            omega
          rw [this]
          exact q _ _ _ (New.int _)
        · cases e
      · cases e
  · obtain ⟨v, rfl, rr⟩ := r.one
    split at e
    · rename_i xs e1
      split at e
      · rename_i n ns e2
        cases e
        obtain ⟨p, vs, rfl, h1, d1⟩ := asList_rep rr e1
        refine ⟨p, n :: ns, rfl, by rw [← intsOf_rep e2 d1]; exact SqL.of h1, Nat.succ_pos _, fun m hm hle => ?_⟩
        obtain ⟨k1, k2, k3⟩ := foldl_min ns n
        have : m = ns.foldl min n := by
          have a1 : m ≤ ns.foldl min n := by
            rcases k1 with k1 | k1
            · rw [k1]; exact hle n List.mem_cons_self
            · exact hle _ (List.mem_cons_of_mem _ k1)
          have a2 : ns.foldl min n ≤ m := by
            rcases List.mem_cons.mp hm with rfl | hm
            · exact k2
            · exact k3 m hm
          omega
        rw [this]
        exact q _ _ _ (New.int _)
      · cases e
    · cases e
  · obtain ⟨v, rfl, rr⟩ := r.one
    split at e
    · rename_i xs e1
      obtain ⟨ns, e2, rfl⟩ := Option.map_eq_some_iff.mp e
      obtain ⟨p, vs, rfl, h1, d1⟩ := asList_rep rr e1
      exact ⟨p, ns, rfl, by rw [← boolsOf_rep e2 d1]; exact SqL.of h1, q _ _ _ (New.bool _)⟩
    · cases e
  · obtain ⟨v, rfl, rr⟩ := r.one
    split at e
    · rename_i xs e1
      obtain ⟨ns, e2, rfl⟩ := Option.map_eq_some_iff.mp e
      obtain ⟨p, vs, rfl, h1, d1⟩ := asList_rep rr e1
      exact ⟨p, ns, rfl, by rw [← boolsOf_rep e2 d1]; exact SqL.of h1, q _ _ _ (New.bool _)⟩
    · cases e
  · obtain ⟨v, rfl, rr⟩ := r.one
    obtain ⟨xs, e1, rfl⟩ := Option.map_eq_some_iff.mp e
    obtain ⟨p, vs, rfl, h1, d1⟩ := asSeq_rep rr e1
    refine ⟨p, vs, rfl, ?_⟩
    rcases h1 with h1 | h1
    · exact .inl ⟨SqL.of h1, fun l hl => q _ _ _ (New.tup hl al d1)⟩
    · exact .inr ⟨SqT.of (mn_ext _ _ _ _ h1), q _ _ _ (New.flat (by unfold Dr; exact ⟨p, vs, rfl, h1, d1⟩))⟩
  · obtain ⟨v, rfl, rr⟩ := r.one
    obtain ⟨xs, e1, rfl⟩ := Option.map_eq_some_iff.mp e
    obtain ⟨p, vs, rfl, h1, d1⟩ := asSeq_rep rr e1
    refine ⟨p, vs, rfl, ?_, fun l hl => q _ _ _ (New.lst hl al d1)⟩
    rcases h1 with h1 | h1
    · exact .inl (SqL.of h1)
    · exact .inr (SqT.of (mn_ext _ _ _ _ h1))
  · obtain ⟨v, rfl, rr⟩ := r.one
    obtain ⟨g, rr⟩ := rr
    split at e
    · cases e
      unfold Rep Dr at rr; subst rr
      exact .inl ⟨_, rfl, q _ _ _ (New.int _)⟩
    · cases e
      unfold Rep Dr at rr; subst rr
      exact .inr ⟨_, rfl, q _ _ _ (New.int _)⟩
    · cases e
  · obtain ⟨v, rfl, rr⟩ := r.one
    split at e
    · rename_i i e1
      split at e
      · rename_i hl
        cases e
        exact ⟨i, by rw [asInt_rep rr e1], hl, q _ _ _ (New.str _)⟩
      · cases e
    · cases e
  · cases e
theorem tyName_rep {n : String} (r : RepW K H f a x) (e : tyName a = some n) : TyX K H x (.type n) := by
  obtain ⟨g, r⟩ := r
  unfold tyName at e
  split at e <;> first | (cases e; done) | skip
  · cases e; unfold Rep Dr at r; subst r; exact .base .non
  · cases e; unfold Rep Dr at r; subst r; exact .base (.bl _)
  · cases e; unfold Rep Dr at r; subst r; exact .base (.int _)
  · cases e; unfold Rep Dr at r; subst r; exact .base (.str _)
  · cases e; unfold Rep Dr at r; obtain ⟨p, xs, rfl, h, _⟩ := r; exact .base (.lst (mn_ext _ _ _ _ h))
  · cases e; unfold Rep Dr at r; obtain ⟨p, xs, rfl, h, _⟩ := r; exact .base (.tup (mn_ext _ _ _ _ h))
  · cases e; unfold Rep Dr at r; obtain ⟨p, rfl, _, h⟩ := r; exact .base (.dK (mn_ext _ _ _ _ h))
  · cases e; unfold Rep at r; obtain ⟨p, xs, _, rfl, h, _⟩ := r; exact .base (.lst h)
  · cases e; unfold Rep at r; obtain ⟨p, xs, rfl, h, _⟩ := r; exact .base (.tup (mn_ext _ _ _ _ h))
theorem rg_dr {i j : Int} : DrL K H (rgD i j) (rgV i j) := by
  unfold rgD rgV
  refine DrL.of_get (by simp) fun k d v e1 e2 => ?_
  rw [List.getElem?_map] at e1 e2
  obtain ⟨m, h1, rfl⟩ := Option.map_eq_some_iff.mp e1
  obtain ⟨m', h2, rfl⟩ := Option.map_eq_some_iff.mp e2
  rw [h1] at h2; cases h2
  unfold Dr; rfl
end
end Hw
set_option Elab.async false
set_option linter.all false
set_option maxRecDepth 100000
set_option maxHeartbeats 1000000
/-! the state through an evaluation; arguments -/
namespace Hw
open PySem PySem.Spec PyProof.Rows L2

structure RC where
  K : PySem.W.Frag
  mg : Str → Option Value
  F : Genv
  W : WX

def padd (f g : Fp) : Fp := fun a => f a + g a
theorem padd_at (f g : Fp) (a : Addr) : padd f g a = f a + g a := rfl
section
variable {K : PySem.W.Frag} {Γ Γ' : List Tr} {σ : Sig} {H H' : Hp} {f f' pr : Fp} {G G' : Fp → Prop} {v : V} {t : Tr}
theorem StA.le1 (h : StA K Γ σ H f pr G) : ∀ a, f a ≤ 1 := h.1
theorem StA.alc (h : StA K Γ σ H f pr G) : Alc H f := h.2.1
theorem StA.out (h : StA K Γ σ H f pr G) : ∃ ga, G ga ∧ St0 K Γ σ H f (padd pr ga) := by
  obtain ⟨h1, h2, g, ga, hs, hg, hl⟩ := h
  exact ⟨ga, hg, h1, h2, g, fun _ => 0, hs, trivial, fun a => by have := hl a; show 0 + (g a + (pr a + ga a)) ≤ _; omega⟩
theorem StA.inn {ga : Fp} (h : StA K Γ σ H f (padd pr ga) G') (hG : ∀ gb, G' gb → G (padd ga gb)) : StA K Γ σ H f pr G := by
  obtain ⟨h1, h2, g, gb, hs, hg, hl⟩ := h
  exact ⟨h1, h2, g, padd ga gb, hs, hG gb hg, fun a => by have := hl a; simp only [padd_at] at this ⊢; omega⟩
theorem StA.imp (h : StA K Γ σ H f pr G) (hG : ∀ gb, G gb → G' gb) : StA K Γ σ H f pr G' := by
  obtain ⟨h1, h2, g, gb, hs, hg, hl⟩ := h
  exact ⟨h1, h2, g, gb, hs, hG gb hg, hl⟩
theorem StA.drop (h : StA K Γ σ H f pr G) : St0 K Γ σ H f pr := h.imp fun _ _ => trivial
theorem StA.less {pr' : Fp} (h : StA K Γ σ H f pr G) (l : ∀ a, pr' a ≤ pr a) : StA K Γ σ H f pr' G := by
  obtain ⟨h1, h2, g, gb, hs, hg, hl⟩ := h
  exact ⟨h1, h2, g, gb, hs, hg, fun a => by have := hl a; have := l a; omega⟩
theorem le_padd (f g : Fp) : ∀ a, f a ≤ padd f g a := fun a => Nat.le_add_right _ _
theorem le_padd' (f g : Fp) : ∀ a, g a ≤ padd f g a := fun a => Nat.le_add_left _ _
/-- a new value beside the state -/
theorem StA.new (h : St0 K Γ σ H f pr) (n : New K H f H' f' t v) : St1 K Γ σ H' f' pr v t := by
  have al := h.alc
  have l1 := h.le1
  obtain ⟨h1, h2, g, _, hs, _, hl⟩ := h
  obtain ⟨e, gn, r, hf, hg⟩ := id n
  exact ⟨n.le1 al l1, n.alc al, g, gn, hs.stp (n.stp g) (fun _ => Nat.le_refl _), r, fun a => by rw [hf a]; have := hl a; omega⟩
/-- less is owned: what is settled stays settled -/
theorem Rep.lef (l : ∀ a, f' a ≤ f a) {x : Tr} {v : V} {g : Fp} (h : Rep K H f x v g) : Rep K H f' x v g := by
  have s : Stp H f g H f' := ⟨fun a o e e0 => ⟨e, by have := l a; omega⟩, fun _ _ _ e => e⟩
  exact h.stp s fun _ => Nat.le_refl _
theorem stp_less (l : ∀ a, f' a ≤ f a) : Stp H f pr H f' := ⟨fun a o e e0 => ⟨e, by have := l a; omega⟩, fun _ _ _ e => e⟩
/-- a value that is given up: settled -/
theorem StA.settle {d : PyData} (h : St1 K Γ σ H f pr v t) (e : frz t = some d) : ∃ f', Stp H f pr H f' ∧ St0 K Γ σ H f' pr ∧ Dr K (mn H f') d v := by
  obtain ⟨h1, h2, g, ga, hs, hg, hl⟩ := h
  have l : ∀ a, (fun a => f a - ga a) a ≤ f a := fun a => Nat.sub_le _ _
  refine ⟨fun a => f a - ga a, stp_less l, ⟨fun a => by have := h1 a; show f a - ga a ≤ 1; omega, fun a ha => h2 a (Nat.le_trans ha (l a)), g, fun _ => 0, hs.stp (stp_less l) (fun _ => Nat.le_refl _), trivial, fun a => by
    have := hl a; show 0 + (g a + pr a) ≤ f a - ga a; omega⟩, ?_⟩
  exact hg.frz l e fun a => by have := hl a; have := h1 a; show ga a + (f a - ga a) ≤ 1; omega
end

/-! ### arguments -/
def RepA (K : PySem.W.Frag) (H : Hp) (f : Fp) (σ : Sig) : List AV → List V → Fp → Prop
  | [], vs, _ => vs = []
  | .tmp t :: as, vs, g => ∃ v r g1 g2, vs = v :: r ∧ Rep K H f t v g1 ∧ RepA K H f σ as r g2 ∧ ∀ a, g1 a + g2 a ≤ g a
  | .pk i :: as, vs, g => ∃ v r, vs = v :: r ∧ σ[i]? = some (some v) ∧ RepA K H f σ as r g
  | .io i :: as, vs, g => ∃ v r, vs = v :: r ∧ σ[i]? = some (some v) ∧ RepA K H f σ as r g
section
variable (R : RC)
def tE (c : CE) : TE := fun σ H Q => ∃ Γ f pr, St0 R.K Γ σ H f pr ∧ match ev R.F c Γ with
  | some (.ok t Γ') => ∀ v H' f', Stp H f pr H' f' → St1 R.K Γ' σ H' f' pr v t → Q v H'
  | some (.ex x Γ') => ∀ C H' f', R.mg x = some (.ref C) → Stp H f pr H' f' → St0 R.K Γ' σ H' f' pr → R.W (.ref C) none σ H'
  | none => False
def tAs (cs : List CA) : TA := fun σ H Q => ∃ Γ f pr, St0 R.K Γ σ H f pr ∧ match evAs R.F cs Γ with
  | some (.ok avs Γ') => ∀ vs H' f', Stp H f pr H' f' → StA R.K Γ' σ H' f' pr (RepA R.K H' f' σ avs vs) → Q vs H'
  | some (.ex x Γ') => ∀ C H' f', R.mg x = some (.ref C) → Stp H f pr H' f' → St0 R.K Γ' σ H' f' pr → R.W (.ref C) none σ H'
  | none => False
def tT (c : CT) : TT := fun σ H Q => ∃ Γ f pr, St0 R.K Γ σ H f pr ∧ match evT R.F c Γ with
  | some (.ok b Γ') => ∀ H' f', Stp H f pr H' f' → St0 R.K Γ' σ H' f' pr → Q b H'
  | some (.ex x Γ') => ∀ C H' f', R.mg x = some (.ref C) → Stp H f pr H' f' → St0 R.K Γ' σ H' f' pr → R.W (.ref C) none σ H'
  | none => False
def tA : CA → TE
  | .e a => tE R a
  | .pk i => tVar i
  | .io i => tVar i
end
section
variable {R : RC} {σ : Sig} {H : Hp}
theorem RepS.val {K : PySem.W.Frag} {f : Fp} {Γ : List Tr} {g : Fp} {i : Nat} {x : Tr} (h : RepS K H f Γ σ g) (e : Γ[i]? = some x) (n : x ≠ .gone) : ∃ v g', σ[i]? = some (some v) ∧ Rep K H f x v g' ∧ ∀ a, g' a ≤ g a := by
  obtain ⟨o, g1, g2, h1, h2, h3, h4⟩ := h.take e
  obtain ⟨v, rfl, r⟩ := h2.get n
  exact ⟨v, g1, h1, r, fun a => by have := h4 a; omega⟩
theorem slotOk_get {Γ : List Tr} {i : Nat} (h : slotOk Γ i = true) : ∃ x, Γ[i]? = some x ∧ x ≠ .gone := by
  unfold slotOk at h
  split at h
  · cases h
  · cases h
  · rename_i x n e
    exact ⟨x, e, fun z => n z⟩
/-- arguments from the left -/
theorem as_cons {c : CA} {cs : List CA} {Q : List V → Hp → Prop} (h : tAs R (c :: cs) σ H Q) : tCons (tA R c) (tAs R cs) σ H Q := by
  obtain ⟨Γ, f, pr, st, h⟩ := h
  unfold tCons
  have slot : ∀ (i : Nat) (av : AV), slotOk Γ i = true → (∀ K' H' f' vs v g as, σ[i]? = some (some v) → RepA K' H' f' σ as vs g → RepA K' H' f' σ (av :: as) (v :: vs) g) →
      (match AR.cons av (evAs R.F cs Γ) with
        | some (.ok avs Γ') => ∀ vs H' f', Stp H f pr H' f' → StA R.K Γ' σ H' f' pr (RepA R.K H' f' σ avs vs) → Q vs H'
        | some (.ex x Γ') => ∀ C H' f', R.mg x = some (.ref C) → Stp H f pr H' f' → St0 R.K Γ' σ H' f' pr → R.W (.ref C) none σ H'
        | none => False) → tVar i σ H fun x H1 => tAs R cs σ H1 fun xs H2 => Q (x :: xs) H2 := by
    intro i av ok hav h
    obtain ⟨x, e, n⟩ := slotOk_get ok
    obtain ⟨h1, h2, g, ga, hs, hg, hl⟩ := id st
    obtain ⟨v, _, ev, _⟩ := hs.val e n
    refine ⟨v, ev, Γ, f, pr, st, ?_⟩
    cases q : evAs R.F cs Γ with
    | none => simp only [q, AR.cons] at h
    | some r =>
      cases r with
      | ex y Γ1 => simp only [q, AR.cons] at h; exact h
      | ok avs Γ1 =>
        simp only [q, AR.cons] at h
        intro vs H' f' s st'
        exact h (v :: vs) H' f' s (st'.imp fun gb hb => hav _ _ _ _ _ _ _ ev hb)
  cases c with
  | pk i =>
    simp only [evAs] at h
    by_cases ok : slotOk Γ i = true
    · rw [if_pos ok] at h
      exact slot i (.pk i) ok (fun K' H' f' vs v g as h1 h2 => ⟨v, vs, rfl, h1, h2⟩) h
    · rw [if_neg ok] at h; exact h.elim
  | io i =>
    simp only [evAs] at h
    by_cases ok : slotOk Γ i = true
    · rw [if_pos ok] at h
      exact slot i (.io i) ok (fun K' H' f' vs v g as h1 h2 => ⟨v, vs, rfl, h1, h2⟩) h
    · rw [if_neg ok] at h; exact h.elim
  | e a =>
    refine ⟨Γ, f, pr, st, ?_⟩
    simp only [evAs] at h
    cases q : ev R.F a Γ with
    | none => simp only [q] at h
    | some r =>
      cases r with
      | ex y Γ1 => simp only [q] at h; exact h
      | ok t Γ1 =>
        simp only [q] at h
        intro v H1 f1 s1 st1
        obtain ⟨ga, hga, st1'⟩ := st1.out
        refine ⟨Γ1, f1, padd pr ga, st1', ?_⟩
        cases q2 : evAs R.F cs Γ1 with
        | none => simp only [q2, AR.cons] at h
        | some r2 =>
          cases r2 with
          | ex y Γ2 =>
            simp only [q2, AR.cons] at h
            intro C H' f' hm s2 st2
            exact h C H' f' hm (s1.trans s2 (le_padd _ _)) (st2.less (le_padd _ _))
          | ok avs Γ2 =>
            simp only [q2, AR.cons] at h
            intro vs H' f' s2 st2
            refine h (v :: vs) H' f' (s1.trans s2 (le_padd _ _)) (st2.inn fun gb hb => ?_)
            exact ⟨v, vs, ga, gb, rfl, hga.stp s2 (le_padd' _ _), hb, fun _ => Nat.le_refl _⟩
theorem as_nil {Q : List V → Hp → Prop} (h : tAs R [] σ H Q) : tNil σ H Q := by
  obtain ⟨Γ, f, pr, st, h⟩ := h
  simp only [evAs] at h
  exact h [] H f Stp.refl (st.imp fun _ _ => rfl)
end
theorem PE.imp {X : Cx} {e : Expr} {t t' : TE} (h : PE X e t) (i : ∀ σ H Q, t' σ H Q → t σ H Q) : PE X e t' := ⟨fun pins s σ H Q I q => h.run pins s σ H Q I (i _ _ _ q)⟩
theorem PT.imp {X : Cx} {e : Expr} {t t' : TT} (h : PT X e t) (i : ∀ σ H Q, t' σ H Q → t σ H Q) : PT X e t' := ⟨fun pins s σ H Q I q => h.run pins s σ H Q I (i _ _ _ q)⟩
theorem PW.imp {X : Cx} {e : Expr} {t t' : TT} (h : PW X e t) (i : ∀ σ H Q, t' σ H Q → t σ H Q) : PW X e t' := ⟨fun wh pins s σ H Q I q => h.run wh pins s σ H Q I (i _ _ _ q)⟩
theorem PA.imp {X : Cx} {e : List Expr} {t t' : TA} (h : PA X e t) (i : ∀ σ H Q, t' σ H Q → t σ H Q) : PA X e t' := ⟨fun pos pins s σ H Q I q => h.run pos pins s σ H Q I (i _ _ _ q)⟩
theorem PS.imp {X : Cx} {e : Stmt} {t t' : TS} (h : PS X e t) (i : ∀ D σ H, t' D σ H → t D σ H) : PS X e t' := ⟨fun pins s σ H D I q => h.run pins s σ H D I (i _ _ _ q)⟩
theorem PSs.imp {X : Cx} {e : List Stmt} {t t' : TS} (h : PSs X e t) (i : ∀ D σ H, t' D σ H → t D σ H) : PSs X e t' := ⟨fun pins s σ H D I q => h.run pins s σ H D I (i _ _ _ q)⟩
theorem PI.imp {X : Cx} {tg e : Expr} {t t' : TI} (h : PI X tg e t) (i : ∀ σ H Q, t' σ H Q → t σ H Q) : PI X tg e t' := ⟨fun pins s σ H Q I q => h.run pins s σ H Q I (i _ _ _ q)⟩
theorem PE.or {X : Cx} {e : Expr} {t t' : TE} (h : PE X e t) (h' : PE X e t') : PE X e (fun σ H Q => t σ H Q ∨ t' σ H Q) := ⟨fun pins s σ H Q I q => q.elim (h.run pins s σ H Q I) (h'.run pins s σ H Q I)⟩
theorem PI.or {X : Cx} {tg e : Expr} {t t' : TI} (h : PI X tg e t) (h' : PI X tg e t') : PI X tg e (fun σ H Q => t σ H Q ∨ t' σ H Q) := ⟨fun pins s σ H Q I q => q.elim (h.run pins s σ H Q I) (h'.run pins s σ H Q I)⟩
/-- an expression that is not starred, no slice -/
def plainE : Expr → Bool
  | .Starred .. => false
  | .Slice .. => false
  | .Set .. => false
  | _ => true
theorem star_of {e : Expr} (h : plainE e = true) (es : List Expr) (env : Env) : starEach (e :: es) env = (false, eval e env) :: starEach es env := by
  cases e <;> first | rfl | cases h
theorem plainIx {e : Expr} (h : plainE e = true) : PlainIx e := fun o i => by
  cases e <;> first | rfl | cases h
theorem stars_no : ∀ {es : List Expr} {env : Env} {pos : Pos}, es.all plainE = true → (backTo pos (starEach es env)).any (·.1) = false
  | [], _, _, _ => rfl
  | e :: es, env, pos, h => by
    rw [List.all_cons, Bool.and_eq_true] at h
    rw [star_of h.1]
    have := stars_no (env := env) (pos := pos) h.2
    unfold backTo at this ⊢
    rw [List.map_cons, List.any_cons, this]; rfl
theorem pa_cons' {X : Cx} {e : Expr} {es : List Expr} {te : TE} {t : TA} (p : plainE e = true) (ha : PE X e te) (hr : PA X es t) : PA X (e :: es) (tCons te t) := pa_cons ha hr (star_of p es X.env)
end Hw
set_option Elab.async false
set_option linter.all false
set_option maxRecDepth 100000
set_option maxHeartbeats 2000000
/-! defs that are called where no repr is under way (A.guards = some []) -/
namespace Hq
open PySem PySem.Spec PyProof.Rows L2
abbrev Gd (A : Around) : Prop := A.guards = some []
theorem Gd.deeper {A : Around} (g : Gd A) (env : Env) : Gd (A.deeper env) := g
structure FnG (P : Program) (w : World) (K : PySem.W.Frag) (mg : Str → Option Value) (base : Heap) (k : Nat) (f : Addr) (fd : FuncData) (ps : List Str) (sp : Sp) : Prop where
  len : ∀ xs H Q E, sp xs H Q E → xs.length = ps.length
  run : ∀ (A : Around) (out : List Env) (s : Shared) (H : Hp) (as : Args) (ws : List Value) (xs : List V) (Q : VK) (E : XK), Gd A → Room k A → Env0 P w K mg base A out s H →
    BindsTo s fd as (ps.zip ws) → Vals xs ws → sp xs H Q E → codeAny (model P w) A (.call (.ref f) as) (CR (L2.CX P w) out P w H s Q E) s
section
variable {P : Program} {w : World} {K : PySem.W.Frag} {mg : Str → Option Value} {base : Heap} {k : Nat} {f : Addr} {fd : FuncData} {ps : List Str} {sp : Sp}
theorem FnG.mono {j : Nat} (F : FnG P w K mg base j f fd ps sp) (h : j ≤ k) : FnG P w K mg base k f fd ps sp :=
  ⟨F.len, fun A out s H as ws xs Q E g r => F.run A out s H as ws xs Q E g (r.mono h)⟩
theorem FnG.imp {sp' : Sp} (F : FnG P w K mg base k f fd ps sp) (h : ∀ xs H Q E, sp' xs H Q E → sp xs H Q E) : FnG P w K mg base k f fd ps sp' :=
  ⟨fun xs H Q E q => F.len xs H Q E (h _ _ _ _ q), fun A out s H as ws xs Q E g r e b v q => F.run A out s H as ws xs Q E g r e b v (h _ _ _ _ q)⟩
/-- a def by its body, where the guards are known -/
theorem okG {x qual : Str} {st : Stmt} {N : List Str} (F : Fun K x qual st f fd) (S : FnScope N ps (defScope st)) (len : ∀ xs H Q E, sp xs H Q E → xs.length = ps.length)
    (hbody : ∀ (cdv : Value) (A : Around) (out : List Env) (s : Shared) (H : Hp) (xs : List V) (Q : VK) (E : XK), Gd A → Room k (A.deeper (envOfC qual (defScope st) s.heap.objs.size f cdv)) → sp xs H Q E →
      ∃ t, PSs (cxOf (L2.CX P w) P w K mg base N qual (defScope st) f cdv A out s H E) (defBody st) t ∧ t { nx := fun _ H' => Q .non H', rt := Q } (start N xs) H) :
    FnG P w K mg base (k + 1) f fd ps sp := by
  obtain ⟨oc, od, kV, doc, pm, an, cdv, ct, osl, rfl, lk, hcd⟩ := F.ex
  refine ⟨len, fun A out s H as ws xs Q E g r e b v q => ?_⟩
  have lx := len _ _ _ _ q
  have kx : K.In s.heap := e.mod.kin.keeps fun b o z => (e.bs b o z).1
  have nl : s.heap.NoLimit := e.mod.nolimit.keeps fun b o z => (e.bs b o z).1
  have hk : ∀ y ∈ ps.zip ws, (defScope st).names.lookup y.1 = some .local ∨ ((defScope st).names.lookup y.1 = some .cell ∧ ((cellsFrom (s.heap.objs.size + 1) (defScope st).names []).lookup y.1).isSome = true) := by
    rintro ⟨n, u⟩ hy
    rcases S.par n (List.of_mem_zip hy).1 with z | z
    · exact .inl z
    · exact .inr ⟨z, PySem.W.cellsFrom_some _ _ _ (.inl z)⟩
  refine codeAny_call_function r.depth (kx _ _ lk) rfl S.co S.gen rfl (PySem.W.codeRec_of kx hcd) (b _ _ _ _ ?_)
  refine wpAny_newFunctionEnv_cells S.kind hk fun env he s1 inn => ?_
  subst he
  refine ⟨nl.keeps inn.toInCall.keep, codeAny_func ?_⟩
  obtain ⟨t, ht, hq⟩ := hbody cdv A out s H xs Q E g (r.deeper _) q
  have J := inv_start (CX := L2.CX P w) (E := E) (cd := cdv) S r.hd e lx v inn
  refine wpAny_mono (ht.run [] s1 (start N xs) H _ J hq) (fun fl s' hs => ?_) fun e s' hs => hs
  have fin : ∀ {σ' : L2.St} {H' : Hp} {x : V} {u : Value}, Inv (cxOf (L2.CX P w) P w K mg base N qual (defScope st) f cdv A out s H E) [] σ' H' s' → RelV x u → Q x H' → L2.CE out P w H s Q u s' :=
    fun {σ' H' x u} J rx z => ⟨x, H', J.os, J.bare, J.base, J.hok, rx, z⟩
  cases fl with
  | ret u => obtain ⟨x, σ', H', J, rx, z⟩ := hs; exact fin J rx z
  | next => obtain ⟨σ', H', J, z⟩ := hs; exact fin (x := V.non) (u := Value.none) J rfl z
  | brk => obtain ⟨_, _, _, z⟩ := hs; exact z.elim
  | cont => obtain ⟨_, _, _, z⟩ := hs; exact z.elim
end
section
variable {X : Cx} {k : Nat} {f : Addr} {fd : FuncData} {ps : List Str} {sp : Sp} {E : L2.St → XK} {x : Str} {p pos : Pos} {e : Expr} {es : List Expr} {t : TA}
theorem run_G {pins : List (Addr × Obj)} {σ : L2.St} {H : Hp} {s : Shared} {Q : VK} {us : List Value} {vs : List V} (F : FnG X.prog X.w X.K X.mg X.base k f fd ps sp) (hg : Gd X.A) (hr : Room k X.A)
    (hb : Binds X.K fd ps []) (hx : PassesAt (L2.CX X.prog X.w) X σ (E σ)) (I : Inv X pins σ H s) (r : Vals vs us) (h : sp vs H Q (E σ)) :
    wpAny (model X.prog X.w) X.A (call (.ref f) us) (EP X pins σ Q) X.xe s := by
  have ll : us.length = ps.length := r.length.symm.trans (F.len _ _ _ _ h)
  have b := hb s us I.kIn (by simpa using ll)
  simp only [List.append_nil] at b
  refine wpAny_call (codeAny_mono (F.run X.A X.stack s H ⟨us, []⟩ us vs Q (E σ) hg hr I.env0 b r h) fun r s' z => ?_)
  match r, z with
  | .error e, z => exact hx pins H s e s' I z
  | .ok (.ret u), z => exact I.after z
  | .ok .next, z => exact False.elim z
  | .ok .brk, z => exact False.elim z
  | .ok .cont, z => exact False.elim z
theorem pe_G (F : FnG X.prog X.w X.K X.mg X.base k f fd ps sp) (hgd : Gd X.A) (hr : Room k X.A) (hg : Gl X x) (hm : X.mg x = some (.ref f)) (hk : PySem.W.keepIn X.K (.ref f) = true) (hb : Binds X.K fd ps [])
    (hx : ∀ σ, PassesAt (L2.CX X.prog X.w) X σ (E σ)) (ha : PA X (e :: es) t) (hdb : (x == ("__debug__" : Str)) = false) (he : starEach (e :: es) X.env = (false, eval e X.env) :: starEach es X.env)
    (hpl : (backTo pos (starEach es X.env)).any (·.1) = false) : PE X (.Call (.Name x p) (e :: es) [] pos) (tCallS sp E t) := by
  constructor
  intro pins s σ H Q I h
  refine wpAny_Call_Name_kw (ld_glob I hg hm ?_ hdb)
  refine PySem.W.callWith_K (h₀ := X.base) I.ok.mod.kin hk (thn (ha.run pos pins s σ H _ I h) fun us s1 z => ?_) he hpl
  obtain ⟨vs, H1, I1, r, q⟩ := z
  exact ⟨I1.kIn, run_G F hgd hr hb (hx σ) I1 r q⟩
end
/-- the law's call -/
theorem call_G {P : Program} {w : World} {K : PySem.W.Frag} {mg mb : Str → Option Value} {k : Nat} {fa a : Addr} {fd : FuncData} {x : Str} {sp : Sp} {s₁ : Shared} {vs : List Value} {ns : List Int}
    (KX : K.In s₁.heap) (hns : s₁.heap.Ns mainGlobals mg) (hb : s₁.heap.Ns builtinsNs mb) (hbb : ∀ x : Str, x ≠ "__name__" → mb x = bootBuiltins x) (hlim : s₁.heap.NoLimit) (hg : s₁.gens = #[])
    (ha : s₁.heap.get? a = some { cls := .type "list", data := .seq vs.toArray }) (hi : IntsAre vs ns) (hl : ns.length ≤ sizeLine) (hr : Room k callerA)
    (F : ∀ base : Heap, K.In base → base.Ns mainGlobals mg → FnG P w K mg base k fa fd [x] sp) (hbind : ∀ (s : Shared) (u : Value), BindsTo s fd ⟨[u], []⟩ [(x, u)])
    (hsp : ∀ H : Hp, Only H → SqL K H a (ns.map V.int) → sp [.ref a] H (fun v _ => v = .bl true) fun _ _ _ => False) :
    codeAny (model P w) callerA (.call (.ref fa) ⟨[.ref a], []⟩) (fun r s' => r = .ok (.ret (.bool true)) ∧ OldK s₁.heap s'.heap ∧ s'.os = s₁.os ∧ AllBare s'.gens) s₁ := by
  have noX : ∀ H e s', L2.CX P w [] H s₁ (fun _ _ _ => False) e s' → False := fun H e s' h => by
    obtain ⟨_, _, _, _, _, _, _, _, _, _, _, _, z⟩ := h
    exact z
  have vi := vals_ints hi
  have lv := hi.length
  have main : ∀ H : Hp, Only H → SqL K H a (ns.map V.int) → HOk P w H s₁.heap → (∀ b, H b ≠ none → b = a) → (H a ≠ none → K.lookup a = none) →
      codeAny (model P w) callerA (.call (.ref fa) ⟨[.ref a], []⟩) (fun r s' => r = .ok (.ret (.bool true)) ∧ OldK s₁.heap s'.heap ∧ s'.os = s₁.os ∧ AllBare s'.gens) s₁ := by
    intro H hO hS ok hA hK
    have hid : ∀ {b : Addr} {o : Obj}, s₁.heap.get? b = some o → H b = none → (hidT s₁.heap H).get? b = some o := fun e n => hidT_get e n
    have nd : ∀ {b : Addr} {o : Obj} {es : Array DictEntry} {ep : Nat}, s₁.heap.get? b = some o → o.data = .dict es ep → H b = none := by
      intro b o es ep e d
      cases q : H b with
      | none => rfl
      | some u =>
        obtain rfl : b = a := hA b (by simp [q])
        rw [ha] at e; cases e
        cases (show Data.seq vs.toArray _ = Data.dict es ep from d)
    have ns' : ∀ {b : Addr} {m : Str → Option Value}, s₁.heap.Ns b m → (hidT s₁.heap H).Ns b m := fun {b m} ⟨o, es, ep, e, d, r⟩ => ⟨o, es, ep, hid e (nd e d), d, r⟩
    have kb : K.In (hidT s₁.heap H) := fun b o e => hid (KX b o e) (by
      cases q : H b with
      | none => rfl
      | some u =>
        obtain rfl : b = a := hA b (by simp [q])
        rw [hK (by simp [q])] at e; cases e)
    have M : Mod K mg (hidT s₁.heap H) := ⟨kb, ns' hns, ⟨mb, ns' hb, hbb⟩, let ⟨mc, h1, h2⟩ := hlim; ⟨mc, ns' h1, h2⟩⟩
    have env : Env0 P w K mg (hidT s₁.heap H) callerA [] s₁ H := ⟨rfl, M, fun b o e => of_hidT e, Nat.le_of_eq (hidT_size _ _), trivial, fun b hb => absurd (show b ∈ ([] : List Addr) from hb) (by simp), ok, .of_eq hg⟩
    refine codeAny_mono ((F _ kb (ns' hns)).run callerA [] s₁ H ⟨[.ref a], []⟩ [.ref a] [.ref a] _ _ rfl hr env (hbind s₁ (.ref a)) (.cons rfl .nil) (hsp H hO hS)) fun r s' h => ?_
    match r, h with
    | .error e, h => exact (noX H e s' h).elim
    | .ok .next, h => exact False.elim h
    | .ok .brk, h => exact False.elim h
    | .ok .cont, h => exact False.elim h
    | .ok (.ret u), h =>
      obtain ⟨v, H', os, bare, un, ok', r', q⟩ := h
      obtain rfl : v = .bl true := q
      obtain rfl : u = Value.bool true := r'
      refine ⟨rfl, OldK.of_keep fun b o e => ?_, os, bare⟩
      cases q : H b with
      | none => exact un.keep b o e q (by intro z; exact absurd (show b ∈ ([] : List Addr) from z) (by simp)) (by simp)
      | some u =>
        rcases hO b with z | ⟨ob, xs, z⟩
        · rw [q] at z; cases z
        · obtain ⟨e1, _⟩ := ok b _ z
          obtain ⟨e2, _⟩ := ok' b _ (un.frzs b ob _ z)
          rw [e] at e1; cases e1
          exact e2
  cases hk : K.lookup a with
  | some o =>
    have e := KX a o hk
    rw [ha] at e
    cases e
    have sq : SqL K (fun _ => none) a (ns.map V.int) := .inr ⟨_, vs.toArray, _, hk, rfl, rfl, rfl, by rw [List.size_toArray, lv]; exact hl, by simpa using vi⟩
    exact main (fun _ => none) (fun _ => .inl rfl) sq (fun b u z => by cases (show (none : Option HO) = some u from z)) (fun b z => absurd rfl z) fun z => absurd rfl z
  | none =>
    let H0 : Hp := fun b => if b = a then some (.frz { cls := .type "list", data := .seq vs.toArray } (.lst (ns.map V.int))) else none
    have h0 : H0 a = some (.frz { cls := .type "list", data := .seq vs.toArray } (.lst (ns.map V.int))) := if_pos rfl
    have h1 : ∀ b, b ≠ a → H0 b = none := fun b hb => if_neg hb
    refine main H0 (fun b => ?_) (.inl (.inr ⟨{ cls := .type "list", data := .seq vs.toArray }, h0⟩)) (fun b u z => ?_) (fun b z => ?_) fun _ => hk
    · by_cases hb : b = a
      · subst hb; exact .inr ⟨_, _, h0⟩
      · exact .inl (h1 b hb)
    · by_cases hb : b = a
      · subst hb
        rw [h0] at z; cases z
        exact ⟨ha, by rw [List.length_map]; exact hl, vs, _, vi, ha⟩
      · rw [h1 b hb] at z; cases z
    · by_cases hb : b = a
      · exact hb
      · exact absurd (h1 b hb) z
theorem walk_G {l : PySem.W.OpenLaw} {n k : Nat} {q : Program} {loose : List Str} {XP : (Str → Option Value) → Heap → Prop} {YP : World → Heap → Prop} {d : DefRec} {K : Params → PySem.W.Frag} {sp : World → Sp} {x : Str}
    (hn : l.most = some n) (hn2 : n ≤ sizeLine) (hdf : d.params.defaults = []) (hr : Room k callerA) (hY : ∀ (w : World) (h : Heap), YP w h → (K w.params).In h)
    (F : ∀ (w : World) (mg : Str → Option Value) (fa : Addr) (h : Heap), (K w.params).In h → h.Ns mainGlobals mg → mg d.name = some (.ref fa) → ∃ fd : FuncData,
      (∀ (s : Shared) (u : Value), BindsTo s fd ⟨[u], []⟩ [(x, u)]) ∧ ∀ base : Heap, (K w.params).In base → base.Ns mainGlobals mg → FnG l.prog w (K w.params) mg base k fa fd [x] (sp w))
    (hsp : ∀ (w : World) (H : Hp) (a : Addr) (ns : List Int), ns.length ≤ n → (∀ z ∈ ns, Builtin.Int.intBits z ≤ 1048576) → Only H → SqL (K w.params) H a (ns.map V.int) →
      sp w [.ref a] H (fun v _ => v = .bl true) fun _ _ _ => False) :
    PySem.W.WalkO q loose XP YP l.row.toRowW d [] (fun f vs => PySem.call f vs) := by
  refine Att.attach_callB hn hdf ?_
  intro w s₀ s₁ mg mb fa o pm cd doc a vs ns G Y ho hd hcd hmg hobj hints hlen hbits hg
  have KX := hY w _ Y
  obtain ⟨fd, hb, hF⟩ := F w mg fa _ KX G.T.g hmg
  exact call_G KX G.T.g G.T.b G.T.builtins G.T.nolimit hg hobj hints (Nat.le_trans hlen hn2) hr hF hb fun H hO hS => hsp w H a ns hlen hbits hO hS
end Hq
set_option Elab.async false
set_option linter.all false
set_option maxRecDepth 100000
set_option maxHeartbeats 1000000
/-! the matcher, the context, primitive operations -/
namespace Hw
open PySem PySem.Spec PyProof.Rows L2

/-- what a def promises, by its run -/
def spF (K : PySem.W.Frag) (mg : Str → Option Value) (n : Nat) (run : List Tr → Option FR) : Sp := fun vs H Q E => vs.length = n ∧ ∃ ts f pr ga, RepL K H f ts vs ga ∧ (∀ a, f a ≤ 1) ∧ Alc H f ∧ (∀ a, ga a + pr a ≤ f a) ∧ match run ts with
  | some (.ok t os) => ∀ v H' f', Stp H f pr H' f' → (∀ a, f' a ≤ 1) → Alc H' f' → (∃ g go, Rep K H' f' t v g ∧ RepL K H' f' os vs go ∧ ∀ a, g a + (go a + pr a) ≤ f' a) → Q v H'
  | some (.ex x) => ∀ C H' f', mg x = some (.ref C) → Stp H f pr H' f' → (∀ a, f' a ≤ 1) → Alc H' f' → (∀ a, pr a ≤ f' a) → E (.ref C) none H'
  | none => False

structure MC where
  N : List Str
  sc : Scope
  fnc : Str → Bool
def bltNames : List Str := ["bool", "repr", "sorted", "set", "dict", "len", "abs", "max", "min", "sum", "all", "any", "tuple", "list", "int", "str", "isinstance", "range", "enumerate", "zip"]
structure XOk (R : RC) (M : MC) (X : Cx) : Prop where
  K : X.K = R.K
  mg : X.mg = R.mg
  N : X.N = M.N
  sc : X.env.scope = M.sc
  fnc : X.fn = M.fnc
  nd : M.N.Nodup
  calm : X.calm = true
  tk : Takes X R.W
  un : X.A.units + 65 < cLine
  gd : Hq.Gd X.A
  fns : ∀ x run, R.F.fn x = some run → ∃ n f fd ps k, Hq.FnG X.prog X.w X.K X.mg X.base k f fd ps (spF R.K R.mg n run) ∧ X.mg x = some (.ref f) ∧ PySem.W.keepIn X.K (.ref f) = true ∧ Binds X.K fd ps [] ∧ Room k X.A ∧ ∀ ts r, run ts = some r → ts.length = n
  gls : ∀ x d, R.F.gl x = some d → ∃ v u, X.mg x = some u ∧ RelV v u ∧ ∀ K H, Dr K H d v
  blt : ∀ x ∈ bltNames, X.mg x = none

/-! ### the matcher -/
def okName (x : Str) : Bool := !(x == ("__debug__" : Str)) && !(x == ("__classdict__" : Str)) && !(x == ("__name__" : Str))
def MC.vis (M : MC) (i : Nat) (x : Str) : Bool := decide (M.N[i]? = some x) && (match M.sc.names.lookup x with | some .local => true | some .cell => true | some .free => true | _ => false) && okName x
def MC.glo (M : MC) (x : Str) : Bool := (match M.sc.names.lookup x with | some .globalImplicit => true | _ => false) && okName x
def MC.loc (M : MC) (i : Nat) (x : Str) : Bool := decide (M.N[i]? = some x) && (match M.sc.names.lookup x with | some .local => true | some .cell => M.fnc x | _ => false)
def MC.blk (M : MC) (s : Scope) : MC := { N := M.N, sc := relS s M.sc, fnc := fun x => s.names.lookup x == some .cell }
def eqOp (a b : CmpOp) : Bool := match a, b with
  | .Eq, .Eq => true | .NotEq, .NotEq => true | .Lt, .Lt => true | .LtE, .LtE => true | .Gt, .Gt => true | .GtE, .GtE => true
  | .Is, .Is => true | .IsNot, .IsNot => true | .In, .In => true | .NotIn, .NotIn => true
  | _, _ => false
theorem eqOp_of {a b : CmpOp} (h : eqOp a b = true) : a = b := by cases a <;> cases b <;> first | rfl | cases h
/-- a primitive operation's operands in the text -/
def primArgs (M : MC) : P → Expr → Option (List Expr)
  | .add, .BinOp a .Add b _ => some [a, b]
  | .sub, .BinOp a .Sub b _ => some [a, b]
  | .mul, .BinOp a .Mult b _ => some [a, b]
  | .fdiv, .BinOp a .FloorDiv b _ => some [a, b]
  | .mod, .BinOp a .Mod b _ => some [a, b]
  | .pow, .BinOp a .Pow b _ => some [a, b]
  | .neg, .UnaryOp .USub a _ => some [a]
  | .cmp o, .Compare a [o'] [b] _ => if eqOp o o' then some [a, b] else none
  | .sl false false, .Subscript a (.Slice none none none _) _ => some [a]
  | .sl true false, .Subscript a (.Slice (some b) none none _) _ => some [a, b]
  | .sl false true, .Subscript a (.Slice none (some b) none _) _ => some [a, b]
  | .rev, .Subscript a (.Slice none none (some (.UnaryOp .USub (.Constant (.int 1) _ _) _)) _) _ => some [a]
  | .ix, .Subscript a b _ => some [a, b]
  | .bi b, .Call (.Name x _) args [] _ => if x = b.nm ∧ M.glo x = true ∧ args.length = b.ar then some args else none
  | .isi T, .Call (.Name x _) [a, .Name t _] [] _ => if x = "isinstance" ∧ M.glo x = true ∧ t = Str.ofString T ∧ M.glo t = true ∧ bltNames.contains t = true ∧ bootBuiltins t = some (.type T) then some [a] else none
  | .lrg false, .Call (.Name x _) [.Call (.Name y _) [a] [] _] [] _ => if x = "list" ∧ M.glo x = true ∧ y = "range" ∧ M.glo y = true then some [a] else none
  | .lrg true, .Call (.Name x _) [.Call (.Name y _) [a, b] [] _] [] _ => if x = "list" ∧ M.glo x = true ∧ y = "range" ∧ M.glo y = true then some [a, b] else none
  | .trg false, .Call (.Name x _) [.Call (.Name y _) [a] [] _] [] _ => if x = "tuple" ∧ M.glo x = true ∧ y = "range" ∧ M.glo y = true then some [a] else none
  | .trg true, .Call (.Name x _) [.Call (.Name y _) [a, b] [] _] [] _ => if x = "tuple" ∧ M.glo x = true ∧ y = "range" ∧ M.glo y = true then some [a, b] else none
  | .rpr, .Call (.Name x _) [a] [] _ => if x = "repr" ∧ M.glo x = true then some [a] else none
  | _, _ => none

/-! ### primitive operations -/
def PEs (X : Cx) (R : RC) : List CA → List Expr → Prop
  | [], es => es = []
  | c :: cs, es => ∃ e r, es = e :: r ∧ plainE e = true ∧ PE X e (tA R c) ∧ PEs X R cs r
section
variable {R : RC} {M : MC} {X : Cx}
theorem PEs.pa : ∀ {cs : List CA} {es : List Expr}, PEs X R cs es → PA X es (tAs R cs)
  | [], _, h => by unfold PEs at h; rw [h]; exact PA.imp pa_nil fun _ _ _ q => as_nil q
  | c :: cs, _, h => by
    obtain ⟨e, r, rfl, h1, h2, h3⟩ := h
    exact PA.imp (pa_cons' h1 h2 (PEs.pa h3)) fun _ _ _ q => as_cons q
theorem PEs.one {c : CA} {es : List Expr} (h : PEs X R [c] es) : ∃ e, es = [e] ∧ plainE e = true ∧ PE X e (tA R c) := by
  obtain ⟨e, r, rfl, h1, h2, h3⟩ := h
  unfold PEs at h3
  exact ⟨e, by rw [h3], h1, h2⟩
theorem PEs.two {c d : CA} {es : List Expr} (h : PEs X R [c, d] es) : ∃ e e2, es = [e, e2] ∧ plainE e = true ∧ PE X e (tA R c) ∧ plainE e2 = true ∧ PE X e2 (tA R d) := by
  obtain ⟨e, r, rfl, h1, h2, h3⟩ := h
  obtain ⟨e2, rfl, h4, h5⟩ := PEs.one h3
  exact ⟨e, e2, rfl, h1, h2, h4, h5⟩
theorem PEs.three {c d e0 : CA} {es : List Expr} (h : PEs X R [c, d, e0] es) : ∃ e e2 e3, es = [e, e2, e3] ∧ plainE e = true ∧ PE X e (tA R c) ∧ plainE e2 = true ∧ PE X e2 (tA R d) ∧ plainE e3 = true ∧ PE X e3 (tA R e0) := by
  obtain ⟨e, r, rfl, h1, h2, h3⟩ := h
  obtain ⟨e2, e3, rfl, h4, h5⟩ := PEs.two h3
  exact ⟨e, e2, e3, rfl, h1, h2, h4, h5⟩
theorem PEs.length : ∀ {cs : List CA} {es : List Expr}, PEs X R cs es → es.length = cs.length
  | [], _, h => by unfold PEs at h; rw [h]; rfl
  | c :: cs, _, h => by
    obtain ⟨e, r, rfl, h1, h2, h3⟩ := h
    simp [PEs.length h3]
theorem PEs.plain : ∀ {cs : List CA} {es : List Expr}, PEs X R cs es → es.all plainE = true
  | [], _, h => by unfold PEs at h; rw [h]; rfl
  | c :: cs, _, h => by
    obtain ⟨e, r, rfl, h1, h2, h3⟩ := h
    rw [List.all_cons, h1, PEs.plain h3]; rfl
theorem tE.mono {c : CE} {σ : Sig} {H : Hp} {Q Q' : VK} (h : tE R c σ H Q) (q : ∀ v H', Q v H' → Q' v H') : tE R c σ H Q' := by
  obtain ⟨Γ, f, pr, st, h⟩ := h
  refine ⟨Γ, f, pr, st, ?_⟩
  split at h
  · exact fun v H' f' s s1 => q _ _ (h v H' f' s s1)
  · exact h
  · exact h
theorem tA.mono {c : CA} {σ : Sig} {H : Hp} {Q Q' : VK} (h : tA R c σ H Q) (q : ∀ v H', Q v H' → Q' v H') : tA R c σ H Q' := by
  cases c with
  | e a => exact tE.mono h q
  | pk i => obtain ⟨v, h1, h2⟩ := h; exact ⟨v, h1, q _ _ h2⟩
  | io i => obtain ⟨v, h1, h2⟩ := h; exact ⟨v, h1, q _ _ h2⟩
theorem as1 {a : CA} {σ : Sig} {H : Hp} {Q : List V → Hp → Prop} (h : tAs R [a] σ H Q) : tA R a σ H fun x H1 => Q [x] H1 := tA.mono (as_cons h) fun _ _ q => as_nil q
theorem as2 {a b : CA} {σ : Sig} {H : Hp} {Q : List V → Hp → Prop} (h : tAs R [a, b] σ H Q) : tA R a σ H fun x H1 => tA R b σ H1 fun y H2 => Q [x, y] H2 := tA.mono (as_cons h) fun _ _ q => as1 q
theorem as3 {a b c : CA} {σ : Sig} {H : Hp} {Q : List V → Hp → Prop} (h : tAs R [a, b, c] σ H Q) : tA R a σ H fun x H1 => tA R b σ H1 fun y H2 => tA R c σ H2 fun z H3 => Q [x, y, z] H3 := tA.mono (as_cons h) fun _ _ q => as2 q
/-- what the operands' trees are -/
theorem resolves_rep {K : PySem.W.Frag} {H : Hp} {f : Fp} {Γ : List Tr} {σ : Sig} {g : Fp} (hs : RepS K H f Γ σ g) : ∀ {avs : List AV} {vs : List V} {ga : Fp} {ts : List Tr}, RepA K H f σ avs vs ga → resolves Γ avs = some ts → RepWs K H f ts vs
  | [], _, _, _, h, e => by unfold resolves at e; cases e; unfold RepA at h; exact h
  | av :: avs, _, _, _, h, e => by
    unfold resolves at e
    split at e
    · rename_i t ts e1 e2
      cases e
      cases av with
      | tmp t' =>
        obtain ⟨v, r, g1, g2, rfl, h1, h2, h3⟩ := h
        unfold resolve at e1; cases e1
        exact ⟨v, r, rfl, ⟨g1, h1⟩, resolves_rep hs h2 e2⟩
      | pk i =>
        obtain ⟨v, r, rfl, h1, h2⟩ := h
        unfold resolve at e1
        refine ⟨v, r, rfl, ?_, resolves_rep hs h2 e2⟩
        by_cases n : t = .gone
        · subst n; exact ⟨fun _ => 0, by unfold Rep; trivial⟩
        · obtain ⟨w, g', e3, r3, _⟩ := hs.val e1 n
          rw [h1] at e3; cases e3
          exact ⟨g', r3⟩
      | io i => unfold resolve at e1; cases e1
    · cases e
/-- what a primitive operation asks of the operands -/
def rPrim (K : PySem.W.Frag) (p : P) : RL := fun vs H Q => ∃ f ts t, Alc H f ∧ RepWs K H f ts vs ∧ primEv p ts = some t ∧ ∀ v H' f', New K H f H' f' t v → Q v H'
theorem prim_as {p : P} {as : List CA} {σ : Sig} {H : Hp} {Q : VK} (h : tE R (.prim p as) σ H Q) : tAs R as σ H fun vs H1 => rPrim R.K p vs H1 Q := by
  obtain ⟨Γ, f, pr, st, h⟩ := h
  refine ⟨Γ, f, pr, st, ?_⟩
  simp only [ev] at h
  cases q : evAs R.F as Γ with
  | none => simp only [q] at h
  | some r =>
    cases r with
    | ex y Γ1 => simp only [q] at h; exact h
    | ok avs Γ1 =>
      simp only [q] at h
      intro vs H1 f1 s1 st1
      cases q1 : resolves Γ1 avs with
      | none => simp only [q1, Option.bind_none] at h
      | some ts =>
        simp only [q1, Option.bind_some] at h
        cases q2 : primEv p ts with
        | none => simp only [q2, Option.map_none] at h
        | some t =>
          simp only [q2, Option.map_some] at h
          obtain ⟨g, ga, hs, hg, hl⟩ := id st1.2.2
          refine ⟨f1, ts, t, st1.alc, resolves_rep hs hg q1, q2, fun v H' f' n => ?_⟩
          exact h v H' f' (s1.trans (n.stp pr) fun _ => Nat.le_refl _) (st1.drop.new n)
theorem kOf {α : Type} {K K' : PySem.W.Frag} (e : K = K') : K' = K := e.symm
/-- two operands -/
theorem prim2 {p : P} {a b : CA} {r : R2} {σ : Sig} {H : Hp} {Q : VK} (hr : ∀ x y H1, rPrim R.K p [x, y] H1 Q → r x y H1 Q) (h : tE R (.prim p [a, b]) σ H Q) : tOp r (tA R a) (tA R b) σ H Q :=
  tA.mono (as2 (prim_as h)) fun _ _ q => tA.mono q fun _ _ q => hr _ _ _ q
theorem prim1 {p : P} {a : CA} {r : V → Hp → VK → Prop} {σ : Sig} {H : Hp} {Q : VK} (hr : ∀ x H1, rPrim R.K p [x] H1 Q → r x H1 Q) (h : tE R (.prim p [a]) σ H Q) : tA R a σ H fun x H1 => r x H1 Q :=
  tA.mono (as1 (prim_as h)) fun _ _ q => hr _ _ q
theorem rprim2 {K : PySem.W.Frag} {p : P} {x y : V} {H : Hp} {Q : VK} (h : rPrim K p [x, y] H Q) : ∃ f a b t, Alc H f ∧ RepW K H f a x ∧ RepW K H f b y ∧ primEv p [a, b] = some t ∧ ∀ v H' f', New K H f H' f' t v → Q v H' := by
  obtain ⟨f, ts, t, al, r, e, q⟩ := h
  cases ts with
  | nil => unfold RepWs at r; cases r
  | cons a ts =>
    obtain ⟨v, w, h0, r1, r2⟩ := r
    cases h0
    cases ts with
    | nil => unfold RepWs at r2; cases r2
    | cons b ts =>
      obtain ⟨v, w, h0, r3, r4⟩ := r2
      cases h0
      cases ts with
      | nil => exact ⟨f, a, b, t, al, r1, r3, e, q⟩
      | cons c ts => obtain ⟨v, w, h0, _⟩ := r4; cases h0
theorem rprim1 {K : PySem.W.Frag} {p : P} {x : V} {H : Hp} {Q : VK} (h : rPrim K p [x] H Q) : ∃ f a t, Alc H f ∧ RepW K H f a x ∧ primEv p [a] = some t ∧ ∀ v H' f', New K H f H' f' t v → Q v H' := by
  obtain ⟨f, ts, t, al, r, e, q⟩ := h
  cases ts with
  | nil => unfold RepWs at r; cases r
  | cons a ts =>
    obtain ⟨v, w, h0, r1, r2⟩ := r
    cases h0
    cases ts with
    | nil => exact ⟨f, a, t, al, r1, e, q⟩
    | cons b ts => obtain ⟨v, w, h0, _⟩ := r2; cases h0
theorem rprim3 {K : PySem.W.Frag} {p : P} {x y z : V} {H : Hp} {Q : VK} (h : rPrim K p [x, y, z] H Q) : ∃ f a b c t, Alc H f ∧ RepW K H f a x ∧ RepW K H f b y ∧ RepW K H f c z ∧ primEv p [a, b, c] = some t ∧ ∀ v H' f', New K H f H' f' t v → Q v H' := by
  obtain ⟨f, ts, t, al, r, e, q⟩ := h
  cases ts with
  | nil => unfold RepWs at r; cases r
  | cons a ts =>
    obtain ⟨v, w, h0, r1, r2⟩ := r
    cases h0
    cases ts with
    | nil => unfold RepWs at r2; cases r2
    | cons b ts =>
      obtain ⟨v, w, h0, r3, r4⟩ := r2
      cases h0
      cases ts with
      | nil => unfold RepWs at r4; cases r4
      | cons c ts =>
        obtain ⟨v, w, h0, r5, r6⟩ := r4
        cases h0
        cases ts with
        | nil => exact ⟨f, a, b, c, t, al, r1, r3, r5, e, q⟩
        | cons d ts => obtain ⟨v, w, h0, _⟩ := r6; cases h0
theorem XOk.gl (ok : XOk R M X) {x : Str} (h : M.glo x = true) : Gl X x ∧ (x == ("__debug__" : Str)) = false ∧ x ≠ "__name__" := by
  unfold MC.glo at h
  rw [Bool.and_eq_true] at h
  obtain ⟨h1, h2⟩ := h
  simp only [okName, Bool.and_eq_true, Bool.not_eq_true', beq_eq_false_iff_ne, ne_eq] at h2
  refine ⟨?_, beq_eq_false_iff_ne.mpr h2.1.1, h2.2⟩
  show X.env.scope.names.lookup x = some .globalImplicit
  rw [ok.sc]
  split at h1
  · assumption
  · cases h1
theorem XOk.vi (ok : XOk R M X) {i : Nat} {x : Str} (h : M.vis i x = true) : X.N[i]? = some x ∧ Vis X.env.scope x ∧ (x == ("__debug__" : Str)) = false ∧ (x == ("__classdict__" : Str)) = false := by
  unfold MC.vis at h
  simp only [Bool.and_eq_true, decide_eq_true_eq] at h
  obtain ⟨⟨h0, h1⟩, h2⟩ := h
  simp only [okName, Bool.and_eq_true, Bool.not_eq_true', beq_eq_false_iff_ne, ne_eq] at h2
  refine ⟨by rw [ok.N]; exact h0, ?_, beq_eq_false_iff_ne.mpr h2.1.1, beq_eq_false_iff_ne.mpr h2.1.2⟩
  unfold Vis
  rw [ok.sc]
  split at h1 <;> first | exact .inl (by assumption) | exact .inr (.inl (by assumption)) | exact .inr (.inr (by assumption)) | cases h1
theorem pe_slot (ok : XOk R M X) {i : Nat} {x : Str} {pos : Pos} (h : M.vis i x = true) : PE X (.Name x pos) (tVar i) := by
  obtain ⟨h1, h2, h3, h4⟩ := ok.vi h
  exact pe_var h1 h2 h3 h4
theorem bi_boot (b : Bi) : bootBuiltins b.nm = some b.val := by
  cases b <;> first | exact boot_len | exact boot_abs | exact boot_max | exact boot_min | exact boot_sum | exact boot_all | exact boot_any | exact PySem.boot_tuple | exact PySem.boot_list | exact PySem.boot_int | exact PySem.boot_str | decide +kernel
theorem bi_blt (b : Bi) : b.nm ∈ bltNames := by cases b <;> decide +kernel
theorem bi_call (ok : XOk R M X) {b : Bi} {e : Expr} {es : List Expr} {t : TA} {p pos : Pos} (hg : M.glo b.nm = true) (hp : plainE e = true) (hps : es.all plainE = true) (ha : PA X (e :: es) t) : PE X (.Call (.Name b.nm p) (e :: es) [] pos) (tCB (rBi X.K b) t) := by
  obtain ⟨g1, g2, g3⟩ := ok.gl hg
  have hm := ok.blt _ (bi_blt b)
  have hv := bi_boot b
  have hc := call_bi (X := X) ok.calm b
  cases b <;> first
    | exact pe_callB hc g1 hm hv ha g3 g2 (star_of hp _ _) (stars_no hps)
    | exact pe_callTy hc g1 hm hv ha g3 g2 (star_of hp _ _) (stars_no hps)
end
end Hw
set_option Elab.async false
set_option linter.all false
set_option maxRecDepth 100000
set_option maxHeartbeats 1000000
/-! repr -/
namespace Hw
open PySem PySem.Spec PyProof.Rows L2
theorem listText_le : ∀ (ts : List Str) (k : Nat) (acc : Str), (textFrom k acc ts).length ≤ acc.length + (ts.map fun t => t.length + 2).sum
  | [], k, acc => by show acc.length ≤ _; simp
  | t :: r, k, acc => by
    have h := listText_le r (k + 1) (acc ++ (if k > 0 then ", " else "" : String) ++ t)
    have e : (acc ++ (if k > 0 then ", " else "" : String) ++ t).length ≤ acc.length + 2 + t.length := by
      rw [strLen_append, strLen_append]
      split
      · exact Nat.le_refl _
      · exact Nat.add_le_add_right (Nat.add_le_add_left (Nat.zero_le _) _) _
    show (textFrom (k + 1) _ r).length ≤ _
    simp only [List.map_cons, List.sum_cons]
    omega
theorem join_le : ∀ ts : List Str, (Str.join ", " ts).length ≤ (ts.map fun t => t.length + 2).sum
  | [] => Nat.zero_le _
  | [x] => by show x.length ≤ _; simp
  | x :: y :: r => by
    have ih := join_le (y :: r)
    show (x ++ ", " ++ Str.join ", " (y :: r)).length ≤ _
    have e2 : ((", " : String) : Str).length = 2 := rfl
    rw [strLen_append, strLen_append, e2, List.map_cons, List.sum_cons]
    omega
/-- dicts bare -/
def okD : PyData → Bool
  | .list ds => okDL ds
  | .tuple ds => okDL ds
  | .dict kvs => kvs.isEmpty
  | _ => true
where okDL : List PyData → Bool
  | [] => true
  | d :: ds => okD d && okDL ds
mutual
theorem noDict_ok : ∀ d : PyData, noDict d = true → okD d = true
  | .none, _ => rfl
  | .bool b, _ => rfl
  | .int i, _ => rfl
  | .str x, _ => rfl
  | .list xs, h => by unfold okD; exact noDict_okL xs (by unfold noDict at h; exact h)
  | .tuple xs, h => by unfold okD; exact noDict_okL xs (by unfold noDict at h; exact h)
  | .dict _, h => by unfold noDict at h; cases h
theorem noDict_okL : ∀ xs : List PyData, noDict.noDictL xs = true → okD.okDL xs = true
  | [], _ => rfl
  | x :: xs, h => by
    unfold noDict.noDictL at h
    rw [Bool.and_eq_true] at h
    unfold okD.okDL
    rw [noDict_ok x h.1, noDict_okL xs h.2]; rfl
end
mutual
theorem noLst_ok : ∀ d : PyData, noLst d = true → okD d = true
  | .none, _ => rfl
  | .bool b, _ => rfl
  | .int i, _ => rfl
  | .str x, _ => rfl
  | .list xs, h => by unfold noLst at h; cases h
  | .tuple xs, h => by unfold okD; exact noLst_okL xs (by unfold noLst at h; exact h)
  | .dict _, h => by unfold noLst at h; unfold okD; exact h
theorem noLst_okL : ∀ xs : List PyData, noLst.noLstL xs = true → okD.okDL xs = true
  | [], _ => rfl
  | x :: xs, h => by
    unfold noLst.noLstL at h
    rw [Bool.and_eq_true] at h
    unfold okD.okDL
    rw [noLst_ok x h.1, noLst_okL xs h.2]; rfl
end
mutual
theorem szD_ok : ∀ d : PyData, okD d = true → (PyData.shown d).length ≤ szD d
  | .none, _ => by simp only [PyData.shown]; decide
  | .bool b, _ => by simp only [PyData.shown]; cases b <;> decide
  | .int i, _ => by
    simp only [PyData.shown, szD]
    have h := int_text_length_le (a := i) (k := i.natAbs.log2 + 1) (Nat.succ_pos _) (Nat.lt_succ_self _)
    have e : (Str.ofString (toString i)).length = (toString i).length := PySem.ofString_length _
    show (Str.ofString (toString i)).length ≤ _
    omega
  | .str x, _ => by simp only [PyData.shown, szD]; exact Nat.le_refl _
  | .list xs, h => by
    have h2 := szL_ok xs (by unfold okD at h; exact h)
    simp only [PyData.shown, szD]
    unfold listText
    have := listText_le (PyData.shownAll xs) 0 "["
    rw [strLen_append]
    have e1 : ((("[" : String) : Str)).length = 1 := rfl
    have e2 : ((("]" : String) : Str)).length = 1 := rfl
    omega
  | .tuple xs, h => by
    have h2 := szL_ok xs (by unfold okD at h; exact h)
    simp only [PyData.shown, szD]
    unfold tupleText
    have := join_le (PyData.shownAll xs)
    rw [strLen_append, strLen_append]
    have e1 : ((("(" : String) : Str)).length = 1 := rfl
    have e2 : (((if (PyData.shownAll xs).length == 1 then ",)" else ")" : String) : Str)).length ≤ 2 := by split <;> decide
    omega
  | .dict kvs, h => by
    unfold okD at h
    cases kvs with
    | nil => simp only [PyData.shown, szD]; decide
    | cons _ _ => cases h
theorem szL_ok : ∀ xs : List PyData, okD.okDL xs = true → ((PyData.shownAll xs).map fun t => t.length + 2).sum ≤ szL xs
  | [], _ => by simp [PyData.shownAll, szL]
  | x :: xs, h => by
    unfold okD.okDL at h
    rw [Bool.and_eq_true] at h
    have h1 := szD_ok x h.1
    have h2 := szL_ok xs h.2
    simp only [PyData.shownAll, szL, List.map_cons, List.sum_cons]
    omega
end
mutual
theorem noDict_has : ∀ d : PyData, noDict d = true → PyData.hasDict d = false
  | .none, _ => by simp only [PyData.hasDict]
  | .bool b, _ => by simp only [PyData.hasDict]
  | .int i, _ => by simp only [PyData.hasDict]
  | .str x, _ => by simp only [PyData.hasDict]
  | .list xs, h => by simp only [PyData.hasDict]; exact noDict_hasL xs (by unfold noDict at h; exact h)
  | .tuple xs, h => by simp only [PyData.hasDict]; exact noDict_hasL xs (by unfold noDict at h; exact h)
  | .dict _, h => by unfold noDict at h; cases h
theorem noDict_hasL : ∀ xs : List PyData, noDict.noDictL xs = true → PyData.hasDictAll xs = false
  | [], _ => by simp only [PyData.hasDictAll]
  | x :: xs, h => by
    unfold noDict.noDictL at h
    rw [Bool.and_eq_true] at h
    simp only [PyData.hasDictAll, noDict_has x h.1, noDict_hasL xs h.2, Bool.or_self]
end
section
variable {X : Cx} {pins : List (Addr × Obj)} {σ : L2.St} {H : Hp} {s : Shared}
mutual
theorem Dr.reads (I : Inv X pins σ H s) : ∀ (d : PyData) (v : V) (u : Value), Dr X.K H d v → RelV v u → noLst d = true → ∃ as, Reads s.heap u d as ∧ sysModules ∉ as
  | .none, _, _, h, r, _ => by
    unfold Dr at h
    subst h
    cases r
    exact ⟨_, Reads.none, by simp⟩
  | .bool b, _, _, h, r, _ => by
    unfold Dr at h
    subst h
    cases r
    exact ⟨_, Reads.bool b, by simp⟩
  | .int i, _, _, h, r, _ => by
    unfold Dr at h
    subst h
    obtain ⟨t, rfl⟩ := r
    exact ⟨_, Reads.int i t, by simp⟩
  | .str x, _, _, h, r, _ => by
    unfold Dr at h
    subst h
    obtain ⟨t, rfl⟩ := r
    exact ⟨_, Reads.str x t, by simp⟩
  | .list ds, _, _, _, _, n => by unfold noLst at n; cases n
  | .tuple ds, _, _, h, r, n => by
    unfold Dr at h
    obtain ⟨a, xs, rfl, hs, hd⟩ := h
    cases r
    obtain ⟨its, rv, ⟨o, ho, hc, m, hdt⟩, _⟩ := I.tuple (SqT.of hs)
    obtain ⟨as, hr, na⟩ := Dr.readsAll I ds _ its hd rv (by unfold noLst at n; exact n)
    exact ⟨_, Reads.tuple ho hc hdt hr, na⟩
  | .dict kvs, _, _, h, r, _ => by
    unfold Dr at h
    obtain ⟨a, rfl, rfl, hs⟩ := h
    cases r
    obtain ⟨_, hne, vs, kv, o, es, ep, ho, hx, hdt, _, hp, _⟩ := dk_of I.hok hs
    cases kv
    have he : es.toList = [] := by
      have := hp
      cases h : es.toList with
      | nil => rfl
      | cons _ _ => rw [h] at this; cases this
    exact ⟨a :: [] ++ [], Reads.dict ho hx.1 hdt (by rw [he]; exact ReadsAll.nil) (by rw [he]; exact ReadsAll.nil), by simpa using fun z => by simp [z] at hne⟩
theorem Dr.readsAll (I : Inv X pins σ H s) : ∀ (ds : List PyData) (vs : List V) (us : List Value), DrL X.K H ds vs → Vals vs us → noLst.noLstL ds = true → ∃ as, ReadsAll s.heap us ds as ∧ sysModules ∉ as
  | [], _, _, h, r, _ => by
    unfold DrL at h
    subst h
    cases r
    exact ⟨_, ReadsAll.nil, by simp⟩
  | d :: ds, _, _, h, r, n => by
    unfold DrL at h
    obtain ⟨v, w, rfl, h1, h2⟩ := h
    unfold noLst.noLstL at n
    rw [Bool.and_eq_true] at n
    cases r with
    | cons r1 r2 =>
      obtain ⟨as, q1, n1⟩ := Dr.reads I d _ _ h1 r1 n.1
      obtain ⟨bs, q2, n2⟩ := Dr.readsAll I ds _ _ h2 r2 n.2
      exact ⟨_, ReadsAll.cons q1 q2, by simp [n1, n2]⟩
end
end
def rRpr (K : PySem.W.Frag) : RL := fun vs H Q => ∃ v d, vs = [v] ∧ (Dp K H v d ∧ noDict d = true ∨ Dr K H d v ∧ noLst d = true) ∧ plainR d = true ∧ Q (.str (PyData.shown d)) H
theorem call_rpr {X : Cx} (g : Hq.Gd X.A) (hu : X.A.units + 65 < cLine) : CallR X (.builtin "repr") (rRpr X.K) := by
  intro pins s σ H xs us Q I r h
  obtain ⟨v, d, rfl, hd, hp, q⟩ := h
  unfold plainR at hp
  simp only [Bool.and_eq_true, decide_eq_true_eq] at hp
  obtain ⟨⟨⟨nd, sh⟩, dp⟩, sz⟩ := hp
  obtain ⟨u, rfl, ru⟩ := vals1 r
  obtain ⟨as, rd, hsm, okd⟩ : ∃ as, Reads s.heap u d as ∧ (d.hasDict = true → sysModules ∉ as) ∧ okD d = true := by
    rcases hd with ⟨hd, n⟩ | ⟨hd, n⟩
    · obtain ⟨as, rd⟩ := Dp.reads I d v u hd ru
      exact ⟨as, rd, PyData.noDict_hsm (noDict_has d n), noDict_ok d n⟩
    · obtain ⟨as, rd, na⟩ := Dr.reads I d v u hd ru n
      exact ⟨as, rd, fun _ => na, noLst_ok d n⟩
  have hz : (PyData.shown d).length ≤ sizeLine := Nat.le_trans (szD_ok d okd) sz
  have go : ∀ a, u = .ref a → wpAny (model X.prog X.w) X.A (call (.builtin "repr") [u]) (EP X pins σ Q) X.xe s := by
    rintro a rfl
    refine repr_of_reads' rd sh hsm g (by omega) (fun _ _ e => e) (fun h' t tk hk => ?_) hz
    exact ⟨.str (PyData.shown d), H, I.kept hk, ⟨_, rfl⟩, q⟩
  cases rd with
  | none => exact PySem.P.repr_of_none ⟨.str _, H, I.tok _, ⟨_, rfl⟩, by simpa only [PyData.shown] using q⟩
  | bool b => exact PySem.P.repr_of_bool ⟨.str _, H, I.tok _, ⟨_, rfl⟩, by simpa only [PyData.shown] using q⟩
  | int i t => exact PySem.P.repr_of_int (by simpa [PyData.showable] using sh) ⟨.str _, H, I.tok _, ⟨_, rfl⟩, by simpa only [PyData.shown] using q⟩
  | str x t => exact PySem.P.repr_of_str ⟨.str _, H, I.tok _, ⟨_, rfl⟩, by simpa only [PyData.shown] using q⟩ (by simpa only [PyData.shown] using hz)
  | list _ _ _ _ => exact go _ rfl
  | tuple _ _ _ _ => exact go _ rfl
  | dict _ _ _ _ _ => exact go _ rfl
end Hw
set_option Elab.async false
set_option linter.all false
set_option maxRecDepth 100000
set_option maxHeartbeats 1000000
/-! primitive operations keep the interpreter's word -/
namespace Hw
open PySem PySem.Spec PyProof.Rows L2
section
variable {R : RC} {M : MC} {X : Cx}
theorem PEs.inv1 {as : List CA} {e : Expr} (h : PEs X R as [e]) : ∃ c, as = [c] ∧ plainE e = true ∧ PE X e (tA R c) := by
  cases as with
  | nil => unfold PEs at h; cases h
  | cons c as =>
    cases as with
    | nil => obtain ⟨e', h0, h1, h2⟩ := PEs.one h; cases h0; exact ⟨c, rfl, h1, h2⟩
    | cons d as => have := PEs.length h; simp at this
theorem PEs.inv2 {as : List CA} {e e2 : Expr} (h : PEs X R as [e, e2]) : ∃ c d, as = [c, d] ∧ plainE e = true ∧ PE X e (tA R c) ∧ plainE e2 = true ∧ PE X e2 (tA R d) := by
  have l := PEs.length h
  match as, l, h with
  | [c, d], _, h => obtain ⟨e', e2', h0, h1, h2, h3, h4⟩ := PEs.two h; cases h0; exact ⟨c, d, rfl, h1, h2, h3, h4⟩
theorem PEs.inv3 {as : List CA} {e e2 e3 : Expr} (h : PEs X R as [e, e2, e3]) : ∃ c d f, as = [c, d, f] ∧ plainE e = true ∧ PE X e (tA R c) ∧ plainE e2 = true ∧ PE X e2 (tA R d) ∧ plainE e3 = true ∧ PE X e3 (tA R f) := by
  have l := PEs.length h
  match as, l, h with
  | [c, d, f], _, h => obtain ⟨e', e2', e3', h0, h1, h2, h3, h4, h5, h6⟩ := PEs.three h; cases h0; exact ⟨c, d, f, rfl, h1, h2, h3, h4, h5, h6⟩
theorem po_int {e : Expr} {te : TE} (h : PE X e te) : PO X (some e) (tPart te) := po_some h
theorem int2_q {K : PySem.W.Frag} {f : Fp} {H : Hp} {p : P} {x y : V} {Q : VK} {g : Int → Int → Option Int} {a b t : Tr} (r1 : RepW K H f a x) (r2 : RepW K H f b y) (e : int2 g a b = some t) (q : ∀ v H' f', New K H f H' f' t v → Q v H') :
    ∃ i j k, x = .int i ∧ y = .int j ∧ g i j = some k ∧ Q (.int k) H := by
  obtain ⟨i, j, k, h1, h2, h3, rfl⟩ := int2_ok (K := K) r1 r2 e
  exact ⟨i, j, k, h1, h2, h3, q _ _ _ (New.int _)⟩
theorem noMark {e : Expr} (h : plainE e = true) (o : CmpOp) : behindInMarks o e = false := by
  cases e <;> first | rfl | cases h
theorem slice_of {K : PySem.W.Frag} {f : Fp} {H : Hp} {x : V} {lo hi : Option Int} {a t : Tr} {Q : VK} (al : Alc H f) (r1 : RepW K H f a x) (e : slEv a lo hi = some t) (q : ∀ v H' f', New K H f H' f' t v → Q v H') : rSl2 K x lo hi H Q := sl_ok al r1 e q
theorem rg_ok {i j : Int} (h : rgOkB i j = true) : RgOk i j := by
  unfold rgOkB at h
  rw [Bool.and_eq_true] at h
  have h1 := okR_le h.1
  have h2 := okR_le h.2
  exact ⟨by omega, by omega, by omega, by omega, by omega⟩
theorem prim_sound (ok : XOk R M X) {p : P} {e : Expr} {es : List Expr} {as : List CA} (h : primArgs M p e = some es) (hs : PEs X R as es) : PE X e (tE R (.prim p as)) := by
  have hK := ok.K
  unfold primArgs at h
  split at h
  · cases h
    obtain ⟨c, d, rfl, p1, h1, p2, h2⟩ := hs.inv2
    refine PE.imp (pe_op op_add4 h1 h2) fun σ H Q q => prim2 (r := rAdd4 X.K) (fun x y H1 q => ?_) q
    obtain ⟨f, a, b, t, al, r1, r2, e, q⟩ := rprim2 q
    rw [hK]
    exact add_ok al r1 r2 e q
  · cases h
    obtain ⟨c, d, rfl, p1, h1, p2, h2⟩ := hs.inv2
    refine PE.imp (pe_op op_sub h1 h2) fun σ H Q q => prim2 (fun x y H1 q => ?_) q
    obtain ⟨f, a, b, t, al, r1, r2, e, q⟩ := rprim2 q
    obtain ⟨i, j, k, h1, h2, h3, q⟩ := int2_q (p := .sub) r1 r2 e q
    cases h3
    exact ⟨i, j, h1, h2, q⟩
  · cases h
    obtain ⟨c, d, rfl, p1, h1, p2, h2⟩ := hs.inv2
    refine PE.imp (pe_op op_mul4 h1 h2) fun σ H Q q => prim2 (r := rMul4 X.K) (fun x y H1 q => ?_) q
    obtain ⟨f, a, b, t, al, r1, r2, e, q⟩ := rprim2 q
    rw [hK]
    exact mul_ok al r1 r2 e q
  · cases h
    obtain ⟨c, d, rfl, p1, h1, p2, h2⟩ := hs.inv2
    refine PE.imp (pe_op op_fdivW h1 h2) fun σ H Q q => prim2 (fun x y H1 q => ?_) q
    obtain ⟨f, a, b, t, al, r1, r2, e, q⟩ := rprim2 q
    obtain ⟨i, j, k, h1, h2, h3, q⟩ := int2_q (p := .sub) r1 r2 e q
    split at h3
    · rename_i hc
      cases h3
      exact ⟨i, j, h1, h2, hc, q⟩
    · cases h3
  · cases h
    obtain ⟨c, d, rfl, p1, h1, p2, h2⟩ := hs.inv2
    refine PE.imp (pe_op op_mod h1 h2) fun σ H Q q => prim2 (fun x y H1 q => ?_) q
    obtain ⟨f, a, b, t, al, r1, r2, e, q⟩ := rprim2 q
    obtain ⟨i, j, k, h1, h2, h3, q⟩ := int2_q (p := .sub) r1 r2 e q
    split at h3
    · rename_i hc
      cases h3
      exact ⟨i, j, h1, h2, hc, q⟩
    · cases h3
  · cases h
    obtain ⟨c, d, rfl, p1, h1, p2, h2⟩ := hs.inv2
    refine PE.imp (pe_op op_pow h1 h2) fun σ H Q q => prim2 (fun x y H1 q => ?_) q
    obtain ⟨f, a, b, t, al, r1, r2, e, q⟩ := rprim2 q
    obtain ⟨i, j, k, h1, h2, h3, q⟩ := int2_q (p := .sub) r1 r2 e q
    split at h3
    · rename_i hc
      cases h3
      exact ⟨i, j, h1, h2, hc, q⟩
    · cases h3
  · cases h
    obtain ⟨c, rfl, p1, h1⟩ := hs.inv1
    refine PE.imp (pe_un un_neg h1) fun σ H Q q => prim1 (r := rU fun i => .int (-i)) (fun x H1 q => ?_) q
    obtain ⟨f, a, t, al, r1, e, q⟩ := rprim1 q
    obtain ⟨i, e1, rfl⟩ := Option.map_eq_some_iff.mp e
    exact ⟨i, asInt_rep r1 e1, q _ _ _ (New.int _)⟩
  · rename_i o a0 o' b0 pos
    split at h
    · rename_i ho
      cases h
      have ho := eqOp_of ho
      subst ho
      obtain ⟨c, d, rfl, p1, h1, p2, h2⟩ := hs.inv2
      refine PE.imp (pe_cmpR (op_cmp ok.un o) h1 h2 (noMark p2 o)) fun σ H Q q => prim2 (r := rCmp X.K o) (fun x y H1 q => ?_) q
      obtain ⟨f, a, b, t, al, r1, r2, e, q⟩ := rprim2 q
      obtain ⟨r, e1, rfl⟩ := Option.map_eq_some_iff.mp e
      rw [hK]
      exact cmp_ok r1 r2 e1 (q _ _ _ (New.bool _))
    · cases h
  · cases h
    obtain ⟨c, rfl, p1, h1⟩ := hs.inv1
    refine PE.imp (pe_slice (sl_2 (X := X)) h1 po_none po_none) fun σ H Q q => ?_
    refine prim1 (r := fun x H Q => rSl2 X.K x none none H Q) (fun x H1 q => ?_) q
    obtain ⟨f, a, t, al, r1, e, q⟩ := rprim1 q
    rw [hK]
    exact sl_ok al r1 e q
  · cases h
    obtain ⟨c, d, rfl, p1, h1, p2, h2⟩ := hs.inv2
    refine PE.imp (pe_slice (sl_2 (X := X)) h1 (po_some h2) po_none) fun σ H Q q => ?_
    refine prim2 (r := fun x y H Q => ∃ i, y = .int i ∧ rSl2 X.K x (some i) none H Q) (fun x y H1 q => ?_) q
    obtain ⟨f, a, b, t, al, r1, r2, e, q⟩ := rprim2 q
    obtain ⟨i, e1, e2⟩ := Option.bind_eq_some_iff.mp e
    rw [hK]
    exact ⟨i, asInt_rep r2 e1, sl_ok al r1 e2 q⟩
  · cases h
    obtain ⟨c, d, rfl, p1, h1, p2, h2⟩ := hs.inv2
    refine PE.imp (pe_slice (sl_2 (X := X)) h1 po_none (po_some h2)) fun σ H Q q => ?_
    refine prim2 (r := fun x y H Q => ∃ i, y = .int i ∧ rSl2 X.K x none (some i) H Q) (fun x y H1 q => ?_) q
    obtain ⟨f, a, b, t, al, r1, r2, e, q⟩ := rprim2 q
    obtain ⟨i, e1, e2⟩ := Option.bind_eq_some_iff.mp e
    rw [hK]
    exact ⟨i, asInt_rep r2 e1, sl_ok al r1 e2 q⟩
  · cases h
    obtain ⟨c, rfl, p1, h1⟩ := hs.inv1
    refine PE.imp (Hx.pe_revS h1) fun σ H Q q => ?_
    refine prim1 (r := fun x H1 Q => Hx.rRevS X.K x H1 Q) (fun x H1 q => ?_) q
    obtain ⟨f, a, t, al, r1, e, qq⟩ := rprim1 q
    have e : (match asList a with | some xs => some (lT xs.reverse) | none => (asTup a).map fun xs => .c (.tuple xs.reverse) : Option Tr) = some t := e
    split at e
    · rename_i xs e1
      cases e
      obtain ⟨p, vs, rfl, h1, d1⟩ := asList_rep r1 e1
      exact .inl ⟨p, vs, rfl, SqL.of h1, fun l hl => qq _ _ _ (New.lst hl al d1.reverse)⟩
    · obtain ⟨xs, e1, rfl⟩ := Option.map_eq_some_iff.mp e
      obtain ⟨p, vs, rfl, h1, d1⟩ := asTup_rep r1 e1
      exact .inr ⟨p, vs, rfl, SqT.of (mn_ext _ _ _ _ h1), fun l hl => qq _ _ _ (New.tup hl al d1.reverse)⟩
  · cases h
    obtain ⟨c, d, rfl, p1, h1, p2, h2⟩ := hs.inv2
    refine PE.imp (pe_ix ix_seq h1 h2 (plainIx p2)) fun σ H Q q => prim2 (r := rIx X.K) (fun x y H1 q => ?_) q
    obtain ⟨f, a, b, t, al, r1, r2, e, q⟩ := rprim2 q
    rw [hK]
    exact ix_ok r1 r2 e q
  · rename_i b x pos args pos2
    split at h
    · rename_i hc
      obtain ⟨rfl, hg, hl⟩ := hc
      cases h
      have hpl := hs.plain
      have hpa := hs.pa
      cases es with
      | nil => cases b <;> cases hl
      | cons e0 er =>
        rw [List.all_cons, Bool.and_eq_true] at hpl
        refine PE.imp (bi_call ok hg hpl.1 hpl.2 hpa) fun σ H Q q => ?_
        have q := prim_as q
        obtain ⟨Γ, f, pr, st, q⟩ := q
        refine ⟨Γ, f, pr, st, ?_⟩
        have key : ∀ vs H1, rPrim R.K (.bi b) vs H1 Q → rBi X.K b vs H1 Q := fun vs H1 q => by
          obtain ⟨f, ts, t, al, r, e, q⟩ := q
          rw [hK]
          exact bi_ok al r e q
        split at q
        · exact fun vs H' f' s s1 => key _ _ (q vs H' f' s s1)
        · exact q
        · exact q
    · cases h
  · rename_i T x pos a t pos2 pos3
    split at h
    · rename_i hc
      obtain ⟨rfl, hg, rfl, hg2, hb, hv⟩ := hc
      cases h
      obtain ⟨c, rfl, p1, h1⟩ := hs.inv1
      obtain ⟨g1, g2, g3⟩ := ok.gl hg
      obtain ⟨k1, k2, k3⟩ := ok.gl hg2
      have hT : PE X (.Name (Str.ofString T) pos2) (tC (.ty T)) := pe_bltn k1 (ok.blt _ (by simpa using hb)) hv rfl k3 k2
      have ha := pa_cons' p1 h1 (pa_cons' (e := .Name (Str.ofString T) pos2) rfl hT pa_nil)
      refine PE.imp (pe_callB call_isi g1 (ok.blt _ (by decide +kernel)) boot_isinstance ha g3 g2 (star_of p1 _ _) rfl) fun σ H Q q => ?_
      refine prim1 (r := fun x H1 Q => rIsi X.K [x, .ty T] H1 Q) (fun x H1 q => ?_) q
      obtain ⟨f, a, t, al, r1, e, qq⟩ := rprim1 q
      have e : (match tyName a with | some n => (kitB n T).map bT | none => none : Option Tr) = some t := e
      cases e1 : tyName a with
      | none => rw [e1] at e; cases e
      | some n =>
        rw [e1] at e
        obtain ⟨r, e2, rfl⟩ := Option.map_eq_some_iff.mp e
        rw [hK]
        exact ⟨x, .ty T, .type n, .type T, r, rfl, .ty T, tyName_rep r1 e1, kit_ty e2, qq _ _ _ (New.bool _)⟩
    · cases h
  · rename_i x pos y pos2 a pos3 pos4
    split at h
    · rename_i hc
      obtain ⟨rfl, hg, rfl, hg2⟩ := hc
      cases h
      obtain ⟨c, rfl, p1, h1⟩ := hs.inv1
      obtain ⟨g1, g2, g3⟩ := ok.gl hg
      obtain ⟨k1, k2, k3⟩ := ok.gl hg2
      refine PE.imp (pe_listRg ok.calm g1 (ok.blt _ (by decide +kernel)) (prg_1 k1 (ok.blt _ (by decide +kernel)) h1 (star_of p1 _ _))) fun σ H Q q => ?_
      refine prim1 (r := fun x H1 Q => ∃ n, x = .int n ∧ RgOk 0 n ∧ ∀ q, H1 q = none → Q (.ref q) (upd H1 q (.lst (rgV 0 n)))) (fun x H1 q => ?_) q
      obtain ⟨f, a, t, al, r1, e, q⟩ := rprim1 q
      obtain ⟨n, e1, e2⟩ := Option.bind_eq_some_iff.mp e
      split at e2
      · rename_i hr
        cases e2
        exact ⟨n, asInt_rep r1 e1, rg_ok hr, fun l hl => q _ _ _ (New.lst hl al rg_dr)⟩
      · cases e2
    · cases h
  · rename_i x pos y pos2 a b pos3 pos4
    split at h
    · rename_i hc
      obtain ⟨rfl, hg, rfl, hg2⟩ := hc
      cases h
      obtain ⟨c, d, rfl, p1, h1, p2, h2⟩ := hs.inv2
      obtain ⟨g1, g2, g3⟩ := ok.gl hg
      obtain ⟨k1, k2, k3⟩ := ok.gl hg2
      refine PE.imp (pe_listRg ok.calm g1 (ok.blt _ (by decide +kernel)) (prg_2 k1 (ok.blt _ (by decide +kernel)) h1 h2 (star_of p1 _ _) (star_of p2 _ _) (stars_no (es := [b]) (by rw [List.all_cons, p2]; rfl)))) fun σ H Q q => ?_
      refine prim2 (r := fun x y H1 Q => ∃ i j, x = .int i ∧ y = .int j ∧ RgOk i j ∧ ∀ q, H1 q = none → Q (.ref q) (upd H1 q (.lst (rgV i j)))) (fun x y H1 q => ?_) q
      obtain ⟨f, a, b, t, al, r1, r2, e, q⟩ := rprim2 q
      obtain ⟨i, e1, e2⟩ := Option.bind_eq_some_iff.mp e
      obtain ⟨j, e3, e4⟩ := Option.bind_eq_some_iff.mp e2
      split at e4
      · rename_i hr
        cases e4
        exact ⟨i, j, asInt_rep r1 e1, asInt_rep r2 e3, rg_ok hr, fun l hl => q _ _ _ (New.lst hl al rg_dr)⟩
      · cases e4
    · cases h
  · rename_i x pos y pos2 a pos3 pos4
    split at h
    · rename_i hc
      obtain ⟨rfl, hg, rfl, hg2⟩ := hc
      cases h
      obtain ⟨c, rfl, p1, h1⟩ := hs.inv1
      obtain ⟨g1, g2, g3⟩ := ok.gl hg
      obtain ⟨k1, k2, k3⟩ := ok.gl hg2
      refine PE.imp (pe_tupRg ok.calm g1 (ok.blt _ (by decide +kernel)) (prg_1 k1 (ok.blt _ (by decide +kernel)) h1 (star_of p1 _ _))) fun σ H Q q => ?_
      refine prim1 (r := fun x H1 Q => ∃ n, x = .int n ∧ RgOk 0 n ∧ ∀ q, H1 q = none → Q (.ref q) (upd H1 q (.tup (rgV 0 n)))) (fun x H1 q => ?_) q
      obtain ⟨f, a, t, al, r1, e, q⟩ := rprim1 q
      obtain ⟨n, e1, e2⟩ := Option.bind_eq_some_iff.mp e
      split at e2
      · rename_i hr
        cases e2
        exact ⟨n, asInt_rep r1 e1, rg_ok hr, fun l hl => q _ _ _ (New.tup hl al rg_dr)⟩
      · cases e2
    · cases h
  · rename_i x pos y pos2 a b pos3 pos4
    split at h
    · rename_i hc
      obtain ⟨rfl, hg, rfl, hg2⟩ := hc
      cases h
      obtain ⟨c, d, rfl, p1, h1, p2, h2⟩ := hs.inv2
      obtain ⟨g1, g2, g3⟩ := ok.gl hg
      obtain ⟨k1, k2, k3⟩ := ok.gl hg2
      refine PE.imp (pe_tupRg ok.calm g1 (ok.blt _ (by decide +kernel)) (prg_2 k1 (ok.blt _ (by decide +kernel)) h1 h2 (star_of p1 _ _) (star_of p2 _ _) (stars_no (es := [b]) (by rw [List.all_cons, p2]; rfl)))) fun σ H Q q => ?_
      refine prim2 (r := fun x y H1 Q => ∃ i j, x = .int i ∧ y = .int j ∧ RgOk i j ∧ ∀ q, H1 q = none → Q (.ref q) (upd H1 q (.tup (rgV i j)))) (fun x y H1 q => ?_) q
      obtain ⟨f, a, b, t, al, r1, r2, e, q⟩ := rprim2 q
      obtain ⟨i, e1, e2⟩ := Option.bind_eq_some_iff.mp e
      obtain ⟨j, e3, e4⟩ := Option.bind_eq_some_iff.mp e2
      split at e4
      · rename_i hr
        cases e4
        exact ⟨i, j, asInt_rep r1 e1, asInt_rep r2 e3, rg_ok hr, fun l hl => q _ _ _ (New.tup hl al rg_dr)⟩
      · cases e4
    · cases h
  · rename_i x pos a pos2
    split at h
    · rename_i hc
      obtain ⟨rfl, hg⟩ := hc
      cases h
      obtain ⟨c, rfl, p1, h1⟩ := hs.inv1
      obtain ⟨g1, g2, g3⟩ := ok.gl hg
      have ha := pa_cons' p1 h1 pa_nil
      have un := ok.un
      refine PE.imp (pe_callB (call_rpr ok.gd un) g1 (ok.blt _ (by decide +kernel)) boot_repr ha g3 g2 (star_of p1 _ _) rfl) fun σ H Q q => ?_
      refine prim1 (r := fun x H1 Q => rRpr X.K [x] H1 Q) (fun x H1 q => ?_) q
      obtain ⟨f, a, t, al, r1, e, qq⟩ := rprim1 q
      obtain ⟨d, e1, e2⟩ := Option.bind_eq_some_iff.mp e
      split at e2
      · rename_i hp
        cases e2
        rw [hK]
        refine ⟨x, d, rfl, ?_, hp, qq _ _ _ (New.flat (by unfold Dr; rfl))⟩
        unfold plainR at hp
        simp only [Bool.and_eq_true, Bool.or_eq_true] at hp
        rcases hp.1.1.1 with n | n
        · exact .inl ⟨see_dp r1 e1 n, n⟩
        · exact .inr ⟨see_dr r1 e1 n, n⟩
      · cases e2
    · cases h
  · cases h
end
end Hw
set_option Elab.async false
set_option linter.all false
set_option maxRecDepth 100000
set_option maxHeartbeats 1000000
/-! expressions match and keep the interpreter's word: helpers -/
namespace Hw
open PySem PySem.Spec PyProof.Rows L2

def pathOf : Expr → Option (Str × List Expr)
  | .Name x _ => some (x, [])
  | .Subscript a b _ => (pathOf a).map fun p => (p.1, p.2 ++ [b])
  | _ => none
def mLit : PyData → Const → Bool
  | .none, .none => true
  | .bool a, .bool b => a == b
  | .int i, .int j => i == j
  | .str x, .str y => decide (x = y)
  | _, _ => false
def mNames (M : MC) : List Nat → List Expr → Bool
  | [], [] => true
  | i :: is, .Name x _ :: es => M.loc i x && mNames M is es
  | _, _ => false
def mTg (M : MC) : CTg → Expr → Bool
  | .nm i, .Name x _ => M.loc i x
  | .tp is, .Tuple es _ _ => mNames M is es
  | _, _ => false
def CTg.slots : CTg → List Nat
  | .nm i => [i]
  | .tp is => is
def ownN (M : MC) (own : List Nat) : List (Str × Nat) := own.map fun i => (M.N.getD i Str.empty, i)
/-- a test whose truth is its value's -/
def tstE : Expr → Bool
  | .BoolOp .. => false
  | .UnaryOp .Not _ _ => false
  | .IfExp .. => false
  | _ => true
def isTupE : Expr → Bool
  | .Tuple .. => true
  | _ => false
def notCmp : Expr → Bool
  | .Compare .. => false
  | _ => true
mutual
def mE (M : MC) : CE → Expr → Bool
  | .var i, .Name x _ => M.vis i x
  | .mv i, .Name x _ => M.vis i x
  | .lit d, .Constant c _ _ => mLit d c
  | .glb x, .Name y _ => decide (x = y) && M.glo x
  | .prim p as, e => (match primArgs M p e with
    | some es => mAs M as es
    | none => false)
  | .tup as, .Tuple es _ _ => mAs M as es
  | .lst as, .List es _ => mAs M as es
  | .and_ a b, .BoolOp .And [v, w] _ => mE M a v && mE M b w
  | .and_ a b, .BoolOp .And (v :: w :: u :: r) pos => mE M a v && mE M b (.BoolOp .And (w :: u :: r) pos)
  | .or_ a b, .BoolOp .Or [v, w] _ => mE M a v && mE M b w
  | .or_ a b, .BoolOp .Or (v :: w :: u :: r) pos => mE M a v && mE M b (.BoolOp .Or (w :: u :: r) pos)
  | .not_ a, .UnaryOp .Not v _ => mE M a v
  | .ife c a b, .IfExp t v w _ => mT M c t && (mE M a v && mE M b w)
  | .chain o1 o2 ab c, .Compare a [p1, p2] [b, c'] _ => eqOp o1 p1 && eqOp o2 p2 && mAs M ab [a, b] && (plainE c' && mE M c c')
  | .call x as, .Call (.Name y _) (e :: es) [] _ => decide (x = y) && M.glo x && mAs M as (e :: es)
  | .lc own tg it cond elt, .ListComp e [⟨t, i, ifs, 0⟩] s _ => blkC M.N M.sc s (ownN M own) && mTg (M.blk s) tg t && (tg.slots.all fun j => own.contains j) && mIt M (isTupE t) it i && (mC (M.blk s) cond ifs && mE (M.blk s) elt e)
  | .pth i es, e => (match pathOf e with
    | some (x, bs) => M.vis i x && mEs M es bs
    | none => false)
  | .pop i as, .Call (.Attribute (.Name x _) m apos) args [] cpos => decide (m = "pop") && M.vis i x && (apos.endLine == cpos.line) && decide (as.length ≤ 1) && mAs M as args
  | .idx i a, .Call (.Attribute (.Name x _) m apos) [e] [] cpos => decide (m = "index") && M.vis i x && (apos.endLine == cpos.line) && (plainE e && mE M a e)
  | .stl a, e => notCmp e && mE M a e
  | .emp, .Dict [] [] _ => true
  | .sl2 a b c, .Subscript e (.Slice (some e1) (some e2) none _) _ => mE M a e && (mE M b e1 && mE M c e2)
  | _, _ => false
def mAs (M : MC) : List CA → List Expr → Bool
  | [], [] => true
  | a :: as, e :: es => plainE e && mA M a e && mAs M as es
  | _, _ => false
def mA (M : MC) : CA → Expr → Bool
  | .e a, e => mE M a e
  | .pk i, .Name x _ => M.vis i x
  | .io i, .Name x _ => M.vis i x
  | _, _ => false
def mEs (M : MC) : List CE → List Expr → Bool
  | [], [] => true
  | a :: as, e :: es => plainE e && mE M a e && mEs M as es
  | _, _ => false
def mT (M : MC) : CT → Expr → Bool
  | .pk i, .Name x _ => M.vis i x
  | .and_ a b, .BoolOp .And [v, w] _ => mT M a v && mT M b w
  | .and_ a b, .BoolOp .And (v :: w :: u :: r) pos => mT M a v && mT M b (.BoolOp .And (w :: u :: r) pos)
  | .or_ a b, .BoolOp .Or [v, w] _ => mT M a v && mT M b w
  | .or_ a b, .BoolOp .Or (v :: w :: u :: r) pos => mT M a v && mT M b (.BoolOp .Or (w :: u :: r) pos)
  | .not_ a, .UnaryOp .Not v _ => mT M a v
  | .e a, e => tstE e && mE M a e
  | _, _ => false
def mC (M : MC) : List CT → List Expr → Bool
  | [], [] => true
  | [c], [e] => mT M c e
  | _, _ => false
def mIt (M : MC) (tup : Bool) : CIt → Expr → Bool
  | .sq a, e => plainE e && mE M a e
  | .rng1 a, .Call (.Name x _) [e] [] _ => decide (x = "range") && M.glo x && (plainE e && mE M a e)
  | .rng2 as, .Call (.Name x _) [e, e2] [] _ => decide (x = "range") && M.glo x && mAs M as [e, e2]
  | .enm a, .Call (.Name x _) [e] [] _ => tup && decide (x = "enumerate") && M.glo x && (plainE e && mE M a e)
  | .zip as, .Call (.Name x _) [e, e2] [] _ => tup && decide (x = "zip") && M.glo x && mAs M as [e, e2]
  | .zip3 as, .Call (.Name x _) [e, e2, e3] [] _ => tup && decide (x = "zip") && M.glo x && mAs M as [e, e2, e3]
  | _, _ => false
end
end Hw
set_option Elab.async false
set_option linter.all false
set_option maxRecDepth 100000
set_option maxHeartbeats 1000000
/-! expressions, one by one -/
namespace Hw
open PySem PySem.Spec PyProof.Rows L2
section
variable {R : RC} {M : MC} {X : Cx} {σ : Sig} {H : Hp} {Q : VK}
theorem var_ok (h : tE R (.var i) σ H Q) : tVar i σ H Q := by
  obtain ⟨Γ, f, pr, st, h⟩ := h
  obtain ⟨h1, h2, g, ga, hs, hg, hl⟩ := id st
  simp only [ev] at h
  have easy : ∀ t : Tr, Γ[i]? = some t → t ≠ .gone → (∀ v g g', Rep R.K H f t v g → Rep R.K H f t v g') → (∀ v H' f', Stp H f pr H' f' → St1 R.K Γ σ H' f' pr v t → Q v H') → tVar i σ H Q := by
    intro t e n hz q
    obtain ⟨v, g', e1, r, _⟩ := hs.val e n
    exact ⟨v, e1, q v H f Stp.refl ⟨h1, h2, g, fun _ => 0, hs, hz _ _ _ r, fun a => by have := hl a; show 0 + (g a + pr a) ≤ f a; omega⟩⟩
  have hard : ∀ t : Tr, Γ[i]? = some t → t ≠ .gone → ∀ d, frz t = some d → (∀ v H' f', Stp H f pr H' f' → St1 R.K (Γ.set i (.c d)) σ H' f' pr v (.c d) → Q v H') → tVar i σ H Q := by
    intro t e n d e2 q
    obtain ⟨o, g1, g2, e3, ro, rs, hgl⟩ := hs.take e
    obtain ⟨v, rfl, r⟩ := ro.get n
    refine ⟨v, e3, ?_⟩
    have l : ∀ a, (fun a => f a - g1 a) a ≤ f a := fun a => Nat.sub_le _ _
    have dr : Dr R.K (mn H fun a => f a - g1 a) d v := r.frz l e2 fun a => by have := hl a; have := hgl a; have := h1 a; show g1 a + (f a - g1 a) ≤ 1; omega
    have rs' := rs.stp (stp_less (pr := g2) l) (fun _ => Nat.le_refl _)
    have il : i < (Γ.set i .gone).length := by rw [List.length_set]; exact (List.getElem?_eq_some_iff.mp e).1
    have put := RepS.put (i := i) (x := .c d) (o := some v) (g' := fun _ => 0) rs' (by rw [List.getElem?_set_self (by simpa using il)]) e3 (.mk (by unfold Rep; exact dr))
    rw [List.set_set] at put
    exact q v H _ (stp_less l) ⟨fun a => by have := h1 a; show f a - g1 a ≤ 1; omega, fun a ha => h2 a (Nat.le_trans ha (l a)), _, fun _ => 0, put, by unfold Rep; exact dr, fun a => by
      have := hl a; have := hgl a; show 0 + (0 + g2 a + pr a) ≤ f a - g1 a; omega⟩
  cases e : Γ[i]? with
  | none => simp only [e] at h
  | some t =>
    cases t with
    | c d => simp only [e] at h; exact easy _ e (by simp) (fun v g g' r => by unfold Rep at r ⊢; exact r) h
    | s ns => simp only [e] at h; exact easy _ e (by simp) (fun v g g' r => by unfold Rep at r ⊢; exact r) h
    | gone => simp only [e, frz, Option.map_none] at h
    | l xs =>
      simp only [e] at h
      cases e2 : frz (.l xs) with
      | none => simp only [e2, Option.map_none] at h
      | some d => simp only [e2, Option.map_some] at h; exact hard _ e (by simp) d e2 h
    | t xs =>
      simp only [e] at h
      cases e2 : frz (.t xs) with
      | none => simp only [e2, Option.map_none] at h
      | some d => simp only [e2, Option.map_some] at h; exact hard _ e (by simp) d e2 h
theorem mv_ok (h : tE R (.mv i) σ H Q) : tVar i σ H Q := by
  obtain ⟨Γ, f, pr, st, h⟩ := h
  obtain ⟨h1, h2, g, ga, hs, hg, hl⟩ := id st
  simp only [ev] at h
  cases e : Γ[i]? with
  | none => simp only [e] at h
  | some t =>
    by_cases n : t = .gone
    · subst n; simp only [e] at h
    · obtain ⟨o, g1, g2, e3, ro, rs, hgl⟩ := hs.take e
      obtain ⟨v, rfl, r⟩ := ro.get n
      have h' : ∀ v H' f', Stp H f pr H' f' → St1 R.K (Γ.set i .gone) σ H' f' pr v t → Q v H' := by
        cases t <;> first | exact absurd rfl n | (simp only [e] at h; exact h)
      exact ⟨v, e3, h' v H f Stp.refl ⟨h1, h2, g2, g1, rs, r, fun a => by have := hl a; have := hgl a; omega⟩⟩
theorem lit_ok {d : PyData} {c : Const} {j : Nat} {pos : Pos} (m : mLit d c = true) : PE X (.Constant c j pos) (tE R (.lit d)) := by
  have go : ∀ {v : V}, (∀ K H, Dr K H d v) → flatD d = true → ∀ σ H Q, tE R (.lit d) σ H Q → Q v H := by
    intro v hv fd σ H Q h
    obtain ⟨Γ, f, pr, st, h⟩ := h
    simp only [ev, fd, if_true] at h
    exact h v H f Stp.refl (st.new (New.flat (hv _ _)))
  cases d <;> cases c <;> first | (unfold mLit at m; cases m; done) | skip
  · exact PE.imp pe_non (go (fun _ _ => by unfold Dr; rfl) rfl)
  · have e := eq_of_beq (show (_ == _) = true from m)
    subst e
    exact PE.imp pe_bl (go (fun _ _ => by unfold Dr; rfl) rfl)
  · have e := eq_of_beq (show (_ == _) = true from m)
    subst e
    exact PE.imp pe_int (go (fun _ _ => by unfold Dr; rfl) rfl)
  · have e := of_decide_eq_true (show decide (_ = _) = true from m)
    subst e
    exact PE.imp pe_str (go (fun _ _ => by unfold Dr; rfl) rfl)
theorem glb_ok (ok : XOk R M X) {x : Str} {pos : Pos} (m : M.glo x = true) : PE X (.Name x pos) (tE R (.glb x)) := by
  obtain ⟨g1, g2, g3⟩ := ok.gl m
  cases e : R.F.gl x with
  | none =>
    exact ⟨fun pins s σ H Q I h => by
      obtain ⟨Γ, f, pr, st, h⟩ := h
      simp only [ev, e, Option.bind_none] at h⟩
  | some d =>
    obtain ⟨v, u, hm, r, hd⟩ := ok.gls x d e
    refine PE.imp (pe_glob g1 hm r g2) fun σ H Q h => ?_
    obtain ⟨Γ, f, pr, st, h⟩ := h
    simp only [ev, e, Option.bind_some] at h
    by_cases fd : flatD d = true
    · simp only [fd, if_true] at h
      exact h v H f Stp.refl (st.new (New.flat (hd _ _)))
    · simp only [fd] at h
      exact h.elim
theorem tmps_rep {K : PySem.W.Frag} {H : Hp} {f : Fp} {σ : Sig} : ∀ {avs : List AV} {vs : List V} {g : Fp} {ts : List Tr}, RepA K H f σ avs vs g → tmps avs = some ts → RepL K H f ts vs g
  | [], _, _, _, h, e => by unfold tmps at e; cases e; unfold RepA at h; unfold RepL; exact h
  | .tmp t :: avs, _, _, _, h, e => by
    unfold tmps at e
    obtain ⟨ts, e1, rfl⟩ := Option.map_eq_some_iff.mp e
    obtain ⟨v, r, g1, g2, rfl, h1, h2, h3⟩ := h
    unfold RepL
    exact ⟨v, r, g1, g2, rfl, h1, tmps_rep h2 e1, h3⟩
  | .pk _ :: _, _, _, _, _, e => by unfold tmps at e; cases e
  | .io _ :: _, _, _, _, _, e => by unfold tmps at e; cases e
theorem RepL.length {K : PySem.W.Frag} {H : Hp} {f : Fp} : ∀ {ts : List Tr} {vs : List V} {g : Fp}, RepL K H f ts vs g → vs.length = ts.length
  | [], _, _, h => by unfold RepL at h; rw [h]; rfl
  | t :: ts, _, _, h => by
    unfold RepL at h
    obtain ⟨v, r, g1, g2, rfl, h1, h2, h3⟩ := h
    simp [RepL.length h2]
/-- a new object beside the state, what is owned grows by g1 -/
theorem StA.laid {K : PySem.W.Frag} {Γ : List Tr} {f pr : Fp} {G G' : Fp → Prop} {p : Addr} {o : HO} (st : StA K Γ σ H f pr G) (n : H p = none) (g1 : Fp) (hg1 : ∀ a, g1 a ≤ one p a)
    (q : ∀ ga, G ga → Stp H f ga (upd H p o) (padd f g1) → G' (padd ga g1)) : StA K Γ σ (upd H p o) (padd f g1) pr G' ∧ Stp H f pr (upd H p o) (padd f g1) := by
  have al := st.alc
  obtain ⟨h1, h2, g, ga, hs, hg, hl⟩ := st
  have z := al.zero n
  have s : ∀ pr, Stp H f pr (upd H p o) (padd f g1) := fun pr => ⟨fun a u e e0 => ⟨Ext.new n a u e, by
    have hp : a ≠ p := ne_of_none e n
    have := hg1 a
    rw [one_ne hp] at this
    rw [padd_at]; omega⟩, fun a u _ e => Ext.new n a u e⟩
  refine ⟨⟨fun a => ?_, fun a ha => ?_, g, padd ga g1, hs.stp (s g) (fun _ => Nat.le_refl _), q ga hg (s ga), fun a => by have := hl a; simp only [padd_at]; omega⟩, s pr⟩
  · have := hg1 a
    by_cases hp : a = p
    · subst hp; rw [one_self] at this; rw [padd_at]; omega
    · rw [one_ne hp] at this; rw [padd_at]; have := h1 a; omega
  · by_cases hp : a = p
    · subst hp; exact ⟨o, upd_same⟩
    · have := hg1 a
      rw [one_ne hp] at this
      rw [padd_at] at ha
      obtain ⟨u, hu⟩ := h2 a (by omega)
      exact ⟨u, Ext.new n a u hu⟩
def zfp : Fp := fun _ => 0
theorem tup_ok {as : List CA} (h : tE R (.tup as) σ H Q) : tTup (tAs R as) σ H Q := by
  obtain ⟨Γ, f, pr, st, h⟩ := h
  refine ⟨Γ, f, pr, st, ?_⟩
  simp only [ev] at h
  cases q : evAs R.F as Γ with
  | none => simp only [q] at h
  | some r =>
    cases r with
    | ex y Γ1 => simp only [q] at h; exact h
    | ok avs Γ1 =>
      simp only [q] at h
      intro vs H1 f1 s1 st1
      cases q1 : tmps avs with
      | none => simp only [q1, Option.bind_none] at h
      | some ts =>
        simp only [q1, Option.bind_some] at h
        by_cases hl : ts.length ≤ sizeLine
        · rw [if_pos hl] at h
          obtain ⟨_, _, _, ga0, _, hg0, _⟩ := id st1
          refine ⟨by rw [(tmps_rep hg0 q1).length]; exact hl, fun p hp => ?_⟩
          have := StA.laid (p := p) (o := .tup vs) (G' := fun ga => Rep R.K (upd H1 p (.tup vs)) (padd f1 zfp) (tupT ts) (.ref p) ga) st1 hp zfp (fun a => Nat.zero_le _) fun ga hg s => by
            have rl := (tmps_rep hg q1).stp s (fun _ => Nat.le_refl _)
            have hz : mn (upd H1 p (.tup vs)) (padd f1 zfp) p = some (.tup vs) := mn_of (by rw [padd_at, st1.alc.zero hp]; rfl) upd_same
            unfold tupT
            split
            · rename_i ds e
              unfold Rep Dr
              exact ⟨p, vs, rfl, hz, stl_rep rl e⟩
            · unfold Rep
              exact ⟨p, vs, rfl, hz, rl.mono fun a => by rw [padd_at]; exact Nat.le_add_right _ _⟩
          exact h _ _ _ (s1.trans this.2 fun _ => Nat.le_refl _) this.1
        · rw [if_neg hl] at h; exact h.elim
theorem lst_ok {as : List CA} (h : tE R (.lst as) σ H Q) : tLst (tAs R as) σ H Q := by
  obtain ⟨Γ, f, pr, st, h⟩ := h
  refine ⟨Γ, f, pr, st, ?_⟩
  simp only [ev] at h
  cases q : evAs R.F as Γ with
  | none => simp only [q] at h
  | some r =>
    cases r with
    | ex y Γ1 => simp only [q] at h; exact h
    | ok avs Γ1 =>
      simp only [q] at h
      intro vs H1 f1 s1 st1
      cases q1 : tmps avs with
      | none => simp only [q1, Option.bind_none] at h
      | some ts =>
        simp only [q1, Option.bind_some] at h
        by_cases hl : ts.length ≤ sizeLine
        · rw [if_pos hl] at h
          obtain ⟨_, _, _, ga0, _, hg0, _⟩ := id st1
          refine ⟨by rw [(tmps_rep hg0 q1).length]; exact hl, fun p hp => ?_⟩
          have := StA.laid (p := p) (o := .lst vs) (G' := fun ga => Rep R.K (upd H1 p (.lst vs)) (padd f1 (one p)) (.l ts) (.ref p) ga) st1 hp (one p) (fun a => Nat.le_refl _) fun ga hg s => by
            have rl := (tmps_rep hg q1).stp s (fun _ => Nat.le_refl _)
            unfold Rep
            exact ⟨p, vs, ga, rfl, upd_same, rl, fun a => by rw [padd_at]; omega⟩
          exact h _ _ _ (s1.trans this.2 fun _ => Nat.le_refl _) this.1
        · rw [if_neg hl] at h; exact h.elim
/-- what is wished of an exception, from a longer way -/
theorem bT_val {K : PySem.W.Frag} {H : Hp} {f : Fp} {b : Bool} {v : V} {g : Fp} (h : Rep K H f (bT b) v g) : v = .bl b := by
  unfold bT Rep Dr at h; exact h
theorem asBool_bT {t : Tr} {b : Bool} (h : asBool t = some b) : t = bT b := by
  unfold asBool at h; split at h
  · cases h; rfl
  · cases h
theorem and_ok {a b : CE} (h : tE R (.and_ a b) σ H Q) : tAndV (tE R a) (tE R b) σ H Q := by
  obtain ⟨Γ, f, pr, st, h⟩ := h
  refine ⟨Γ, f, pr, st, ?_⟩
  simp only [ev] at h
  cases q : ev R.F a Γ with
  | none => simp only [q] at h
  | some r =>
    cases r with
    | ex y Γ1 => simp only [q] at h; exact h
    | ok t Γ1 =>
      simp only [q] at h
      intro v H1 f1 s1 st1
      cases q1 : asBool t with
      | none => simp only [q1] at h
      | some k =>
        have et := asBool_bT q1
        subst et
        obtain ⟨_, _, _, ga0, _, hg0, _⟩ := id st1
        refine ⟨k, bT_val hg0, ?_⟩
        cases k with
        | true =>
          simp only [q1] at h
          refine ⟨Γ1, f1, pr, st1.drop, ?_⟩
          cases q2 : ev R.F b Γ1 with
          | none => simp only [q2] at h
          | some r2 =>
            cases r2 with
            | ex y Γ2 => simp only [q2] at h; exact fun C H' f' hm s2 st2 => h C H' f' hm (s1.trans s2 fun _ => Nat.le_refl _) st2
            | ok u Γ2 => simp only [q2] at h; exact fun v H' f' s2 st2 => h v H' f' (s1.trans s2 fun _ => Nat.le_refl _) st2
        | false =>
          simp only [q1] at h
          exact h (.bl false) H1 f1 s1 (st1.drop.new (New.bool false))
theorem or_ok {a b : CE} (h : tE R (.or_ a b) σ H Q) : tOrV (tE R a) (tE R b) σ H Q := by
  obtain ⟨Γ, f, pr, st, h⟩ := h
  refine ⟨Γ, f, pr, st, ?_⟩
  simp only [ev] at h
  cases q : ev R.F a Γ with
  | none => simp only [q] at h
  | some r =>
    cases r with
    | ex y Γ1 => simp only [q] at h; exact h
    | ok t Γ1 =>
      simp only [q] at h
      intro v H1 f1 s1 st1
      cases q1 : asBool t with
      | none => simp only [q1] at h
      | some k =>
        have et := asBool_bT q1
        subst et
        obtain ⟨_, _, _, ga0, _, hg0, _⟩ := id st1
        refine ⟨k, bT_val hg0, ?_⟩
        cases k with
        | false =>
          simp only [q1] at h
          refine ⟨Γ1, f1, pr, st1.drop, ?_⟩
          cases q2 : ev R.F b Γ1 with
          | none => simp only [q2] at h
          | some r2 =>
            cases r2 with
            | ex y Γ2 => simp only [q2] at h; exact fun C H' f' hm s2 st2 => h C H' f' hm (s1.trans s2 fun _ => Nat.le_refl _) st2
            | ok u Γ2 => simp only [q2] at h; exact fun v H' f' s2 st2 => h v H' f' (s1.trans s2 fun _ => Nat.le_refl _) st2
        | true =>
          simp only [q1] at h
          exact h (.bl true) H1 f1 s1 (st1.drop.new (New.bool true))
theorem not_ok {K : PySem.W.Frag} (hK : K = R.K) {a : CE} (h : tE R (.not_ a) σ H Q) : tNotT K (tE R a) σ H Q := by
  subst hK
  obtain ⟨Γ, f, pr, st, h⟩ := h
  refine ⟨Γ, f, pr, st, ?_⟩
  simp only [ev] at h
  cases q : ev R.F a Γ with
  | none => simp only [q] at h
  | some r =>
    cases r with
    | ex y Γ1 => simp only [q] at h; exact h
    | ok t Γ1 =>
      simp only [q] at h
      intro v H1 f1 s1 st1
      cases q1 : truth t with
      | none => simp only [q1, Option.map_none] at h
      | some k =>
        simp only [q1, Option.map_some] at h
        obtain ⟨_, _, _, ga0, _, hg0, _⟩ := id st1
        exact ⟨k, truth_rep ⟨ga0, hg0⟩ q1, h _ H1 f1 s1 (st1.drop.new (New.bool _))⟩
theorem ife_ok {c : CT} {a b : CE} (h : tE R (.ife c a b) σ H Q) : tIf (tT R c) (tE R a) (tE R b) σ H Q := by
  obtain ⟨Γ, f, pr, st, h⟩ := h
  refine ⟨Γ, f, pr, st, ?_⟩
  simp only [ev] at h
  cases q : evT R.F c Γ with
  | none => simp only [q] at h
  | some r =>
    cases r with
    | ex y Γ1 => simp only [q] at h; exact h
    | ok k Γ1 =>
      intro H1 f1 s1 st1
      have go : ∀ d : CE, (match ev R.F d Γ1 with
          | some (.ok t Γ') => ∀ v H' f', Stp H f pr H' f' → St1 R.K Γ' σ H' f' pr v t → Q v H'
          | some (.ex x Γ') => ∀ C H' f', R.mg x = some (.ref C) → Stp H f pr H' f' → St0 R.K Γ' σ H' f' pr → R.W (.ref C) none σ H'
          | none => False) → tE R d σ H1 Q := by
        intro d h
        refine ⟨Γ1, f1, pr, st1, ?_⟩
        cases q2 : ev R.F d Γ1 with
        | none => simp only [q2] at h
        | some r2 =>
          cases r2 with
          | ex y Γ2 => simp only [q2] at h; exact fun C H' f' hm s2 st2 => h C H' f' hm (s1.trans s2 fun _ => Nat.le_refl _) st2
          | ok u Γ2 => simp only [q2] at h; exact fun v H' f' s2 st2 => h v H' f' (s1.trans s2 fun _ => Nat.le_refl _) st2
      cases k with
      | true => simp only [q] at h; exact go a h
      | false => simp only [q] at h; exact go b h
theorem flat_dr {K : PySem.W.Frag} {H H' : Hp} {d : PyData} {v : V} (h : Dp K H v d) (fd : flatD d = true) : Dr K H' d v := by
  cases d <;> first | (unfold flatD at fd; cases fd; done) | (cases h; unfold Dr; rfl)
theorem flat_nd {d : PyData} (fd : flatD d = true) : noDict d = true := by
  cases d <;> first | (unfold flatD at fd; cases fd; done) | rfl
theorem chain_ok {K : PySem.W.Frag} (hK : K = R.K) {o1 o2 : CmpOp} {a b : CA} {c : CE} (h : tE R (.chain o1 o2 [a, b] c) σ H Q) : tChain (rCmp K o1) (rCmp K o2) (tA R a) (tA R b) (tE R c) σ H Q := by
  subst hK
  unfold tChain
  refine tA.mono (as2 (Q := fun vs H2 => ∀ x y, vs = [x, y] → rCmp R.K o1 x y H2 fun z H3 => ∃ k, z = .bl k ∧ (if k = true then tE R c σ H3 fun w' H4 => rCmp R.K o2 y w' H4 Q else Q (.bl false) H3)) ?_) fun x H1 q => tA.mono q fun y H2 q => q x y rfl
  obtain ⟨Γ, f, pr, st, h⟩ := h
  refine ⟨Γ, f, pr, st, ?_⟩
  simp only [ev] at h
  cases q : evAs R.F [a, b] Γ with
  | none => simp only [q] at h
  | some r =>
    cases r with
    | ex y Γ1 => simp only [q] at h; exact h
    | ok avs Γ1 =>
      simp only [q] at h
      intro vs H1 f1 s1 st1 x y hxy
      subst hxy
      obtain ⟨_, _, g, ga0, hs, hg0, _⟩ := id st1
      cases qr : resolves Γ1 avs with
      | none => simp only [qr] at h
      | some ts =>
        have rw2 := resolves_rep hs hg0 qr
        obtain ⟨ta, tb, rfl, ra, rb⟩ : ∃ ta tb, ts = [ta, tb] ∧ RepW R.K H1 f1 ta x ∧ RepW R.K H1 f1 tb y := by
          cases ts with
          | nil => unfold RepWs at rw2; cases rw2
          | cons ta ts =>
            obtain ⟨v, w, h0, r1, r2⟩ := rw2
            cases h0
            cases ts with
            | nil => unfold RepWs at r2; cases r2
            | cons tb ts =>
              obtain ⟨v, w, h0, r3, r4⟩ := r2
              cases h0
              cases ts with
              | nil => exact ⟨ta, tb, rfl, r1, r3⟩
              | cons c ts => obtain ⟨v, w, h0, _⟩ := r4; cases h0
        simp only [qr] at h
        cases qc : cmpEv o1 ta tb with
        | none => simp only [qc] at h
        | some k =>
          refine cmp_ok ra rb qc ⟨k, rfl, ?_⟩
          cases k with
          | false =>
            simp only [qc] at h
            exact h (.bl false) H1 f1 s1 (st1.drop.new (New.bool false))
          | true =>
            simp only [qc] at h
            cases qs : see tb with
            | none => simp only [qs] at h
            | some db =>
              simp only [qs] at h
              by_cases fd : flatD db = true
              · simp only [fd, if_true] at h
                have dp := see_dp rb qs (flat_nd fd)
                refine ⟨Γ1, f1, pr, st1.drop, ?_⟩
                cases q2 : ev R.F c Γ1 with
                | none => simp only [q2] at h
                | some r2 =>
                  cases r2 with
                  | ex z Γ2 => simp only [q2] at h; exact fun C H' f' hm s2 st2 => h C H' f' hm (s1.trans s2 fun _ => Nat.le_refl _) st2
                  | ok tc Γ2 =>
                    simp only [q2] at h
                    intro w H4 f4 s2 st2
                    cases q3 : cmpEv o2 (.c db) tc with
                    | none => simp only [q3, Option.map_none] at h
                    | some k2 =>
                      simp only [q3, Option.map_some] at h
                      obtain ⟨_, _, _, gc, _, hgc, _⟩ := id st2
                      exact cmp_ok ⟨fun _ => 0, by unfold Rep; exact flat_dr dp fd⟩ ⟨gc, hgc⟩ q3 (h (.bl k2) H4 f4 (s1.trans s2 fun _ => Nat.le_refl _) (st2.drop.new (New.bool k2)))
              · simp only [fd] at h
                exact h.elim
end
end Hw
set_option Elab.async false
set_option linter.all false
set_option maxRecDepth 100000
set_option maxHeartbeats 1000000
/-! calls -/
namespace Hw
open PySem PySem.Spec PyProof.Rows L2
theorem argsOf_set {Γ : List Tr} {i : Nat} {x : Tr} : ∀ {avs : List AV}, i ∉ slotsOf avs → argsOf (Γ.set i x) avs = argsOf Γ avs
  | [], _ => rfl
  | .tmp t :: avs, h => by
    unfold slotsOf at h
    unfold argsOf
    rw [argsOf_set h]; rfl
  | .pk j :: avs, h => by
    unfold slotsOf at h
    simp only [List.mem_cons, not_or] at h
    simp only [argsOf, argOf]
    rw [argsOf_set h.2, List.getElem?_set_ne h.1]
  | .io j :: avs, h => by
    unfold slotsOf at h
    simp only [List.mem_cons, not_or] at h
    simp only [argsOf, argOf]
    rw [argsOf_set h.2, List.getElem?_set_ne h.1]
theorem lost_set {i : Nat} {x : Tr} : ∀ {avs : List AV} {Γ : List Tr}, i ∉ slotsOf avs → lost (Γ.set i x) avs = (lost Γ avs).set i x
  | [], _, _ => rfl
  | .tmp t :: avs, Γ, h => by unfold slotsOf at h; exact lost_set (avs := avs) h
  | .pk j :: avs, Γ, h => by
    unfold slotsOf at h
    simp only [List.mem_cons, not_or] at h
    exact lost_set (avs := avs) h.2
  | .io j :: avs, Γ, h => by
    unfold slotsOf at h
    simp only [List.mem_cons, not_or] at h
    show lost ((Γ.set i x).set j .gone) avs = (lost (Γ.set j .gone) avs).set i x
    rw [List.set_comm _ _ h.1]
    exact lost_set h.2
theorem lost_length : ∀ {avs : List AV} {Γ : List Tr}, (lost Γ avs).length = Γ.length
  | [], _ => rfl
  | .tmp t :: avs, Γ => lost_length (avs := avs)
  | .pk j :: avs, Γ => lost_length (avs := avs)
  | .io j :: avs, Γ => by show (lost (Γ.set j .gone) avs).length = _; rw [lost_length, List.length_set]
section
variable {K : PySem.W.Frag} {H H' : Hp} {f f' pr : Fp} {σ : Sig}
theorem settle_rep {t t' : Tr} {v : V} {g fs : Fp} (e : settle t = some t') (r : Rep K H f t v g) (l : ∀ a, fs a ≤ f a) (d : ∀ a, g a + fs a ≤ 1) : Rep K H fs t' v (fun _ => 0) := by
  unfold settle at e
  split at e
  · cases e
    have := r.lef l
    unfold Rep at this ⊢
    exact this
  · obtain ⟨d', e1, rfl⟩ := Option.map_eq_some_iff.mp e
    unfold Rep
    exact r.frz l e1 d
theorem lend : ∀ {avs : List AV} {Γ : List Tr} {vs : List V} {ts : List Tr} {g ga : Fp}, RepS K H f Γ σ g → RepA K H f σ avs vs ga → argsOf Γ avs = some ts → hasPk avs = false → (slotsOf avs).Nodup →
    ∃ gd g0 gio : Fp, (∀ a, g0 a + gio a + gd a ≤ g a + ga a) ∧ RepS K H f (lost Γ avs) σ g0 ∧ ∀ fs : Fp, (∀ a, fs a ≤ f a) → (∀ a, gd a + fs a ≤ 1) → RepL K H fs ts vs gio
  | [], Γ, vs, ts, g, ga, hs, ha, e, _, _ => by
    unfold argsOf at e; cases e
    unfold RepA at ha
    exact ⟨fun _ => 0, g, fun _ => 0, fun a => by show g a + 0 + 0 ≤ _; omega, hs, fun fs _ _ => by unfold RepL; exact ha⟩
  | .pk i :: avs, _, _, _, _, _, _, _, _, p, _ => by unfold hasPk at p; cases p
  | .tmp t :: avs, Γ, vs, ts, g, ga, hs, ha, e, p, nd => by
    unfold hasPk at p
    unfold slotsOf at nd
    unfold argsOf at e
    split at e <;> first | (cases e; done) | skip
    rename_i t' ts' e1 e2
    cases e
    obtain ⟨v, r, g1, g2, rfl, h1, h2, h3⟩ := ha
    obtain ⟨gd, g0, gio, hb, hl, hr⟩ := lend hs h2 e2 p nd
    refine ⟨padd g1 gd, g0, gio, fun a => by have := hb a; have := h3 a; simp only [padd_at]; omega, hl, fun fs l d => ?_⟩
    unfold RepL
    exact ⟨v, r, fun _ => 0, gio, rfl, settle_rep e1 h1 l fun a => by have := d a; rw [padd_at] at this; omega, hr fs l fun a => by have := d a; rw [padd_at] at this; omega, fun a => by show 0 + gio a ≤ _; omega⟩
  | .io i :: avs, Γ, vs, ts, g, ga, hs, ha, e, p, nd => by
    unfold hasPk at p
    unfold slotsOf at nd
    rw [List.nodup_cons] at nd
    unfold argsOf at e
    split at e <;> first | (cases e; done) | skip
    rename_i x ts' e1 e2
    cases e
    obtain ⟨v, r, rfl, ev, h2⟩ := ha
    have ex : Γ[i]? = some x ∧ x ≠ .gone := by
      simp only [argOf] at e1
      split at e1
      · cases e1
      · rename_i n
        exact ⟨e1, fun z => by subst z; exact n e1⟩
    obtain ⟨o, g1, g2, eo, ro, rs, hgl⟩ := hs.take ex.1
    obtain ⟨w, rfl, rx⟩ := ro.get ex.2
    rw [ev] at eo; cases eo
    obtain ⟨gd, g0, gio, hb, hl, hr⟩ := lend (ts := ts') rs h2 (by rw [argsOf_set nd.1]; exact e2) p nd.2
    refine ⟨gd, g0, padd g1 gio, fun a => by have := hb a; have := hgl a; simp only [padd_at]; omega, hl, fun fs l d => ?_⟩
    unfold RepL
    exact ⟨v, r, g1, gio, rfl, rx.lef l, hr fs l d, fun a => Nat.le_refl _⟩
def IoAt (σ : Sig) : List AV → List V → Prop
  | [], _ => True
  | .io i :: as, vs => ∃ v r, vs = v :: r ∧ σ[i]? = some (some v) ∧ IoAt σ as r
  | _ :: as, vs => ∃ v r, vs = v :: r ∧ IoAt σ as r
theorem RepA.io : ∀ {avs : List AV} {vs : List V} {g : Fp}, RepA K H f σ avs vs g → IoAt σ avs vs
  | [], _, _, _ => trivial
  | .tmp t :: avs, _, _, h => by obtain ⟨v, r, g1, g2, rfl, h1, h2, h3⟩ := h; exact ⟨v, r, rfl, RepA.io h2⟩
  | .pk t :: avs, _, _, h => by obtain ⟨v, r, rfl, h1, h2⟩ := h; exact ⟨v, r, rfl, RepA.io h2⟩
  | .io t :: avs, _, _, h => by obtain ⟨v, r, rfl, h1, h2⟩ := h; exact ⟨v, r, rfl, h1, RepA.io h2⟩
theorem give_back : ∀ {avs : List AV} {Γ : List Tr} {vs : List V} {os : List Tr} {g0 go : Fp}, RepS K H f (lost Γ avs) σ g0 → RepL K H f os vs go → IoAt σ avs vs → os.length = avs.length → (slotsOf avs).Nodup → (∀ i ∈ slotsOf avs, i < Γ.length) →
    RepS K H f (backs Γ avs os) σ (padd g0 go)
  | [], Γ, vs, os, g0, go, hs, hl, _, len, _, _ => by
    have : os = [] := List.eq_nil_of_length_eq_zero len
    subst this
    show RepS K H f Γ σ _
    exact hs.mono (le_padd _ _)
  | .tmp t :: avs, Γ, vs, [], _, _, _, _, _, len, _, _ => by cases len
  | .pk t :: avs, Γ, vs, [], _, _, _, _, _, len, _, _ => by cases len
  | .io t :: avs, Γ, vs, [], _, _, _, _, _, len, _, _ => by cases len
  | .tmp t :: avs, Γ, vs, o :: os, g0, go, hs, hl, io, len, nd, lt => by
    unfold slotsOf at nd lt
    unfold RepL at hl
    obtain ⟨v, r, g1, g2, rfl, h1, h2, h3⟩ := hl
    obtain ⟨v', r', e, io⟩ := io
    cases e
    exact (give_back (avs := avs) hs h2 io (by simpa using len) nd lt).mono fun a => by have := h3 a; simp only [padd_at]; omega
  | .pk i :: avs, Γ, vs, o :: os, g0, go, hs, hl, io, len, nd, lt => by
    unfold slotsOf at nd lt
    rw [List.nodup_cons] at nd
    unfold RepL at hl
    obtain ⟨v, r, g1, g2, rfl, h1, h2, h3⟩ := hl
    obtain ⟨v', r', e, io⟩ := io
    cases e
    exact (give_back (avs := avs) hs h2 io (by simpa using len) nd.2 fun j hj => lt j (List.mem_cons_of_mem _ hj)).mono fun a => by have := h3 a; simp only [padd_at]; omega
  | .io i :: avs, Γ, vs, o :: os, g0, go, hs, hl, io, len, nd, lt => by
    unfold slotsOf at nd lt
    rw [List.nodup_cons] at nd
    unfold RepL at hl
    obtain ⟨v, r, g1, g2, rfl, h1, h2, h3⟩ := hl
    obtain ⟨v', r', e, ev, io⟩ := io
    cases e
    have hs' : RepS K H f (lost (Γ.set i .gone) avs) σ g0 := hs
    have hi : i < Γ.length := lt i List.mem_cons_self
    have hg : (lost (Γ.set i .gone) avs)[i]? = some .gone := by
      rw [lost_set nd.1, List.getElem?_set_self (by rw [lost_length]; exact hi)]
    have put := RepS.put hs' hg ev (.mk h1)
    rw [lost_set nd.1, List.set_set, ← lost_set nd.1] at put
    show RepS K H f (backs (Γ.set i o) avs os) σ _
    exact (give_back (avs := avs) put h2 io (by simpa using len) nd.2 fun j hj => by rw [List.length_set]; exact lt j (List.mem_cons_of_mem _ hj)).mono fun a => by have := h3 a; simp only [padd_at]; omega
theorem args_lt {Γ : List Tr} : ∀ {avs : List AV} {ts : List Tr}, argsOf Γ avs = some ts → hasPk avs = false → ∀ i ∈ slotsOf avs, i < Γ.length
  | [], _, _, _, _, h => by unfold slotsOf at h; cases h
  | .tmp t :: avs, _, e, p, i, h => by
    unfold argsOf at e
    split at e <;> first | (cases e; done) | skip
    rename_i e2
    exact args_lt e2 (by unfold hasPk at p; exact p) i (by unfold slotsOf at h; exact h)
  | .pk j :: avs, _, e, p, _, _ => by unfold hasPk at p; cases p
  | .io j :: avs, _, e, p, i, h => by
    unfold argsOf at e
    split at e <;> first | (cases e; done) | skip
    rename_i x ts' e1 e2
    unfold slotsOf at h
    rcases List.mem_cons.mp h with rfl | h
    · simp only [argOf] at e1
      split at e1
      · cases e1
      · exact (List.getElem?_eq_some_iff.mp e1).1
    · exact args_lt e2 (by unfold hasPk at p; exact p) i h
end
section
variable {R : RC} {M : MC} {X : Cx} {σ : Sig} {H : Hp} {Q : VK}
theorem call_ok {x : Str} {as : List CA} {run : List Tr → Option FR} {n : Nat} (hf : R.F.fn x = some run) (hn : ∀ ts r, run ts = some r → ts.length = n) (h : tE R (.call x as) σ H Q) : tCallS (spF R.K R.mg n run) (WE R.W) (tAs R as) σ H Q := by
  obtain ⟨Γ, f, pr, st, h⟩ := h
  refine ⟨Γ, f, pr, st, ?_⟩
  simp only [ev, hf] at h
  cases q : evAs R.F as Γ with
  | none => simp only [q] at h
  | some r =>
    cases r with
    | ex y Γ1 => simp only [q] at h; exact h
    | ok avs Γ1 =>
      simp only [q] at h
      intro vs H1 f1 s1 st1
      by_cases nd : (slotsOf avs).Nodup
      · simp only [nd, if_true] at h
        cases q1 : argsOf Γ1 avs with
        | none => simp only [q1, Option.bind_none] at h
        | some ts =>
          simp only [q1, Option.bind_some] at h
          have al := st1.alc
          obtain ⟨h1, h2, g, ga, hs, hg, hl⟩ := id st1
          cases q2 : run ts with
          | none => simp only [q2] at h
          | some fr =>
            have len := hn ts fr q2
            cases fr with
            | ok t os =>
              simp only [q2] at h
              by_cases hc : hasPk avs = false ∧ os.length = avs.length
              · simp only [hc, and_self, if_true] at h
                obtain ⟨gd, g0, gio, hb, hlo, hr⟩ := lend hs hg q1 hc.1 nd
                have l : ∀ a, (fun a => f1 a - gd a) a ≤ f1 a := fun a => Nat.sub_le _ _
                have rl := hr (fun a => f1 a - gd a) l fun a => by have := hb a; have := hl a; have := h1 a; show gd a + (f1 a - gd a) ≤ 1; omega
                refine ⟨by rw [rl.length]; exact len, ts, fun a => f1 a - gd a, padd pr g0, gio, rl, fun a => Nat.le_trans (l a) (h1 a), fun a ha => al a (Nat.le_trans ha (l a)), fun a => by
                  have := hb a; have := hl a; rw [padd_at]; show gio a + (pr a + g0 a) ≤ f1 a - gd a; omega, ?_⟩
                rw [q2]
                intro v H' f' s2 l1 al' ⟨g', go, rv, ro, hbl⟩
                have s3 : Stp H1 f1 (padd pr g0) H' f' := (stp_less l).trans s2 fun _ => Nat.le_refl _
                refine h v H' f' (s1.trans s3 (le_padd _ _)) ⟨l1, al', _, g', give_back (hlo.stp s3 (le_padd' _ _)) ro hg.io hc.2 nd (args_lt q1 hc.1), rv, fun a => by have := hbl a; simp only [padd_at] at this ⊢; omega⟩
              · rw [if_neg hc] at h
                exact h.elim
            | ex y =>
              simp only [q2] at h
              by_cases hc : hasPk avs = false
              · simp only [hc, if_true] at h
                obtain ⟨gd, g0, gio, hb, hlo, hr⟩ := lend hs hg q1 hc nd
                have l : ∀ a, (fun a => f1 a - gd a) a ≤ f1 a := fun a => Nat.sub_le _ _
                have rl := hr (fun a => f1 a - gd a) l fun a => by have := hb a; have := hl a; have := h1 a; show gd a + (f1 a - gd a) ≤ 1; omega
                refine ⟨by rw [rl.length]; exact len, ts, fun a => f1 a - gd a, padd pr g0, gio, rl, fun a => Nat.le_trans (l a) (h1 a), fun a ha => al a (Nat.le_trans ha (l a)), fun a => by
                  have := hb a; have := hl a; rw [padd_at]; show gio a + (pr a + g0 a) ≤ f1 a - gd a; omega, ?_⟩
                rw [q2]
                intro C H' f' hm s2 l1 al' hp
                have s3 : Stp H1 f1 (padd pr g0) H' f' := (stp_less l).trans s2 fun _ => Nat.le_refl _
                exact h C H' f' hm (s1.trans s3 (le_padd _ _)) ⟨l1, al', g0, fun _ => 0, hlo.stp s3 (le_padd' _ _), trivial, fun a => by have := hp a; simp only [padd_at] at this; show 0 + (g0 a + pr a) ≤ f' a; omega⟩
              · rw [if_neg hc] at h
                exact h.elim
      · rw [if_neg nd] at h
        exact h.elim
end
end Hw
set_option Elab.async false
set_option linter.all false
set_option maxRecDepth 100000
set_option maxHeartbeats 1000000
/-! zip of three, each a list or a tuple -/
namespace Hx
open PySem PySem.Spec PyProof.Rows L2
def Itz3 (K : PySem.W.Frag) (b1 b2 b3 : Bool) (a c d : Addr) : It where
  go i H := ∃ (xs ys zs : List V) (x y u : V), SqB K H b1 a xs ∧ SqB K H b2 c ys ∧ SqB K H b3 d zs ∧ xs[i]? = some x ∧ ys[i]? = some y ∧ zs[i]? = some u
  yld i H v H' := ∃ T x y u, v = .ref T ∧ H T = none ∧ H' = upd H T (.tup [x, y, u]) ∧ (∀ xs, SqB K H b1 a xs → xs[i]? = some x) ∧ (∀ ys, SqB K H b2 c ys → ys[i]? = some y) ∧ ∀ zs, SqB K H b3 d zs → zs[i]? = some u
  stop i H := ∃ xs ys zs : List V, SqB K H b1 a xs ∧ SqB K H b2 c ys ∧ SqB K H b3 d zs ∧ i = min xs.length (min ys.length zs.length)
theorem turn_z3 {P : Program} {w : World} {K : PySem.W.Frag} {es : List Expr} {m : Nat} {tp : Pos} {b1 b2 b3 : Bool} {a c d z TI TO i1 i2 i3 : Addr} (S : ZipSep3 z TI TO i1 i2 i3 [i1, a] [i2, c] [i3, d]) :
    Turn P w K (.Tuple es m tp) (Itz3 K b1 b2 b3 a c d) [z, TI, TO, i1, i2, i3] z (fun i h => IsZip h z TI TO .none ∧ IsTupOf3 h TI (.ref i1) (.ref i2) (.ref i3) ∧ (∃ x y u, IsTupOf3 h TO x y u) ∧ IsItB b1 h i1 a i ∧ IsItB b2 h i2 c i ∧ IsItB b3 h i3 d i) where
  mem := List.mem_cons_self ..
  obj := fun i h st q hq => by
    obtain ⟨hz, hTI, ⟨x, y, u, hTO⟩, h1, h2, h3⟩ := st
    have e : q = z ∨ q = TI ∨ q = TO ∨ q = i1 ∨ q = i2 ∨ q = i3 := by simpa using hq
    rcases e with e | e | e | e | e | e
    · subst e; exact ⟨_, hz, fun v k => nomatch k⟩
    · subst e; exact ⟨_, hTI, fun v k => nomatch k⟩
    · subst e; exact ⟨_, hTO, fun v k => nomatch k⟩
    · subst e; exact h1.ob
    · subst e; exact h2.ob
    · subst e; exact h3.ob
  keep := fun i h h' st k => by
    obtain ⟨hz, hTI, ⟨x, y, u, hTO⟩, h1, h2, h3⟩ := st
    exact ⟨k z (by simp) _ hz, k TI (by simp) _ hTI, ⟨x, y, u, k TO (by simp) _ hTO⟩, h1.at fun o q => k i1 (by simp) o q, h2.at fun o q => k i2 (by simp) o q, h3.at fun o q => k i3 (by simp) o q⟩
  item := by
    intro X hP hw hK hc i pins s σ H E I hf st hg
    subst hP hw hK
    obtain ⟨hz, hTI, ⟨x0, y0, u0, hTO⟩, h1, h2, h3⟩ := st
    obtain ⟨xs, ys, zs, x, y, w0, hqx, hqy, hqz, hx, hy, hw⟩ := hg
    obtain ⟨its, rv, p⟩ := seqB I hqx
    obtain ⟨jts, rv2, p2⟩ := seqB I hqy
    obtain ⟨kts, rv3, p3⟩ := seqB I hqz
    obtain ⟨u, hu, ru⟩ := rv.get hx
    obtain ⟨u2, hu2, ru2⟩ := rv2.get hy
    obtain ⟨u3, hu3, ru3⟩ := rv3.get hw
    have zl : z < s.heap.objs.size := Heap.lt_size hz
    have n1 : a ≠ i1 := apB p h1
    have n2 : c ≠ i2 := apB p2 h2
    have n3 : d ≠ i3 := apB p3 h3
    refine wpAny_pyNext_zipD3_item S (drawsB (A := X.A.in1) (I.ok.hd hc) i1 a n1 its.toArray b1) (drawsB (A := X.A.in1) (I.ok.hd hc) i2 c n2 jts.toArray b2) (drawsB (A := X.A.in1) (I.ok.hd hc) i3 d n3 kts.toArray b3) hz hTI hTO ⟨h1, p⟩ ⟨h2, p2⟩ ⟨h3, p3⟩ (by have := (List.getElem?_eq_some_iff.mp hu).1; simpa using this) (by have := (List.getElem?_eq_some_iff.mp hu2).1; simpa using this) (by have := (List.getElem?_eq_some_iff.mp hu3).1; simpa using this) fun v1 v2 v3 g tk e1 e2 e3 z' TO' d1 d2 d3 hT hsz hk => ?_
    have yu : v1 = u := by
      have : its[i]? = some v1 := by simpa using e1
      rw [hu] at this
      exact (Option.some.inj this).symm
    have yu2 : v2 = u2 := by
      have : jts[i]? = some v2 := by simpa using e2
      rw [hu2] at this
      exact (Option.some.inj this).symm
    have yu3 : v3 = u3 := by
      have : kts[i]? = some v3 := by simpa using e3
      rw [hu3] at this
      exact (Option.some.inj this).symm
    subst yu yu2 yu3
    refine ⟨_, rfl, wpAny_letOwnedTupleGo_zip (s := { s with heap := g, toks := tk }) z' fun g2 z'' sb => ?_⟩
    have hT2 : g2.get? s.heap.objs.size = some { cls := .type "tuple", data := .seq #[v1, v2, v3] } := (sb.2 _ (Nat.ne_of_gt zl)).trans hT
    have new : ObjOk X.prog X.w (upd H s.heap.objs.size (.tup [x, y, w0])) g2 s.heap.objs.size (.tup [x, y, w0]) :=
      ⟨by show 3 ≤ sizeLine; decide, [v1, v2, v3], .cons ru (.cons ru2 (.cons ru3 .nil)), ⟨_, hT2, rfl, _, rfl⟩⟩
    have I1 : Inv X pins σ (upd H s.heap.objs.size (.tup [x, y, w0])) { s with heap := g2, toks := tk } :=
      I.turnedNew (t' := tk) (ch := [z, TI, TO, i1, i2, i3]) (fun q o hb e => (sb.2 q (fun k => hb (by simp [k]))).trans (hk q o (fun k => hb (by simp [k])) (fun k => hb (by simp [k])) (fun k => hb (by simp [k])) (fun k => hb (by simp [k])) (fun k => hb (by simp [k])) e)) hf (Nat.le_refl _) new
    refine ⟨.ref s.heap.objs.size, _, I1, rfl, ⟨_, x, y, w0, rfl, I.hok.fresh (Nat.le_refl _), rfl, fun l hl => by rw [injB I hl hqx]; exact hx, fun l hl => by rw [injB I hl hqy]; exact hy, fun l hl => by rw [injB I hl hqz]; exact hw⟩, ⟨z'', ?_, ⟨v1, v2, v3, ?_⟩, ?_, ?_, ?_⟩, fun q hq => ?_⟩
    · exact (sb.2 _ S.TIz).trans (hk _ _ S.TIz S.TITO S.TIi1 S.TIi2 S.TIi3 hTI)
    · exact (sb.2 _ S.TOz).trans TO'
    · exact d1.1.at fun o e => (sb.2 _ (Ne.symm S.zi1)).trans e
    · exact d2.1.at fun o e => (sb.2 _ (Ne.symm S.zi2)).trans e
    · exact d3.1.at fun o e => (sb.2 _ (Ne.symm S.zi3)).trans e
    · have lt : q < s.heap.objs.size := by
        have e : q = z ∨ q = TI ∨ q = TO ∨ q = i1 ∨ q = i2 ∨ q = i3 := by simpa using hq
        rcases e with e | e | e | e | e | e
        · rw [e]; exact zl
        · rw [e]; exact Heap.lt_size hTI
        · rw [e]; exact Heap.lt_size hTO
        · rw [e]; obtain ⟨_, e1, _⟩ := h1.ob; exact Heap.lt_size e1
        · rw [e]; obtain ⟨_, e2, _⟩ := h2.ob; exact Heap.lt_size e2
        · rw [e]; obtain ⟨_, e3, _⟩ := h3.ob; exact Heap.lt_size e3
      rw [upd_ne (Nat.ne_of_lt lt)]
      exact (hf q hq).1
  done := by
    intro X hP hw hK hc i pins s σ H E I hf st hg
    subst hP hw hK
    obtain ⟨hz, hTI, ⟨x0, y0, u0, hTO⟩, h1, h2, h3⟩ := st
    obtain ⟨xs, ys, zs, hqx, hqy, hqz, hend⟩ := hg
    obtain ⟨its, rv, p⟩ := seqB I hqx
    obtain ⟨jts, rv2, p2⟩ := seqB I hqy
    obtain ⟨kts, rv3, p3⟩ := seqB I hqz
    have l1 := rv.length
    have l2 := rv2.length
    have l3 := rv3.length
    have n1 : a ≠ i1 := apB p h1
    have n2 : c ≠ i2 := apB p2 h2
    have n3 : d ≠ i3 := apB p3 h3
    exact wpAny_pyNext_zipD3_end S (drawsB (A := X.A.in1) (I.ok.hd hc) i1 a n1 its.toArray b1) (drawsB (A := X.A.in1) (I.ok.hd hc) i2 c n2 jts.toArray b2) (drawsB (A := X.A.in1) (I.ok.hd hc) i3 d n3 kts.toArray b3) hz hTI hTO ⟨h1, p⟩ ⟨h2, p2⟩ ⟨h3, p3⟩ (by simp; omega) (by simp; omega) (by simp; omega) (by simp; omega) fun g tk hk => ⟨rfl, I.turnedL (t' := tk) (ch := [z, TI, TO, i1, i2, i3]) (fun q o hb e =>
      hk q o (fun k => hb (by simp [k])) (fun k => hb (by simp [k])) (fun k => hb (by simp [k])) (fun k => hb (by simp [k])) (fun k => hb (by simp [k])) e) hf⟩
  self := fun A i s Q E st h => wpAny_pyIter_zip st.1 h
abbrev yA (h : Heap) (b1 b2 b3 : Bool) (l1 l2 l3 : Addr) : Heap := ((h.push (zO b1 l1)).push (zO b2 l2)).push (zO b3 l3)
abbrev yB (h : Heap) (b1 b2 b3 : Bool) (l1 l2 l3 : Addr) : Heap := (yA h b1 b2 b3 l1 l2 l3).push { cls := .type "tuple", data := .seq #[.ref h.objs.size, .ref (h.push (zO b1 l1)).objs.size, .ref ((h.push (zO b1 l1)).push (zO b2 l2)).objs.size] }
abbrev yC (h : Heap) (b1 b2 b3 : Bool) (l1 l2 l3 : Addr) : Heap := (yB h b1 b2 b3 l1 l2 l3).push { cls := .type "tuple", data := .seq #[.none, .none, .none] }
abbrev yD (h : Heap) (b1 b2 b3 : Bool) (l1 l2 l3 : Addr) : Heap := (yC h b1 b2 b3 l1 l2 l3).push { cls := .type "zip", data := .fields #[.none, .bool false, .bool false, .ref (yA h b1 b2 b3 l1 l2 l3).objs.size, .ref (yB h b1 b2 b3 l1 l2 l3).objs.size] }
theorem made_z3 (b1 b2 b3 : Bool) (l1 l2 l3 : Addr) (xs ys zs : Array Value) :
    Meets (Builtin.«zip.__new__» ⟨[.type "zip", .ref l1, .ref l2, .ref l3], []⟩) (fun _ R s => IsSqB b1 s.heap l1 xs ∧ IsSqB b2 s.heap l2 ys ∧ IsSqB b3 s.heap l3 zs ∧
      R (.ok (.ret (.ref (yC s.heap b1 b2 b3 l1 l2 l3).objs.size))) { s with heap := yD s.heap b1 b2 b3 l1 l2 l3 }) :=
  .of_wp fun P w A R s hh => by
    obtain ⟨hp, g, d, tk, os⟩ := s
    obtain ⟨q1, q2, q3, hr⟩ := hh
    have sub := sub_zip
    have m1 : IsSqB b1 (Shared.heap ⟨hp, g, d, tk, os⟩) l1 xs := q1
    have m2 : IsSqB b2 (Shared.heap ⟨hp.push (zO b1 l1), g, d, tk, os⟩) l2 ys := q2.push _
    have m3 : IsSqB b3 (Shared.heap ⟨(hp.push (zO b1 l1)).push (zO b2 l2), g, d, tk, os⟩) l3 zs := (q3.push _).push _
    wp_walk using iterB m1, iterB m2, iterB m3
    exact ⟨_, rfl, hr⟩
section
variable {P : Program} {w : World} {A : Around} {E : Value → Shared → Prop} {s : Shared}
theorem call_z3 {b1 b2 b3 : Bool} {l1 l2 l3 : Addr} {xs ys zs : Array Value} {Q : Value → Shared → Prop} (q1 : IsSqB b1 s.heap l1 xs) (q2 : IsSqB b2 s.heap l2 ys) (q3 : IsSqB b3 s.heap l3 zs)
    (k : ∀ h' n, n = s.heap.objs.size → IsZip h' (n + 5) (n + 3) (n + 4) .none → IsTupOf3 h' (n + 3) (.ref n) (.ref (n + 1)) (.ref (n + 2)) → IsTupOf3 h' (n + 4) .none .none .none → IsItB b1 h' n l1 0 → IsItB b2 h' (n + 1) l2 0 → IsItB b3 h' (n + 2) l3 0 →
      (∀ c o, s.heap.get? c = some o → h'.get? c = some o) → Q (.ref (n + 5)) { s with heap := h' }) :
    wpAny (model P w) A (call (.type "zip") [.ref l1, .ref l2, .ref l3]) Q E s := by
  refine callType_new F.called_zip (by decide) (F.typeCall_zip_3 _ _ _) (F.newCall_zip_3 _ _ _) (fun obj => F.args_object_init_4 obj _ _ _) F.entry_zip_new (made_z3 b1 b2 b3 l1 l2 l3 xs ys zs) ⟨q1, q2, q3, ?_⟩
  have s1 : (s.heap.push (zO b1 l1)).objs.size = s.heap.objs.size + 1 := Heap.size_push ..
  have s1' : ((s.heap.push (zO b1 l1)).push (zO b2 l2)).objs.size = s.heap.objs.size + 2 := by rw [Heap.size_push, s1]
  have s2 : (yA s.heap b1 b2 b3 l1 l2 l3).objs.size = s.heap.objs.size + 3 := by rw [Heap.size_push, s1']
  have s3 : (yB s.heap b1 b2 b3 l1 l2 l3).objs.size = s.heap.objs.size + 4 := by rw [Heap.size_push, s2]
  have s4 : (yC s.heap b1 b2 b3 l1 l2 l3).objs.size = s.heap.objs.size + 5 := by rw [Heap.size_push, s3]
  have up : ∀ {h : Heap} {o u : Obj} {q : Addr}, h.get? q = some u → (h.push o).get? q = some u := fun e => Heap.get?_push_of_some _ e
  have g6 : (yD s.heap b1 b2 b3 l1 l2 l3).get? (yC s.heap b1 b2 b3 l1 l2 l3).objs.size = some _ := Heap.get?_push_size _ rfl
  have g5 : (yD s.heap b1 b2 b3 l1 l2 l3).get? (yB s.heap b1 b2 b3 l1 l2 l3).objs.size = some _ := up (Heap.get?_push_size _ rfl)
  have g4 : (yD s.heap b1 b2 b3 l1 l2 l3).get? (yA s.heap b1 b2 b3 l1 l2 l3).objs.size = some _ := up (up (Heap.get?_push_size _ rfl))
  have g3 : (yD s.heap b1 b2 b3 l1 l2 l3).get? ((s.heap.push (zO b1 l1)).push (zO b2 l2)).objs.size = some _ := up (up (up (Heap.get?_push_size _ rfl)))
  have g2 : (yD s.heap b1 b2 b3 l1 l2 l3).get? (s.heap.push (zO b1 l1)).objs.size = some _ := up (up (up (up (Heap.get?_push_size _ rfl))))
  have g1 : (yD s.heap b1 b2 b3 l1 l2 l3).get? s.heap.objs.size = some _ := up (up (up (up (up (Heap.get?_push_size _ rfl)))))
  show _ ∧ _
  rw [s4, s2, s3] at g6
  rw [s2, s1, s1'] at g4
  rw [s3] at g5
  rw [s1'] at g3
  rw [s1] at g2
  rw [s4]
  exact ⟨⟨_, g6, rfl⟩, k _ _ rfl g6 g4 g5 (.new g1) (.new g2) (.new g3) fun c o x => up (up (up (up (up (up x)))))⟩
end
theorem sepN3 (n a b d : Nat) (la : a < n) (lb : b < n) (ld : d < n) : ZipSep3 (n + 5) (n + 3) (n + 4) n (n + 1) (n + 2) [n, a] [n + 1, b] [n + 2, d] where
  TIz := ne_ (by omega)
  TOz := ne_ (by omega)
  TITO := ne_ (by omega)
  TIi1 := ne_ (by omega)
  mem1 := List.mem_cons_self ..
  zf1 := notin2 (ne_ (by omega)) (ne_ (by omega))
  Tf1 := notin2 (ne_ (by omega)) (ne_ (by omega))
  TIi2 := ne_ (by omega)
  mem2 := List.mem_cons_self ..
  zf2 := notin2 (ne_ (by omega)) (ne_ (by omega))
  Tf2 := notin2 (ne_ (by omega)) (ne_ (by omega))
  TIi3 := ne_ (by omega)
  mem3 := List.mem_cons_self ..
  zf3 := notin2 (ne_ (by omega)) (ne_ (by omega))
  Tf3 := notin2 (ne_ (by omega)) (ne_ (by omega))
  sep1_2 := notin2 (ne_ (by omega)) (ne_ (by omega))
  sep1_3 := notin2 (ne_ (by omega)) (ne_ (by omega))
  sep2_1 := notin2 (ne_ (by omega)) (ne_ (by omega))
  sep2_3 := notin2 (ne_ (by omega)) (ne_ (by omega))
  sep3_1 := notin2 (ne_ (by omega)) (ne_ (by omega))
  sep3_2 := notin2 (ne_ (by omega)) (ne_ (by omega))
def iZip3 (K : PySem.W.Frag) (ta : TA) : TI := fun σ H R => ta σ H fun vs H1 => ∃ b1 b2 b3 a b d xs ys zs, vs = [.ref a, .ref b, .ref d] ∧ SqB K H1 b1 a xs ∧ SqB K H1 b2 b ys ∧ SqB K H1 b3 d zs ∧ R (Itz3 K b1 b2 b3 a b d) H1
theorem pi_zip3 {X : Cx} {e e2 e3 : Expr} {ta : TA} {p pos tp : Pos} {es : List Expr} {m : Nat} (hg : Gl X "zip") (hm : X.mg "zip" = none) (ha : PA X [e, e2, e3] ta)
    (hs : starEach [e, e2, e3] X.env = (false, eval e X.env) :: starEach [e2, e3] X.env) (hpl : (backTo pos (starEach [e2, e3] X.env)).any (·.1) = false) :
    PI X (.Tuple es m tp) (.Call (.Name "zip" p) [e, e2, e3] [] pos) (iZip3 X.K ta) := by
  constructor
  intro pins s σ H R I q
  refine Call_ (ld_blt I hg hm PyProof.Rows.boot_zip (PyProof.Rows.callWith_type1 (thn (ha.run pos pins s σ H _ I q) fun us s1 ⟨vs, H1, I1, r1, q1⟩ => ?_) hs hpl))
  obtain ⟨b1, b2, b3, a, b, d, xs, ys, zs, rfl, h1, h2, h3, q⟩ := q1
  have go : ∀ u1 u2 u3, us = [u1, u2, u3] → u1 = .ref a → u2 = .ref b → u3 = .ref d → wpAny (model X.prog X.w) X.A (call (.type "zip") us) (fun v s1 => wpAny (model X.prog X.w) X.A (pyIter v) (PIE X pins σ (.Tuple es m tp) R) X.xe s1) X.xe s1 := by
    intro u1 u2 u3 hu e1 e2 e3
    subst hu e1 e2 e3
    obtain ⟨its, rv, t1⟩ := seqB I1 h1
    obtain ⟨jts, rv2, t2⟩ := seqB I1 h2
    obtain ⟨kts, rv3, t3⟩ := seqB I1 h3
    obtain ⟨_, ea⟩ := t1.ex
    obtain ⟨_, eb⟩ := t2.ex
    obtain ⟨_, ed⟩ := t3.ex
    have la := Heap.lt_size ea
    have lb := Heap.lt_size eb
    have ld := Heap.lt_size ed
    refine call_z3 t1 t2 t3 fun h' n hn z1 z2 z3 z4 z5 z6 hk => wpAny_pyIter_zip z1 ?_
    have I2 : Inv X pins σ H1 { s1 with heap := h' } := I1.kept (t' := s1.toks) hk
    have S := sepN3 n a b d (by rw [hn]; exact la) (by rw [hn]; exact lb) (by rw [hn]; exact ld)
    have fr : ∀ c ∈ [n + 5, n + 3, n + 4, n, n + 1, n + 2], FpOk X pins H1 c := fun c hc => by
      have le : s1.heap.objs.size ≤ c := by
        have q : c = n + 5 ∨ c = n + 3 ∨ c = n + 4 ∨ c = n ∨ c = n + 1 ∨ c = n + 2 := by simpa using hc
        have hn' : (n : Nat) = s1.heap.objs.size := hn
        rcases q with e | e | e | e | e | e <;> (rw [e, ← hn']; first | exact Nat.le_add_right _ _ | exact Nat.le_refl _)
      exact I1.fpOk le (I1.hok.fresh le)
    have T := turn_z3 (P := X.prog) (w := X.w) (K := X.K) (es := es) (m := m) (tp := tp) (b1 := b1) (b2 := b2) (b3 := b3) S
    exact ⟨n + 5, [n + 5, n + 3, n + 4, n, n + 1, n + 2], _, _, H1, rfl, I2, T, ⟨z1, z2, ⟨_, _, _, z3⟩, z4, z5, z6⟩, fr, q⟩
  cases r1 with
  | cons r rr =>
    cases rr with
    | cons r' rr' =>
      cases rr' with
      | cons r'' rr'' =>
        cases rr''
        exact go _ _ _ rfl r r' r''
end Hx
set_option Elab.async false
set_option linter.all false
set_option maxRecDepth 100000
set_option maxHeartbeats 1000000
/-! what is walked; targets; comprehensions -/
namespace Hw
open PySem PySem.Spec PyProof.Rows L2

/-! ### walks over data -/
def WalkD (K : PySem.W.Frag) (J : It) (ds : List PyData) (R0 : Hp) : Prop := ∀ i H f, Alc H f → Ext R0 (mn H f) →
  (∀ d, ds[i]? = some d → J.go i H ∧ ∀ x H', J.yld i H x H' → Ext H H' ∧ Dr K (mn H' f) d x) ∧ (i = ds.length → J.stop i H)
section
variable {K : PySem.W.Frag} {R0 : Hp}
theorem SqL.of' {H : Hp} {a : Addr} {xs : List V} (h : H a = some (.lst xs)) : SqL K H a xs := SqL.of h
theorem walk_l {p : Addr} {xs : List V} {ds : List PyData} (h : SqL K R0 p xs) (d : DrL K R0 ds xs) : WalkD K (Itl K p) ds R0 := by
  intro i H f al e
  have hS : SqL K H p xs := (e.trans (mn_ext H f)).sql h
  refine ⟨fun d' hd => ?_, fun hl => ⟨xs, hS, by rw [d.length]; exact Nat.le_of_eq hl.symm⟩⟩
  obtain ⟨v, hv, hr⟩ := d.get hd
  refine ⟨⟨xs, v, hS, hv⟩, fun x H' hy => ?_⟩
  obtain ⟨rfl, q⟩ := hy
  have := q xs hS
  rw [hv] at this; cases this
  exact ⟨Ext.refl _, Dr.ext e hr⟩
theorem walk_t {p : Addr} {xs : List V} {ds : List PyData} (h : R0 p = some (.tup xs)) (d : DrL K R0 ds xs) : WalkD K (Itt K p) ds R0 := by
  intro i H f al e
  have hS : SqT K H p xs := SqT.of (mn_ext H f _ _ (e _ _ h))
  refine ⟨fun d' hd => ?_, fun hl => ⟨xs, hS, by rw [d.length]; exact Nat.le_of_eq hl.symm⟩⟩
  obtain ⟨v, hv, hr⟩ := d.get hd
  refine ⟨⟨xs, v, hS, hv⟩, fun x H' hy => ?_⟩
  obtain ⟨rfl, q⟩ := hy
  have := q xs hS
  rw [hv] at this; cases this
  exact ⟨Ext.refl _, Dr.ext e hr⟩
theorem rgD_length (a b : Int) : (rgD a b).length = (b - a).toNat := by unfold rgD; simp
theorem rgD_get {a b : Int} {i : Nat} {d : PyData} (h : (rgD a b)[i]? = some d) : i < (b - a).toNat ∧ d = .int (a + (i : Nat)) := by
  have hi : i < (rgD a b).length := (List.getElem?_eq_some_iff.mp h).1
  rw [rgD_length] at hi
  refine ⟨hi, ?_⟩
  unfold rgD at h
  rw [List.getElem?_map, List.getElem?_range hi] at h
  cases h; rfl
theorem walk_r {a b : Int} : WalkD K (Itr a (b - a).toNat) (rgD a b) R0 := by
  intro i H f al e
  refine ⟨fun d hd => ?_, fun hl => by rw [rgD_length] at hl; exact Nat.le_of_eq hl.symm⟩
  obtain ⟨hi, rfl⟩ := rgD_get hd
  refine ⟨hi, fun x H' hy => ?_⟩
  obtain ⟨rfl, rfl⟩ := hy
  exact ⟨Ext.refl _, by unfold Dr; rfl⟩
theorem pair_dr {H : Hp} {f : Fp} {T : Addr} {x y : V} {c d : PyData} (n : H T = none) (al : Alc H f) (h1 : Dr K (mn H f) c x) (h2 : Dr K (mn H f) d y) : Dr K (mn (upd H T (.tup [x, y])) f) (.tuple [c, d]) (.ref T) := by
  have e := mn_new (o := .tup [x, y]) n al
  unfold Dr
  refine ⟨T, [x, y], rfl, mn_of (al.zero n) upd_same, ?_⟩
  unfold DrL
  refine ⟨x, [y], rfl, Dr.ext e h1, ?_⟩
  unfold DrL
  refine ⟨y, [], rfl, Dr.ext e h2, ?_⟩
  unfold DrL; rfl
def enmD (ds : List PyData) : List PyData := ds.zipIdx.map fun p => .tuple [.int (p.2 : Nat), p.1]
theorem enmD_get {ds : List PyData} {i : Nat} {d : PyData} (h : (enmD ds)[i]? = some d) : ∃ e, ds[i]? = some e ∧ d = .tuple [.int (i : Nat), e] := by
  unfold enmD at h
  rw [List.getElem?_map] at h
  obtain ⟨p, h1, rfl⟩ := Option.map_eq_some_iff.mp h
  rw [List.getElem?_zipIdx] at h1
  obtain ⟨e, h2, rfl⟩ := Option.map_eq_some_iff.mp h1
  exact ⟨e, h2, by simp⟩
theorem enmD_length (ds : List PyData) : (enmD ds).length = ds.length := by unfold enmD; simp
theorem walk_e {p : Addr} {xs : List V} {ds : List PyData} (h : SqL K R0 p xs) (d : DrL K R0 ds xs) : WalkD K (Ite K p) (enmD ds) R0 := by
  intro i H f al e
  have hS : SqL K H p xs := (e.trans (mn_ext H f)).sql h
  refine ⟨fun d' hd => ?_, fun hl => ⟨xs, hS, by rw [d.length]; rw [enmD_length] at hl; exact Nat.le_of_eq hl.symm⟩⟩
  obtain ⟨c, hc, rfl⟩ := enmD_get hd
  obtain ⟨v, hv, hr⟩ := d.get hc
  refine ⟨⟨xs, v, hS, hv⟩, fun x H' hy => ?_⟩
  obtain ⟨T, y, rfl, hT, rfl, q⟩ := hy
  have := q xs hS
  rw [hv] at this; cases this
  exact ⟨Ext.new hT, pair_dr hT al (by unfold Dr; rfl) (Dr.ext e hr)⟩
theorem walk_et {p : Addr} {xs : List V} {ds : List PyData} (h : R0 p = some (.tup xs)) (d : DrL K R0 ds xs) : WalkD K (Hx.ItEt K p) (enmD ds) R0 := by
  intro i H f al e
  have hS : SqT K H p xs := SqT.of (mn_ext H f _ _ (e _ _ h))
  refine ⟨fun d' hd => ?_, fun hl => ⟨xs, hS, by rw [d.length]; rw [enmD_length] at hl; exact hl⟩⟩
  obtain ⟨c, hc, rfl⟩ := enmD_get hd
  obtain ⟨v, hv, hr⟩ := d.get hc
  refine ⟨⟨xs, v, hS, hv⟩, fun x H' hy => ?_⟩
  obtain ⟨T, y, rfl, hT, rfl, q⟩ := hy
  have := q xs hS
  rw [hv] at this; cases this
  exact ⟨Ext.new hT, pair_dr hT al (by unfold Dr; rfl) (Dr.ext e hr)⟩
def zipD (ds es : List PyData) : List PyData := (ds.zip es).map fun p => .tuple [p.1, p.2]
theorem zipD_get {ds es : List PyData} {i : Nat} {d : PyData} (h : (zipD ds es)[i]? = some d) : ∃ a b, ds[i]? = some a ∧ es[i]? = some b ∧ d = .tuple [a, b] := by
  unfold zipD at h
  rw [List.getElem?_map] at h
  obtain ⟨p, h1, rfl⟩ := Option.map_eq_some_iff.mp h
  obtain ⟨h2, h3⟩ := List.getElem?_zip_eq_some.mp h1
  exact ⟨p.1, p.2, h2, h3, rfl⟩
theorem zipD_length (ds es : List PyData) : (zipD ds es).length = min ds.length es.length := by unfold zipD; simp
def RawB (H : Hp) : Bool → Addr → List V → Prop
  | true, p, xs => H p = some (.tup xs)
  | false, p, xs => H p = some (.lst xs)
theorem RawB.sq {H H' : Hp} {p : Addr} {xs : List V} (e : Ext H H') : ∀ {b : Bool}, RawB H b p xs → Hx.SqB K H' b p xs
  | true, h => SqT.of (e _ _ h)
  | false, h => SqL.of (e _ _ h)
theorem seqD_rep {H : Hp} {d : PyData} {v : V} {ds : List PyData} (h : Dr K H d v) (e : seqD d = some ds) : ∃ b p xs, v = .ref p ∧ RawB H b p xs ∧ DrL K H ds xs := by
  cases d with
  | list es =>
    unfold seqD at e; cases e
    unfold Dr at h
    obtain ⟨p, xs, h1, h2, h3⟩ := h
    exact ⟨false, p, xs, h1, h2, h3⟩
  | tuple es =>
    unfold seqD at e; cases e
    unfold Dr at h
    obtain ⟨p, xs, h1, h2, h3⟩ := h
    exact ⟨true, p, xs, h1, h2, h3⟩
  | none => unfold seqD at e; cases e
  | bool _ => unfold seqD at e; cases e
  | int _ => unfold seqD at e; cases e
  | str _ => unfold seqD at e; cases e
  | dict _ => unfold seqD at e; cases e
theorem walk_zB {b1 b2 : Bool} {p q : Addr} {xs ys : List V} {ds es : List PyData} (h : RawB R0 b1 p xs) (h' : RawB R0 b2 q ys) (d : DrL K R0 ds xs) (d2 : DrL K R0 es ys) : WalkD K (Hx.ItzB K b1 b2 p q) (zipD ds es) R0 := by
  intro i H f al e
  have hS : Hx.SqB K H b1 p xs := h.sq (e.trans (mn_ext H f))
  have hS' : Hx.SqB K H b2 q ys := h'.sq (e.trans (mn_ext H f))
  refine ⟨fun d' hd => ?_, fun hl => ⟨xs, ys, hS, hS', by rw [d.length, d2.length]; rw [zipD_length] at hl; exact hl⟩⟩
  obtain ⟨a, b, ha, hb, rfl⟩ := zipD_get hd
  obtain ⟨v, hv, hr⟩ := d.get ha
  obtain ⟨v2, hv2, hr2⟩ := d2.get hb
  refine ⟨⟨xs, ys, v, v2, hS, hS', hv, hv2⟩, fun x H' hy => ?_⟩
  obtain ⟨T, y, z, rfl, hT, rfl, q1, q2⟩ := hy
  have := q1 xs hS
  rw [hv] at this; cases this
  have := q2 ys hS'
  rw [hv2] at this; cases this
  exact ⟨Ext.new hT, pair_dr hT al (Dr.ext e hr) (Dr.ext e hr2)⟩
theorem trip_dr {H : Hp} {f : Fp} {T : Addr} {x y z : V} {c d e : PyData} (n : H T = none) (al : Alc H f) (h1 : Dr K (mn H f) c x) (h2 : Dr K (mn H f) d y) (h3 : Dr K (mn H f) e z) : Dr K (mn (upd H T (.tup [x, y, z])) f) (.tuple [c, d, e]) (.ref T) := by
  have ex := mn_new (o := .tup [x, y, z]) n al
  unfold Dr
  refine ⟨T, [x, y, z], rfl, mn_of (al.zero n) upd_same, ?_⟩
  unfold DrL
  refine ⟨x, [y, z], rfl, Dr.ext ex h1, ?_⟩
  unfold DrL
  refine ⟨y, [z], rfl, Dr.ext ex h2, ?_⟩
  unfold DrL
  refine ⟨z, [], rfl, Dr.ext ex h3, ?_⟩
  unfold DrL; rfl
def zip3D (ds es gs : List PyData) : List PyData := (ds.zip (es.zip gs)).map fun p => .tuple [p.1, p.2.1, p.2.2]
theorem zip3D_get {ds es gs : List PyData} {i : Nat} {d : PyData} (h : (zip3D ds es gs)[i]? = some d) : ∃ a b c, ds[i]? = some a ∧ es[i]? = some b ∧ gs[i]? = some c ∧ d = .tuple [a, b, c] := by
  unfold zip3D at h
  rw [List.getElem?_map] at h
  obtain ⟨p, h1, rfl⟩ := Option.map_eq_some_iff.mp h
  obtain ⟨h2, h3⟩ := List.getElem?_zip_eq_some.mp h1
  obtain ⟨h4, h5⟩ := List.getElem?_zip_eq_some.mp h3
  exact ⟨p.1, p.2.1, p.2.2, h2, h4, h5, rfl⟩
theorem zip3D_length (ds es gs : List PyData) : (zip3D ds es gs).length = min ds.length (min es.length gs.length) := by unfold zip3D; simp
theorem walk_z3 {b1 b2 b3 : Bool} {p q r : Addr} {xs ys zs : List V} {ds es gs : List PyData} (h : RawB R0 b1 p xs) (h' : RawB R0 b2 q ys) (h'' : RawB R0 b3 r zs) (d : DrL K R0 ds xs) (d2 : DrL K R0 es ys) (d3 : DrL K R0 gs zs) : WalkD K (Hx.Itz3 K b1 b2 b3 p q r) (zip3D ds es gs) R0 := by
  intro i H f al e
  have hS : Hx.SqB K H b1 p xs := h.sq (e.trans (mn_ext H f))
  have hS' : Hx.SqB K H b2 q ys := h'.sq (e.trans (mn_ext H f))
  have hS'' : Hx.SqB K H b3 r zs := h''.sq (e.trans (mn_ext H f))
  refine ⟨fun d' hd => ?_, fun hl => ⟨xs, ys, zs, hS, hS', hS'', by rw [d.length, d2.length, d3.length]; rw [zip3D_length] at hl; exact hl⟩⟩
  obtain ⟨a, b, c, ha, hb, hc, rfl⟩ := zip3D_get hd
  obtain ⟨v, hv, hr⟩ := d.get ha
  obtain ⟨v2, hv2, hr2⟩ := d2.get hb
  obtain ⟨v3, hv3, hr3⟩ := d3.get hc
  refine ⟨⟨xs, ys, zs, v, v2, v3, hS, hS', hS'', hv, hv2, hv3⟩, fun x H' hy => ?_⟩
  obtain ⟨T, y, z, u, rfl, hT, rfl, q1, q2, q3⟩ := hy
  have := q1 xs hS
  rw [hv] at this; cases this
  have := q2 ys hS'
  rw [hv2] at this; cases this
  have := q3 zs hS''
  rw [hv3] at this; cases this
  exact ⟨Ext.new hT, trip_dr hT al (Dr.ext e hr) (Dr.ext e hr2) (Dr.ext e hr3)⟩
theorem walk_zl {p q : Addr} {xs ys : List V} {ds es : List PyData} (h : SqL K R0 p xs) (h' : SqL K R0 q ys) (d : DrL K R0 ds xs) (d2 : DrL K R0 es ys) : WalkD K (Itz K p q) (zipD ds es) R0 := by
  intro i H f al e
  have hS : SqL K H p xs := (e.trans (mn_ext H f)).sql h
  have hS' : SqL K H q ys := (e.trans (mn_ext H f)).sql h'
  refine ⟨fun d' hd => ?_, fun hl => ⟨xs, ys, hS, hS', by rw [d.length, d2.length]; rw [zipD_length] at hl; omega⟩⟩
  obtain ⟨a, b, ha, hb, rfl⟩ := zipD_get hd
  obtain ⟨v, hv, hr⟩ := d.get ha
  obtain ⟨v2, hv2, hr2⟩ := d2.get hb
  refine ⟨⟨xs, ys, v, v2, hS, hS', hv, hv2⟩, fun x H' hy => ?_⟩
  obtain ⟨T, y, z, rfl, hT, rfl, q1, q2⟩ := hy
  have := q1 xs hS
  rw [hv] at this; cases this
  have := q2 ys hS'
  rw [hv2] at this; cases this
  exact ⟨Ext.new hT, pair_dr hT al (Dr.ext e hr) (Dr.ext e hr2)⟩
theorem walk_zt {p q : Addr} {xs ys : List V} {ds es : List PyData} (h : R0 p = some (.tup xs)) (h' : R0 q = some (.tup ys)) (d : DrL K R0 ds xs) (d2 : DrL K R0 es ys) : WalkD K (RZ.ItzT K p q) (zipD ds es) R0 := by
  intro i H f al e
  have hS : SqT K H p xs := SqT.of (mn_ext H f _ _ (e _ _ h))
  have hS' : SqT K H q ys := SqT.of (mn_ext H f _ _ (e _ _ h'))
  refine ⟨fun d' hd => ?_, fun hl => ⟨xs, ys, hS, hS', by rw [d.length, d2.length]; rw [zipD_length] at hl; omega⟩⟩
  obtain ⟨a, b, ha, hb, rfl⟩ := zipD_get hd
  obtain ⟨v, hv, hr⟩ := d.get ha
  obtain ⟨v2, hv2, hr2⟩ := d2.get hb
  refine ⟨⟨xs, ys, v, v2, hS, hS', hv, hv2⟩, fun x H' hy => ?_⟩
  obtain ⟨T, y, z, rfl, hT, rfl, q1, q2⟩ := hy
  have := q1 xs hS
  rw [hv] at this; cases this
  have := q2 ys hS'
  rw [hv2] at this; cases this
  exact ⟨Ext.new hT, pair_dr hT al (Dr.ext e hr) (Dr.ext e hr2)⟩
end

/-! ### the state, a little more -/
section
variable {K : PySem.W.Frag} {Γ Γ' : List Tr} {σ σ' : Sig} {H H' : Hp} {f f' pr : Fp}
theorem St0.grow (st : St0 K Γ σ H f pr) (e : Ext H H') : St0 K Γ σ H' f pr ∧ ∀ pr, Stp H f pr H' f := by
  obtain ⟨h1, h2, g, ga, hs, _, hl⟩ := st
  have s : ∀ pr, Stp H f pr H' f := fun pr => ⟨fun a o h h0 => ⟨e a o h, h0⟩, fun a o _ h => e a o h⟩
  exact ⟨⟨h1, fun a ha => let ⟨o, ho⟩ := h2 a ha; ⟨o, e a o ho⟩, g, fun _ => 0, hs.stp (s g) (fun _ => Nat.le_refl _), trivial, fun a => by have := hl a; show 0 + (g a + pr a) ≤ f a; omega⟩, s⟩
theorem RepS.agree : ∀ {Γ : List Tr} {σ σ' : Sig} {g : Fp}, RepS K H f Γ σ g → σ'.length = σ.length → (∀ (j : Nat) (x : Tr), Γ[j]? = some x → x ≠ Tr.gone → σ'[j]? = σ[j]?) → RepS K H f Γ σ' g
  | [], _, _, _, h, l, _ => by unfold RepS at h; subst h; unfold RepS; exact List.eq_nil_of_length_eq_zero l
  | x :: Γ, _, [], _, h, l, _ => by obtain ⟨o, r, g1, g2, rfl, _⟩ := h; cases l
  | x :: Γ, _, o' :: σ', _, h, l, q => by
    obtain ⟨o, r, g1, g2, rfl, h1, h2, h3⟩ := h
    refine ⟨o', σ', g1, g2, rfl, ?_, RepS.agree h2 (by simpa using l) fun j y e n => by simpa using q (j + 1) y (by simpa using e) n, h3⟩
    by_cases n : x = .gone
    · subst n; trivial
    · have := q 0 x rfl n
      simp only [List.getElem?_cons_zero, Option.some.injEq] at this
      rw [this]; exact h1
theorem wipeT_length (Γ : List Tr) : ∀ own : List Nat, (wipeT Γ own).length = Γ.length
  | [] => rfl
  | i :: is => by unfold wipeT; rw [List.length_set, wipeT_length Γ is]
theorem wipeT_out {Γ : List Tr} {j : Nat} : ∀ {own : List Nat}, j ∉ own → (wipeT Γ own)[j]? = Γ[j]?
  | [], _ => rfl
  | i :: is, h => by
    simp only [List.mem_cons, not_or] at h
    unfold wipeT
    rw [List.getElem?_set_ne (Ne.symm h.1)]
    exact wipeT_out h.2
theorem wipeT_in {Γ : List Tr} {j : Nat} {x : Tr} : ∀ {own : List Nat}, j ∈ own → (wipeT Γ own)[j]? = some x → x = .gone
  | i :: is, h, e => by
    unfold wipeT at e
    by_cases hi : i = j
    · subst hi
      have hl : i < ((wipeT Γ is).set i .gone).length := (List.getElem?_eq_some_iff.mp e).1
      rw [List.getElem?_set_self (by simpa using hl)] at e
      cases e; rfl
    · rw [List.getElem?_set_ne hi] at e
      rcases List.mem_cons.mp h with z | h
      · exact absurd z.symm hi
      · exact wipeT_in h e
theorem RepS.drop {i : Nat} (h : RepS K H f Γ σ g) : RepS K H f (Γ.set i .gone) σ g := by
  cases e : Γ[i]? with
  | none =>
    have : Γ.set i .gone = Γ := List.set_eq_of_length_le (List.getElem?_eq_none_iff.mp e)
    rw [this]; exact h
  | some x =>
    obtain ⟨o, g1, g2, _, _, h3, h4⟩ := h.take e
    exact h3.mono fun a => by have := h4 a; omega
theorem RepS.wipeT (h : RepS K H f Γ σ g) : ∀ own : List Nat, RepS K H f (Hw.wipeT Γ own) σ g
  | [] => h
  | i :: is => by unfold Hw.wipeT; exact (RepS.wipeT h is).drop
theorem wipe_len (σ : Sig) (own : List Nat) : (wipe σ own).length = σ.length := wipe_length σ own
theorem wipe_at {σ : Sig} {j : Nat} : ∀ {own : List Nat}, j ∈ own → (wipe σ own)[j]? = if j < σ.length then some none else none
  | i :: is, h => by
    unfold wipe
    by_cases hi : i = j
    · subst hi
      by_cases hl : i < σ.length
      · rw [if_pos hl, List.getElem?_set_self (by rw [wipe_len]; exact hl)]
      · rw [if_neg hl]
        exact List.getElem?_eq_none (by rw [List.length_set, wipe_len]; omega)
    · rw [List.getElem?_set_ne hi]
      rcases List.mem_cons.mp h with z | h
      · exact absurd z.symm hi
      · exact wipe_at h
theorem wipe_out' {σ : Sig} {j : Nat} {own : List Nat} (h : j ∉ own) : (wipe σ own)[j]? = σ[j]? := wipe_out h
theorem wipe_eq {own : List Nat} (l : σ'.length = σ.length) (q : ∀ j, j ∉ own → σ'[j]? = σ[j]?) : wipe σ' own = wipe σ own := by
  refine List.ext_getElem? fun j => ?_
  by_cases h : j ∈ own
  · rw [wipe_at h, wipe_at h, l]
  · rw [wipe_out' h, wipe_out' h, q j h]
/-- slots that are wiped may hold anything -/
theorem RepS.own {own : List Nat} {g : Fp} (h : RepS K H f (Hw.wipeT Γ own) σ g) (l : σ'.length = σ.length) (q : ∀ j, j ∉ own → σ'[j]? = σ[j]?) : RepS K H f (Hw.wipeT Γ own) σ' g :=
  h.agree l fun j x e n => by
    by_cases hj : j ∈ own
    · exact absurd (wipeT_in hj e) n
    · exact q j hj
end

/-! ### targets -/
def gNames : List Nat → TGs
  | [] => gNil
  | i :: is => gCons (gName i) (gNames is)
def gTg (K : PySem.W.Frag) : CTg → TG
  | .nm i => gName i
  | .tp is => gTup K is.length (gNames is)
section
variable {K : PySem.W.Frag} {Γ Γ1 : List Tr} {σ : Sig} {H : Hp} {f pr : Fp}
theorem St0.store {d : PyData} {x : V} {i : Nat} (st : St0 K Γ σ H f pr) (dx : Dr K (mn H f) d x) : St0 K (Γ.set i (.c d)) (σ.set i (some x)) H f pr := by
  obtain ⟨h1, h2, g, ga, hs, _, hl⟩ := st
  refine ⟨h1, h2, _, fun _ => 0, RepS.store (g' := fun _ => 0) hs (.mk (by unfold Rep; exact dx)), trivial, fun a => by have := hl a; show 0 + (0 + g a + pr a) ≤ f a; omega⟩
theorem bindTp_ok : ∀ {is : List Nat} {ds : List PyData} {xs : List V} {Γ Γ1 : List Tr} {σ : Sig} {Q : Sig → Hp → Prop}, St0 K Γ σ H f pr → DrL K (mn H f) ds xs → bindTp Γ is ds = some Γ1 →
    (∀ σ1, St0 K Γ1 σ1 H f pr → σ1.length = σ.length → (∀ j, j ∉ is → σ1[j]? = σ[j]?) → Q σ1 H) → gNames is xs σ H Q
  | [], [], _, _, _, _, _, st, d, e, q => by
    unfold bindTp at e; cases e
    unfold DrL at d
    exact ⟨d, q _ st rfl fun _ _ => rfl⟩
  | [], _ :: _, _, _, _, _, _, _, _, e, _ => by unfold bindTp at e; cases e
  | _ :: _, [], _, _, _, _, _, _, _, e, _ => by unfold bindTp at e; cases e
  | i :: is, d :: ds, _, Γ, Γ1, σ, Q, st, hd, e, q => by
    unfold bindTp at e
    unfold DrL at hd
    obtain ⟨v, r, rfl, h1, h2⟩ := hd
    refine ⟨v, r, rfl, ?_⟩
    exact bindTp_ok (st.store h1) h2 e fun σ1 st1 l o => q σ1 st1 (by rw [l, List.length_set]) fun j hj => by
      simp only [List.mem_cons, not_or] at hj
      rw [o j hj.2, List.getElem?_set_ne (Ne.symm hj.1)]
theorem bind_ok {tg : CTg} {d : PyData} {x : V} {Q : Sig → Hp → Prop} (st : St0 K Γ σ H f pr) (dx : Dr K (mn H f) d x) (e : bindTg Γ tg d = some Γ1)
    (q : ∀ σ1, St0 K Γ1 σ1 H f pr → σ1.length = σ.length → (∀ j, j ∉ tg.slots → σ1[j]? = σ[j]?) → Q σ1 H) : gTg K tg x σ H Q := by
  cases tg with
  | nm i =>
    unfold bindTg at e; cases e
    exact q _ (st.store dx) (by rw [List.length_set]) fun j hj => by
      unfold CTg.slots at hj
      simp only [List.mem_singleton] at hj
      rw [List.getElem?_set_ne (Ne.symm hj)]
  | tp is =>
    cases d with
    | tuple ds =>
      simp only [bindTg] at e
      split at e
      · rename_i hl
        unfold Dr at dx
        obtain ⟨a, xs, rfl, h1, h2⟩ := dx
        exact ⟨a, xs, rfl, SqT.of (mn_ext _ _ _ _ h1), by rw [h2.length, hl], bindTp_ok st h2 e q⟩
      · cases e
    | none => unfold bindTg at e; cases e
    | bool b => unfold bindTg at e; cases e
    | int b => unfold bindTg at e; cases e
    | str b => unfold bindTg at e; cases e
    | list b => unfold bindTg at e; cases e
    | dict b => unfold bindTg at e; cases e
end
end Hw
set_option Elab.async false
set_option linter.all false
set_option maxRecDepth 100000
set_option maxHeartbeats 1000000
/-! what is walked, comprehensions: readings -/
namespace Hw
open PySem PySem.Spec PyProof.Rows L2
def tI (R : RC) (it : CIt) : TI := fun σ H RR => ∃ Γ f pr, St0 R.K Γ σ H f pr ∧ match evIt R.F it Γ with
  | some (.ok ds Γ') => ∀ J H' f', Stp H f pr H' f' → St0 R.K Γ' σ H' f' pr → WalkD R.K J ds (mn H' f') → RR J H'
  | some (.ex x Γ') => ∀ C H' f', R.mg x = some (.ref C) → Stp H f pr H' f' → St0 R.K Γ' σ H' f' pr → R.W (.ref C) none σ H'
  | none => False
def tC (R : RC) : List CT → TT
  | [] => tYes
  | c :: _ => tT R c
def RC.quiet (R : RC) : RC := { R with W := fun _ _ _ _ => False }
section
variable {R : RC} {σ : Sig} {H : Hp} {Q : VK} {RR : It → Hp → Prop}
theorem St1.settleS {K : PySem.W.Frag} {Γ : List Tr} {f pr : Fp} {v : V} {t : Tr} {d : PyData} (h : St1 K Γ σ H f pr v t) (e : frz t = some d) : ∃ f', (∀ pr, Stp H f pr H f') ∧ St0 K Γ σ H f' pr ∧ Dr K (mn H f') d v := by
  obtain ⟨f', s, st, dr⟩ := StA.settle h e
  exact ⟨f', fun pr => ⟨s.1, fun _ _ _ e => e⟩, st, dr⟩
theorem sq_read {K : PySem.W.Frag} (hK : K = R.K) {a : CE} (h : tI R (.sq a) σ H RR) : iList K (tE R a) σ H RR ∨ iTup K (tE R a) σ H RR := by
  subst hK
  obtain ⟨Γ, f, pr, st, h⟩ := h
  simp only [evIt] at h
  cases q : ev R.F a Γ with
  | none => simp only [q] at h
  | some r =>
    cases r with
    | ex y Γ1 => simp only [q] at h; exact .inl ⟨Γ, f, pr, st, by simp only [q]; exact h⟩
    | ok t Γ1 =>
      simp only [q] at h
      have lst : ∀ ds, frz t = some (.list ds) → (∀ J H' f', Stp H f pr H' f' → St0 R.K Γ1 σ H' f' pr → WalkD R.K J ds (mn H' f') → RR J H') → iList R.K (tE R a) σ H RR := by
        intro ds e h
        refine ⟨Γ, f, pr, st, ?_⟩
        simp only [q]
        intro v H1 f1 s1 st1
        obtain ⟨f2, s2, st2, dr⟩ := St1.settleS st1 e
        unfold Dr at dr
        obtain ⟨p, xs, rfl, h1, h2⟩ := dr
        exact ⟨p, rfl, ⟨xs, SqL.of (mn_ext _ _ _ _ h1)⟩, h _ H1 f2 (s1.trans (s2 pr) fun _ => Nat.le_refl _) st2 (walk_l (SqL.of h1) h2)⟩
      have tup : ∀ ds, frz t = some (.tuple ds) → (∀ J H' f', Stp H f pr H' f' → St0 R.K Γ1 σ H' f' pr → WalkD R.K J ds (mn H' f') → RR J H') → iTup R.K (tE R a) σ H RR := by
        intro ds e h
        refine ⟨Γ, f, pr, st, ?_⟩
        simp only [q]
        intro v H1 f1 s1 st1
        obtain ⟨f2, s2, st2, dr⟩ := St1.settleS st1 e
        unfold Dr at dr
        obtain ⟨p, xs, rfl, h1, h2⟩ := dr
        exact ⟨p, rfl, ⟨xs, SqT.of (mn_ext _ _ _ _ h1)⟩, h _ H1 f2 (s1.trans (s2 pr) fun _ => Nat.le_refl _) st2 (walk_t h1 h2)⟩
      have gen : ∀ (t' : Tr), t = t' → (match frz t' with
          | some (.list ds) => some (IR.ok ds Γ1) | some (.tuple ds) => some (.ok ds Γ1) | _ => none : Option IR) = (match frz t with
          | some (.list ds) => some (IR.ok ds Γ1) | some (.tuple ds) => some (.ok ds Γ1) | _ => none : Option IR) := fun t' e => by rw [e]
      have fin : (match (match frz t with
          | some (.list ds) => some (IR.ok ds Γ1) | some (.tuple ds) => some (.ok ds Γ1) | _ => none : Option IR) with
          | some (.ok ds Γ') => ∀ J H' f', Stp H f pr H' f' → St0 R.K Γ' σ H' f' pr → WalkD R.K J ds (mn H' f') → RR J H'
          | some (.ex x Γ') => ∀ C H' f', R.mg x = some (.ref C) → Stp H f pr H' f' → St0 R.K Γ' σ H' f' pr → R.W (.ref C) none σ H'
          | none => False) → iList R.K (tE R a) σ H RR ∨ iTup R.K (tE R a) σ H RR := by
        intro h
        cases e : frz t with
        | none => simp only [e] at h
        | some d =>
          cases d with
          | list ds => simp only [e] at h; exact .inl (lst ds e h)
          | tuple ds => simp only [e] at h; exact .inr (tup ds e h)
          | none => simp only [e] at h
          | bool b => simp only [e] at h
          | int b => simp only [e] at h
          | str b => simp only [e] at h
          | dict b => simp only [e] at h
      cases t with
      | s ns =>
        simp only at h
        refine .inl ⟨Γ, f, pr, st, ?_⟩
        simp only [q]
        intro v H1 f1 s1 st1
        obtain ⟨_, _, _, ga, _, hg, _⟩ := id st1
        unfold Rep at hg
        obtain ⟨p, rfl, hp⟩ := hg
        exact ⟨p, rfl, ⟨_, (mn_ext H1 f1).sql hp⟩, h _ H1 f1 s1 st1.drop (walk_l hp script_dr)⟩
      | c d => exact fin h
      | l xs => exact fin h
      | t xs => exact fin h
      | gone => exact fin h
theorem rng1_read {a : CE} (h : tI R (.rng1 a) σ H RR) : iRng1 (tCons (tE R a) tNil) σ H RR := by
  obtain ⟨Γ, f, pr, st, h⟩ := h
  simp only [evIt] at h
  refine ⟨Γ, f, pr, st, ?_⟩
  cases q : ev R.F a Γ with
  | none => simp only [q] at h
  | some r =>
    cases r with
    | ex y Γ1 => simp only [q] at h; exact h
    | ok t Γ1 =>
      simp only [q] at h
      intro v H1 f1 s1 st1
      cases q1 : asInt t with
      | none => simp only [q1, Option.bind_none] at h
      | some j =>
        simp only [q1, Option.bind_some] at h
        by_cases hb : okR j = true
        · rw [if_pos hb] at h
          obtain ⟨_, _, _, ga, _, hg, _⟩ := id st1
          have hv := asInt_rep ⟨ga, hg⟩ q1
          subst hv
          refine ⟨j, rfl, (okR_62 hb).1, (okR_62 hb).2, h _ H1 f1 s1 st1.drop ?_⟩
          have := walk_r (K := R.K) (R0 := mn H1 f1) (a := 0) (b := j)
          rw [Int.sub_zero] at this
          exact this
        · rw [if_neg hb] at h; exact h.elim
theorem pair_of {K : PySem.W.Frag} {f : Fp} {ts : List Tr} {x y : V} (h : RepWs K H f ts [x, y]) : ∃ ta tb, ts = [ta, tb] ∧ RepW K H f ta x ∧ RepW K H f tb y := by
  cases ts with
  | nil => unfold RepWs at h; cases h
  | cons ta ts =>
    obtain ⟨v, w, h0, r1, r2⟩ := h
    cases h0
    cases ts with
    | nil => unfold RepWs at r2; cases r2
    | cons tb ts =>
      obtain ⟨v, w, h0, r3, r4⟩ := r2
      cases h0
      cases ts with
      | nil => exact ⟨ta, tb, rfl, r1, r3⟩
      | cons c ts => obtain ⟨v, w, h0, _⟩ := r4; cases h0
theorem rng2_read {as : List CA} (h : tI R (.rng2 as) σ H RR) : iRng2 (tAs R as) σ H RR := by
  obtain ⟨Γ, f, pr, st, h⟩ := h
  simp only [evIt] at h
  refine ⟨Γ, f, pr, st, ?_⟩
  cases q : evAs R.F as Γ with
  | none => simp only [q] at h
  | some r =>
    cases r with
    | ex y Γ1 => simp only [q] at h; exact h
    | ok avs Γ1 =>
      simp only [q] at h
      intro vs H1 f1 s1 st1
      obtain ⟨_, _, g, ga, hs, hg, _⟩ := id st1
      cases qr : resolves Γ1 avs with
      | none => simp only [qr] at h
      | some ts =>
        have rw2 := resolves_rep hs hg qr
        simp only [qr] at h
        match ts, rw2, h with
        | [ta, tb], rw2, h =>
          obtain ⟨x, y, rfl, ra, rb⟩ := rw2.two
          simp only at h
          cases q1 : asInt ta with
          | none => simp only [q1, Option.bind_none] at h
          | some i =>
            cases q2 : asInt tb with
            | none => simp only [q1, q2, Option.bind_some, Option.bind_none] at h
            | some j =>
              simp only [q1, q2, Option.bind_some] at h
              by_cases hb : okR i = true ∧ okR j = true
              · rw [if_pos hb] at h
                exact ⟨i, j, by rw [asInt_rep ra q1, asInt_rep rb q2], ⟨(okR_62 hb.1).1, (okR_62 hb.1).2, (okR_62 hb.2).1, (okR_62 hb.2).2⟩, h _ H1 f1 s1 st1.drop walk_r⟩
              · rw [if_neg hb] at h; exact h.elim
        | [], _, h => simp only at h
        | [_], _, h => simp only at h
        | _ :: _ :: _ :: _, _, h => simp only at h
theorem enm_read {K : PySem.W.Frag} (hK : K = R.K) {a : CE} (h : tI R (.enm a) σ H RR) : (tE R a) σ H fun v H1 => (∃ p xs, v = .ref p ∧ SqL K H1 p xs ∧ RR (Ite K p) H1) ∨ ∃ p xs, v = .ref p ∧ SqT K H1 p xs ∧ RR (Hx.ItEt K p) H1 := by
  subst hK
  obtain ⟨Γ, f, pr, st, h⟩ := h
  simp only [evIt] at h
  refine ⟨Γ, f, pr, st, ?_⟩
  cases q : ev R.F a Γ with
  | none => simp only [q] at h
  | some r =>
    cases r with
    | ex y Γ1 => simp only [q] at h; exact h
    | ok t Γ1 =>
      simp only [q] at h
      intro v H1 f1 s1 st1
      cases e : frz t with
      | none => simp only [e] at h
      | some d =>
        obtain ⟨f2, s2, st2, dr⟩ := St1.settleS st1 e
        cases d with
        | list ds =>
          simp only [e] at h
          unfold Dr at dr
          obtain ⟨p, xs, rfl, h1, h2⟩ := dr
          exact .inl ⟨p, xs, rfl, SqL.of (mn_ext _ _ _ _ h1), h _ H1 f2 (s1.trans (s2 pr) fun _ => Nat.le_refl _) st2 (walk_e (SqL.of h1) h2)⟩
        | tuple ds =>
          simp only [e] at h
          unfold Dr at dr
          obtain ⟨p, xs, rfl, h1, h2⟩ := dr
          exact .inr ⟨p, xs, rfl, SqT.of (mn_ext _ _ _ _ h1), h _ H1 f2 (s1.trans (s2 pr) fun _ => Nat.le_refl _) st2 (walk_et h1 h2)⟩
        | none => simp only [e] at h
        | bool b => simp only [e] at h
        | int b => simp only [e] at h
        | str b => simp only [e] at h
        | dict b => simp only [e] at h
theorem zip_read {K : PySem.W.Frag} (hK : K = R.K) {as : List CA} (h : tI R (.zip as) σ H RR) : Hx.iZipB K (tAs R as) σ H RR := by
  subst hK
  obtain ⟨Γ, f, pr, st, h⟩ := h
  simp only [evIt] at h
  refine ⟨Γ, f, pr, st, ?_⟩
  cases q : evAs R.F as Γ with
  | none => simp only [q] at h
  | some r =>
    cases r with
    | ex y Γ1 => simp only [q] at h; exact h
    | ok avs Γ1 =>
      simp only [q] at h
      intro vs H1 f1 s1 st1
      cases qr : tmps avs with
      | none => simp only [qr] at h
      | some ts =>
        simp only [qr] at h
        match ts, qr, h with
        | [], _, h => simp only at h
        | [_], _, h => simp only at h
        | _ :: _ :: _ :: _, _, h => simp only at h
        | [ta, tb], qr, h =>
          simp only at h
          obtain ⟨ga, hg, st1'⟩ := st1.out
          have rl := tmps_rep hg qr
          unfold RepL at rl
          obtain ⟨x, r1, g1, g2, rfl, ra, rl, hl1⟩ := rl
          unfold RepL at rl
          obtain ⟨y, r2, g3, g4, rfl, rb, rl, hl2⟩ := rl
          unfold RepL at rl
          subst rl
          have key : ∀ {d e : PyData}, frz ta = some d → frz tb = some e → ∃ f2, Stp H1 f1 pr H1 f2 ∧ St0 R.K Γ1 σ H1 f2 pr ∧ Dr R.K (mn H1 f2) d x ∧ Dr R.K (mn H1 f2) e y := by
            intro d e ea eb
            have t1 : St1 R.K Γ1 σ H1 f1 (padd pr g3) x ta := by
              obtain ⟨h1, h2, g, _, hs, _, hl⟩ := st1'
              exact ⟨h1, h2, g, g1, hs, ra, fun a => by have := hl a; have := hl1 a; have := hl2 a; simp only [padd_at] at *; omega⟩
            obtain ⟨f2, s2, st2, d1⟩ := St1.settleS t1 ea
            have t2 : St1 R.K Γ1 σ H1 f2 pr y tb := st2.inn fun gb _ => (rb.stp (s2 g3) fun _ => Nat.le_refl _).mono (le_padd _ _)
            obtain ⟨f3, s3, st3, d2⟩ := St1.settleS t2 eb
            exact ⟨f3, (s2 pr).trans (s3 pr) fun _ => Nat.le_refl _, st3, Dr.ext (s3 pr).ext d1, d2⟩
          cases ea : frz ta with
          | none => simp only [ea] at h
          | some d =>
            cases eb : frz tb with
            | none =>
              simp only [ea, eb] at h
            | some e =>
              obtain ⟨f2, s2, st2, d1, d2⟩ := key ea eb
              simp only [ea, eb] at h
              cases sa : seqD d with
              | none => simp only [sa] at h
              | some xs =>
                cases sb : seqD e with
                | none => simp only [sa, sb] at h
                | some ys =>
                  simp only [sa, sb] at h
                  obtain ⟨b1, p, us, rfl, h1, k1⟩ := seqD_rep d1 sa
                  obtain ⟨b2, p2, ws, rfl, h2, k2⟩ := seqD_rep d2 sb
                  exact ⟨b1, b2, p, p2, us, ws, rfl, h1.sq (mn_ext _ _), h2.sq (mn_ext _ _), h _ H1 f2 (s1.trans s2 fun _ => Nat.le_refl _) st2 (walk_zB h1 h2 k1 k2)⟩
theorem zip3_read {K : PySem.W.Frag} (hK : K = R.K) {as : List CA} (h : tI R (.zip3 as) σ H RR) : Hx.iZip3 K (tAs R as) σ H RR := by
  subst hK
  obtain ⟨Γ, f, pr, st, h⟩ := h
  simp only [evIt] at h
  refine ⟨Γ, f, pr, st, ?_⟩
  cases q : evAs R.F as Γ with
  | none => simp only [q] at h
  | some r =>
    cases r with
    | ex y Γ1 => simp only [q] at h; exact h
    | ok avs Γ1 =>
      simp only [q] at h
      intro vs H1 f1 s1 st1
      cases qr : tmps avs with
      | none => simp only [qr] at h
      | some ts =>
        simp only [qr] at h
        match ts, qr, h with
        | [], _, h => simp only at h
        | [_], _, h => simp only at h
        | [_, _], _, h => simp only at h
        | _ :: _ :: _ :: _ :: _, _, h => simp only at h
        | [ta, tb, tc], qr, h =>
          simp only at h
          obtain ⟨ga, hg, st1'⟩ := st1.out
          have rl := tmps_rep hg qr
          unfold RepL at rl
          obtain ⟨x, r1, g1, g2, rfl, ra, rl, hl1⟩ := rl
          unfold RepL at rl
          obtain ⟨y, r2, g3, g4, rfl, rb, rl, hl2⟩ := rl
          unfold RepL at rl
          obtain ⟨z, r3, g5, g6, rfl, rc, rl, hl3⟩ := rl
          unfold RepL at rl
          subst rl
          have key : ∀ {d e g : PyData}, frz ta = some d → frz tb = some e → frz tc = some g → ∃ f2, Stp H1 f1 pr H1 f2 ∧ St0 R.K Γ1 σ H1 f2 pr ∧ Dr R.K (mn H1 f2) d x ∧ Dr R.K (mn H1 f2) e y ∧ Dr R.K (mn H1 f2) g z := by
            intro d e g0 ea eb ec
            have t1 : St1 R.K Γ1 σ H1 f1 (padd (padd pr g5) g3) x ta := by
              obtain ⟨h1, h2, g, _, hs, _, hl⟩ := st1'
              exact ⟨h1, h2, g, g1, hs, ra, fun a => by have := hl a; have := hl1 a; have := hl2 a; have := hl3 a; simp only [padd_at] at *; omega⟩
            obtain ⟨f2, s2, st2, d1⟩ := St1.settleS t1 ea
            have t2 : St1 R.K Γ1 σ H1 f2 (padd pr g5) y tb := st2.inn fun gb _ => (rb.stp (s2 g3) fun _ => Nat.le_refl _).mono (le_padd _ _)
            obtain ⟨f3, s3, st3, d2⟩ := St1.settleS t2 eb
            have t3 : St1 R.K Γ1 σ H1 f3 pr z tc := st3.inn fun gb _ => ((rc.stp (s2 g5) fun _ => Nat.le_refl _).stp (s3 g5) fun _ => Nat.le_refl _).mono (le_padd _ _)
            obtain ⟨f4, s4, st4, d3⟩ := St1.settleS t3 ec
            exact ⟨f4, ((s2 pr).trans (s3 pr) fun _ => Nat.le_refl _).trans (s4 pr) fun _ => Nat.le_refl _, st4, Dr.ext (s4 pr).ext (Dr.ext (s3 pr).ext d1), Dr.ext (s4 pr).ext d2, d3⟩
          cases ea : frz ta with
          | none => simp only [ea] at h
          | some d =>
            cases eb : frz tb with
            | none => simp only [ea, eb] at h
            | some e =>
              cases ec : frz tc with
              | none => simp only [ea, eb, ec] at h
              | some g =>
                obtain ⟨f2, s2, st2, d1, d2, d3⟩ := key ea eb ec
                simp only [ea, eb, ec] at h
                cases sa : seqD d with
                | none => simp only [sa] at h
                | some xs =>
                  cases sb : seqD e with
                  | none => simp only [sa, sb] at h
                  | some ys =>
                    cases sc : seqD g with
                    | none => simp only [sa, sb, sc] at h
                    | some zs =>
                      simp only [sa, sb, sc] at h
                      obtain ⟨b1, p, us, rfl, h1, k1⟩ := seqD_rep d1 sa
                      obtain ⟨b2, p2, ws, rfl, h2, k2⟩ := seqD_rep d2 sb
                      obtain ⟨b3, p3, ls, rfl, h3, k3⟩ := seqD_rep d3 sc
                      exact ⟨b1, b2, b3, p, p2, p3, us, ws, ls, rfl, h1.sq (mn_ext _ _), h2.sq (mn_ext _ _), h3.sq (mn_ext _ _), h _ H1 f2 (s1.trans s2 fun _ => Nat.le_refl _) st2 (walk_z3 h1 h2 h3 k1 k2 k3)⟩
end
end Hw
set_option Elab.async false
set_option linter.all false
set_option maxRecDepth 100000
set_option maxHeartbeats 1000000
/-! comprehensions, paths, pop, tests -/
namespace Hw
open PySem PySem.Spec PyProof.Rows L2
section
variable {R : RC} {σ : Sig} {H : Hp} {Q : VK}
/-- a list of ours, at D, is written -/
theorem stp_write {K : PySem.W.Frag} {f : Fp} {D : Addr} {o : HO} (hD : 1 ≤ f D) (g : Fp) (hg : g D = 0) : Stp H f g (upd H D o) f := by
  refine ⟨fun a u e e0 => ?_, fun a u e1 e => ?_⟩
  · have : a ≠ D := fun z => by subst z; omega
    exact ⟨by rw [upd_ne this]; exact e, e0⟩
  · have : a ≠ D := fun z => by subst z; omega
    rw [upd_ne this]; exact e
theorem RepL.append {K : PySem.W.Frag} {f : Fp} {t : Tr} {v : V} {g2 : Fp} : ∀ {ts : List Tr} {vs : List V} {g1 : Fp}, RepL K H f ts vs g1 → Rep K H f t v g2 → RepL K H f (ts ++ [t]) (vs ++ [v]) (padd g1 g2)
  | [], vs, g1, h, r => by
    unfold RepL at h; subst h
    show RepL K H f [t] [v] _
    unfold RepL
    refine ⟨v, [], g2, zfp, rfl, r, by unfold RepL; rfl, fun a => ?_⟩
    rw [padd_at]; show g2 a + 0 ≤ _; omega
  | x :: ts, vs, g1, h, r => by
    unfold RepL at h
    obtain ⟨w, r', h1, h2, rfl, k1, k2, k3⟩ := h
    show RepL K H f (x :: (ts ++ [t])) (w :: (r' ++ [v])) _
    unfold RepL
    refine ⟨w, _, h1, padd h2 g2, rfl, k1, RepL.append k2 r, fun a => ?_⟩
    have := k3 a
    simp only [padd_at]; omega
def EPost (R : RC) (σ : Sig) (H : Hp) (f pr : Fp) (Q : VK) : Option ER → Prop
  | some (.ok t Γ') => ∀ v H' f', Stp H f pr H' f' → St1 R.K Γ' σ H' f' pr v t → Q v H'
  | some (.ex x Γ') => ∀ C H' f', R.mg x = some (.ref C) → Stp H f pr H' f' → St0 R.K Γ' σ H' f' pr → R.W (.ref C) none σ H'
  | none => False
theorem tE_of {c : CE} {Γ : List Tr} {f pr : Fp} (st : St0 R.K Γ σ H f pr) (h : EPost R σ H f pr Q (ev R.F c Γ)) : tE R c σ H Q := by
  refine ⟨Γ, f, pr, st, ?_⟩
  cases q : ev R.F c Γ with
  | none => rw [q] at h; exact h
  | some r => cases r <;> (rw [q] at h; exact h)
theorem of_tE {c : CE} (h : tE R c σ H Q) : ∃ Γ f pr, St0 R.K Γ σ H f pr ∧ EPost R σ H f pr Q (ev R.F c Γ) := by
  obtain ⟨Γ, f, pr, st, h⟩ := h
  refine ⟨Γ, f, pr, st, ?_⟩
  cases q : ev R.F c Γ with
  | none => simp only [q] at h
  | some r => cases r <;> (simp only [q] at h; exact h)
theorem St0.wipeT {K : PySem.W.Frag} {Γ : List Tr} {f pr : Fp} (st : St0 K Γ σ H f pr) (own : List Nat) : St0 K (Hw.wipeT Γ own) σ H f pr := by
  obtain ⟨h1, h2, g, ga, hs, _, hl⟩ := st
  exact ⟨h1, h2, g, ga, hs.wipeT own, trivial, hl⟩
theorem St0.own {K : PySem.W.Frag} {Γ : List Tr} {f pr : Fp} {own : List Nat} {σ' : Sig} (st : St0 K (Hw.wipeT Γ own) σ H f pr) (l : σ'.length = σ.length) (q : ∀ j, j ∉ own → σ'[j]? = σ[j]?) : St0 K (Hw.wipeT Γ own) σ' H f pr := by
  obtain ⟨h1, h2, g, ga, hs, _, hl⟩ := st
  exact ⟨h1, h2, g, ga, hs.own l q, trivial, hl⟩
theorem lc_read {own : List Nat} {tg : CTg} {it : CIt} {cond : List CT} {elt : CE} (hsub : ∀ j ∈ tg.slots, j ∈ own) (h : tE R (.lc own tg it cond elt) σ H Q) :
    tLc (tI R it) (gTg R.K tg) (tC R.quiet cond) (tE R.quiet elt) own σ H Q := by
  obtain ⟨Γ, f, pr, st, h⟩ := of_tE h
  refine ⟨Γ, f, pr, st, ?_⟩
  simp only [ev] at h
  cases q : evIt R.F it Γ with
  | none => simp only [q] at h; exact h
  | some r =>
    cases r with
    | ex y Γ1 => simp only [q] at h; exact h
    | ok ds Γ1 =>
      simp only [q] at h
      intro J H1 f1 s1 st1 wk D hD
      have lay := StA.laid (p := D) (o := .lst []) (G' := fun ga => ∀ a, one D a ≤ ga a) st1 hD (one D) (fun a => Nat.le_refl _) (fun ga _ _ => le_padd' _ _)
      obtain ⟨ga0, hga0, st2⟩ := lay.1.out
      have st3 : St0 R.K (Hw.wipeT Γ1 own) σ (upd H1 D (.lst [])) (padd f1 (one D)) (padd (padd pr (one D)) zfp) :=
        (st2.wipeT own).less fun a => by have := hga0 a; simp only [padd_at]; show pr a + one D a + 0 ≤ _; omega
      refine ⟨fun i m Hc => m = ds.length - i ∧ i ≤ ds.length ∧ ∃ Γ0 fc acc accV ga, Stp H f pr Hc fc ∧ Ext (mn H1 f1) (mn Hc fc) ∧ St0 R.K (Hw.wipeT Γ0 own) σ Hc fc (padd (padd pr (one D)) ga) ∧ Hc D = some (.lst accV) ∧ RepL R.K Hc fc acc accV ga ∧
        EPost R σ H f pr Q (lcL (fun _ Γ => ev R.F elt Γ) (fun Γ => evC R.F cond Γ) own (fun Γ d => bindTg Γ tg d) (ds.drop i) (Hw.wipeT Γ0 own) acc),
        ⟨ds.length, by simp, Nat.zero_le _, Γ1, padd f1 (one D), [], [], zfp, s1.trans lay.2 (fun _ => Nat.le_refl _), lay.2.ext, st3, upd_same, by unfold RepL; rfl, by simpa using h⟩, ?_⟩
      rintro i m Hc ⟨rfl, hi, Γ0, fc, acc, accV, ga, sc, xc, stc, hDc, rl, hp⟩
      have W := wk i Hc fc stc.alc xc
      have fD : 1 ≤ fc D := by
        obtain ⟨_, _, g, _, _, _, hl⟩ := id stc
        have := hl D
        simp only [padd_at, one_self] at this
        omega
      by_cases hlt : i < ds.length
      · -- a turn
        right
        have hd : ds.drop i = ds[i] :: ds.drop (i + 1) := List.drop_eq_getElem_cons hlt
        rw [hd] at hp
        obtain ⟨go, yl⟩ := W.1 ds[i] (List.getElem?_eq_getElem hlt)
        refine ⟨go, fun H' => ∃ Γ0 fc acc accV ga, Stp H f pr H' fc ∧ Ext (mn H1 f1) (mn H' fc) ∧ St0 R.K (Hw.wipeT Γ0 own) σ H' fc (padd (padd pr (one D)) ga) ∧ H' D = some (.lst accV) ∧ RepL R.K H' fc acc accV ga ∧
          EPost R σ H f pr Q (lcL (fun _ Γ => ev R.F elt Γ) (fun Γ => evC R.F cond Γ) own (fun Γ d => bindTg Γ tg d) (ds.drop (i + 1)) (Hw.wipeT Γ0 own) acc),
          fun H' hN => ⟨ds.length - (i + 1), by omega, rfl, hlt, hN⟩, fun x H' hy => ?_⟩
        obtain ⟨xe, dx⟩ := yl x H' hy
        obtain ⟨stg, sg⟩ := stc.grow xe
        have stw : St0 R.K (Hw.wipeT Γ0 own) (wipe σ own) H' fc (padd (padd pr (one D)) ga) := stg.own (wipe_len σ own) fun j hj => wipe_out' hj
        simp only [lcL] at hp
        cases qb : bindTg (Hw.wipeT Γ0 own) tg ds[i] with
        | none => simp only [qb] at hp; exact hp.elim
        | some Γb =>
          simp only [qb] at hp
          refine bind_ok stw dx qb fun σ2 stb l2 o2 => ?_
          have ow : ∀ j, j ∉ own → σ2[j]? = σ[j]? := fun j hj => by rw [o2 j fun z => hj (hsub j z), wipe_out' hj]
          have lw : σ2.length = σ.length := by rw [l2, wipe_len]
          refine ⟨wipe_eq lw ow, ?_⟩
          -- back among the slots of the def
          have home : ∀ {Γ3 : List Tr} {H3 : Hp} {f3 p3 : Fp}, St0 R.K Γ3 σ2 H3 f3 p3 → St0 R.K (Hw.wipeT Γ3 own) σ H3 f3 p3 := fun st => (st.wipeT own).own lw.symm fun j hj => (ow j hj).symm
          have goOn : ∀ {Γ2 : List Tr} {b : Bool} {H3 : Hp} {f3 : Fp}, evC R.F cond Γb = some (.ok b Γ2) → Stp H' fc (padd (padd pr (one D)) ga) H3 f3 → St0 R.K Γ2 σ2 H3 f3 (padd (padd pr (one D)) ga) →
              if b = true then tE R.quiet elt σ2 H3 fun y H4 => ∃ acc, H4 D = some (.lst acc) ∧ acc.length < sizeLine ∧ (∃ Γ0 fc acc2 accV ga, Stp H f pr (upd H4 D (.lst (acc ++ [y]))) fc ∧ Ext (mn H1 f1) (mn (upd H4 D (.lst (acc ++ [y]))) fc) ∧ St0 R.K (Hw.wipeT Γ0 own) σ (upd H4 D (.lst (acc ++ [y]))) fc (padd (padd pr (one D)) ga) ∧ (upd H4 D (.lst (acc ++ [y]))) D = some (.lst accV) ∧ RepL R.K (upd H4 D (.lst (acc ++ [y]))) fc acc2 accV ga ∧
                EPost R σ H f pr Q (lcL (fun _ Γ => ev R.F elt Γ) (fun Γ => evC R.F cond Γ) own (fun Γ d => bindTg Γ tg d) (ds.drop (i + 1)) (Hw.wipeT Γ0 own) acc2))
              else ∃ Γ0 fc acc accV ga, Stp H f pr H3 fc ∧ Ext (mn H1 f1) (mn H3 fc) ∧ St0 R.K (Hw.wipeT Γ0 own) σ H3 fc (padd (padd pr (one D)) ga) ∧ H3 D = some (.lst accV) ∧ RepL R.K H3 fc acc accV ga ∧
                EPost R σ H f pr Q (lcL (fun _ Γ => ev R.F elt Γ) (fun Γ => evC R.F cond Γ) own (fun Γ d => bindTg Γ tg d) (ds.drop (i + 1)) (Hw.wipeT Γ0 own) acc) := by
            intro Γ2 b H3 f3 qc s3 st3
            have sAll : Stp Hc fc (padd (padd pr (one D)) ga) H3 f3 := (sg _).trans s3 fun _ => Nat.le_refl _
            have lpr : ∀ a, pr a ≤ padd (padd pr (one D)) ga a := fun a => by simp only [padd_at]; omega
            have lD : ∀ a, one D a ≤ padd (padd pr (one D)) ga a := fun a => by simp only [padd_at]; omega
            have lga : ∀ a, ga a ≤ padd (padd pr (one D)) ga a := fun a => by simp only [padd_at]; omega
            have hD3 : H3 D = some (.lst accV) := sAll.2 D _ (by have := lD D; rw [one_self] at this; exact this) hDc
            have rl3 := rl.stp sAll lga
            cases b with
            | false =>
              rw [if_neg Bool.false_ne_true]
              simp only [qc] at hp
              exact ⟨Γ2, f3, acc, accV, ga, sc.trans sAll lpr, xc.trans sAll.ext, home st3, hD3, rl3, hp⟩
            | true =>
              rw [if_pos rfl]
              simp only [qc] at hp
              refine tE_of (Γ := Γ2) (f := f3) (pr := padd (padd pr (one D)) ga) st3 ?_
              cases qe : ev R.F elt Γ2 with
              | none => simp only [qe] at hp; exact hp.elim
              | some r =>
                cases r with
                | ex z Γ3 => simp only [qe] at hp; exact hp.elim
                | ok t Γ3 =>
                  simp only [qe] at hp
                  have qe' : ev R.quiet.F elt Γ2 = some (.ok t Γ3) := qe
                  rw [qe']
                  intro y H4 f4 s4 st4
                  by_cases hlen : acc.length < sizeLine
                  · rw [if_pos hlen] at hp
                    have sB : Stp Hc fc (padd (padd pr (one D)) ga) H4 f4 := sAll.trans s4 fun _ => Nat.le_refl _
                    have hD4 : H4 D = some (.lst accV) := s4.2 D _ (by have := lD D; rw [one_self] at this; exact this) hD3
                    have rl4 := rl3.stp s4 lga
                    have st4' := st4
                    obtain ⟨gt, hgt, st5⟩ := st4'.out
                    have rt : Rep R.K H4 f4 t y gt := hgt
                    obtain ⟨h1, h2, g5, _, hs5, _, hl5⟩ := id st5
                    have total : ∀ a, g5 a + (pr a + one D a + ga a + gt a) ≤ f4 a := fun a => by have := hl5 a; simp only [padd_at] at this; omega
                    have fD4 : 1 ≤ f4 D := by have := total D; rw [one_self] at this; omega
                    have zD : g5 D = 0 ∧ ga D = 0 ∧ gt D = 0 := by have := total D; have := h1 D; rw [one_self] at *; omega
                    refine ⟨accV, hD4, by rw [rl4.length]; exact hlen, Γ3, f4, acc ++ [t], accV ++ [y], padd ga gt, ?_, ?_, ?_, upd_same, ?_, hp⟩
                    · have w1 : Stp H4 f4 zfp (upd H4 D (.lst (accV ++ [y]))) f4 := stp_write (K := R.K) fD4 zfp rfl
                      refine ⟨fun a o e e0 => ?_, fun a o e1 e => ?_⟩
                      · obtain ⟨k1, k2⟩ := (sc.trans sB lpr).1 a o e e0
                        exact w1.1 a o k1 k2
                      · have k1 := (sc.trans sB lpr).2 a o e1 e
                        have : a ≠ D := fun z => by subst z; have := total a; have := h1 a; rw [one_self] at *; omega
                        rw [upd_ne this]; exact k1
                    · exact (xc.trans sB.ext).trans (stp_write (K := R.K) (o := .lst (accV ++ [y])) fD4 zfp rfl).ext
                    · have hs6 := hs5.stp (stp_write (K := R.K) (o := .lst (accV ++ [y])) fD4 g5 zD.1) (fun _ => Nat.le_refl _)
                      refine home ⟨h1, fun a ha => ?_, g5, fun _ => 0, hs6, trivial, fun a => by have := total a; simp only [padd_at]; omega⟩
                      by_cases z : a = D
                      · subst z; exact ⟨_, upd_same⟩
                      · obtain ⟨o, ho⟩ := h2 a ha
                        exact ⟨o, by rw [upd_ne z]; exact ho⟩
                    · exact (rl4.stp (stp_write (K := R.K) (o := .lst (accV ++ [y])) fD4 ga zD.2.1) (fun _ => Nat.le_refl _)).append (rt.stp (stp_write (K := R.K) (o := .lst (accV ++ [y])) fD4 gt zD.2.2) (fun _ => Nat.le_refl _))
                  · rw [if_neg hlen] at hp; exact hp.elim
          cases cond with
          | nil => exact goOn rfl Stp.refl stb
          | cons c cs =>
            refine ⟨Γb, fc, padd (padd pr (one D)) ga, stb, ?_⟩
            have ec : evC R.F (c :: cs) Γb = evT R.F c Γb := by rw [evC]
            cases qt : evT R.F c Γb with
            | none => rw [ec, qt] at hp; exact hp.elim
            | some r =>
              cases r with
              | ex z Γ2 => rw [ec, qt] at hp; exact hp.elim
              | ok b Γ2 =>
                have qt' : evT R.quiet.F c Γb = some (.ok b Γ2) := qt
                rw [qt']
                exact fun H3 f3 s3 st3 => goOn (by rw [ec, qt]) s3 st3
      · -- the end
        left
        have e : i = ds.length := by omega
        subst e
        refine ⟨W.2 rfl, ?_⟩
        rw [List.drop_length] at hp
        simp only [lcL] at hp
        refine hp (.ref D) Hc fc sc ?_
        obtain ⟨h1, h2, g, _, hs, _, hl⟩ := stc
        refine ⟨h1, h2, g, padd (one D) ga, hs, ?_, fun a => by have := hl a; simp only [padd_at] at *; omega⟩
        unfold Rep
        exact ⟨D, accV, ga, rfl, hDc, rl, fun a => by rw [padd_at]; exact Nat.le_refl _⟩
end
end Hw
set_option Elab.async false
set_option linter.all false
set_option maxRecDepth 100000
set_option maxHeartbeats 1000000
/-! paths, pop, tests -/
namespace Hw
open PySem PySem.Spec PyProof.Rows L2
section
variable {R : RC} {σ : Sig} {H : Hp} {Q : VK}
/-- x[e1][e2].. from a value on -/
def pthK (R : RC) : List CE → V → Sig → Hp → VK → Prop
  | [], x, _, H, Q => Q x H
  | e :: es, x, σ, H, Q => tE R e σ H fun y H1 => rIx R.K x y H1 fun z H2 => pthK R es z σ H2 Q
def tPth (R : RC) : TE → List CE → TE
  | t, [] => t
  | t, e :: es => tPth R (tOp (rIx R.K) t (tE R e)) es
theorem tPth_eq : ∀ {es : List CE} {t : TE}, tPth R t es σ H Q = t σ H fun x H1 => pthK R es x σ H1 Q
  | [], t => rfl
  | e :: es, t => by
    show tPth R (tOp (rIx R.K) t (tE R e)) es σ H Q = _
    rw [tPth_eq]; rfl
theorem EPost.after {Γ : List Tr} {f pr pr' : Fp} {H1 : Hp} {f1 : Fp} (s : Stp H f pr H1 f1) {r : Option ER} (h : EPost R σ H f pr Q r) : EPost R σ H1 f1 pr Q r := by
  cases r with
  | none => exact h
  | some r =>
    cases r with
    | ok t Γ' => exact fun v H' f' s2 st => h v H' f' (s.trans s2 fun _ => Nat.le_refl _) st
    | ex x Γ' => exact fun C H' f' hm s2 st => h C H' f' hm (s.trans s2 fun _ => Nat.le_refl _) st
/-- .. where more is protected meanwhile -/
theorem EPost.under {f pr pr' : Fp} (l : ∀ a, pr a ≤ pr' a) {r : Option ER} (h : EPost R σ H f pr Q r) : EPost R σ H f pr' Q r := by
  cases r with
  | none => exact h
  | some r =>
    cases r with
    | ok t Γ' => exact fun v H' f' s2 st => h v H' f' (s2.weak l) (st.less l)
    | ex x Γ' => exact fun C H' f' hm s2 st => h C H' f' hm (s2.weak l) (st.less l)
theorem kid_rep {K : PySem.W.Frag} {f : Fp} {d d' : PyData} {k : Int} {x : V} (h : Dr K (mn H f) d x) (e : kidD d k = some d') {Q : VK} (q : ∀ z, Dr K (mn H f) d' z → Q z H) : rIx K x (.int k) H Q := by
  cases d with
  | list ds =>
    unfold kidD at e
    unfold Dr at h
    obtain ⟨p, xs, rfl, h1, h2⟩ := h
    obtain ⟨v, e4, d2⟩ := atI_rep h2 e
    exact .inl ⟨p, xs, k, v, rfl, rfl, SqL.of (mn_ext _ _ _ _ h1), e4, q _ d2⟩
  | tuple ds =>
    unfold kidD at e
    unfold Dr at h
    obtain ⟨p, xs, rfl, h1, h2⟩ := h
    obtain ⟨v, e4, d2⟩ := atI_rep h2 e
    exact .inr (.inl ⟨p, xs, k, v, rfl, rfl, SqT.of (mn_ext _ _ _ _ h1), e4, q _ d2⟩)
  | none => unfold kidD at e; cases e
  | bool b => unfold kidD at e; cases e
  | int b => unfold kidD at e; cases e
  | str b => unfold kidD at e; cases e
  | dict b => unfold kidD at e; cases e
theorem RepL.get {K : PySem.W.Frag} {f : Fp} : ∀ {ts : List Tr} {vs : List V} {g : Fp} {i : Nat} {t : Tr}, RepL K H f ts vs g → ts[i]? = some t → ∃ v g', vs[i]? = some v ∧ Rep K H f t v g' ∧ ∀ a, g' a ≤ g a
  | [], _, _, _, _, _, e => by simp at e
  | x :: ts, _, _, 0, _, h, e => by
    unfold RepL at h
    obtain ⟨v, r, g1, g2, rfl, h1, h2, h3⟩ := h
    simp at e; subst e
    exact ⟨v, g1, rfl, h1, fun a => by have := h3 a; omega⟩
  | x :: ts, _, _, i + 1, _, h, e => by
    unfold RepL at h
    obtain ⟨v, r, g1, g2, rfl, h1, h2, h3⟩ := h
    obtain ⟨w, g', e1, r1, l1⟩ := RepL.get (i := i) h2 (by simpa using e)
    exact ⟨w, g', by simpa using e1, r1, fun a => by have := h3 a; have := l1 a; omega⟩
theorem atI_repL {K : PySem.W.Frag} {f : Fp} {ts : List Tr} {vs : List V} {g : Fp} {k : Int} {t : Tr} (h : RepL K H f ts vs g) (e : atI ts k = some t) : ∃ v g', atI vs k = some v ∧ Rep K H f t v g' ∧ ∀ a, g' a ≤ g a := by
  unfold atI at e ⊢
  rw [h.length]
  cases q : ixN ts.length k with
  | none => rw [q] at e; cases e
  | some j => rw [q] at e; exact h.get e
theorem kidT_rep {K : PySem.W.Frag} {f g : Fp} {t t' : Tr} {k : Int} {x : V} (h : Rep K H f t x g) (e : kidT t k = some t') {Q : VK} (q : ∀ z g', Rep K H f t' z g' → (∀ a, g' a ≤ g a) → Q z H) : rIx K x (.int k) H Q := by
  cases t with
  | l xs =>
    unfold kidT at e
    unfold Rep at h
    obtain ⟨p, vs, g0, rfl, hp, rl, l0⟩ := h
    obtain ⟨z, g', e1, rz, lz⟩ := atI_repL rl e
    exact .inl ⟨p, vs, k, z, rfl, rfl, SqL.of hp, e1, q z g' rz fun a => by have := l0 a; have := lz a; omega⟩
  | t xs =>
    unfold kidT at e
    unfold Rep at h
    obtain ⟨p, vs, rfl, hp, rl⟩ := h
    obtain ⟨z, g', e1, rz, lz⟩ := atI_repL rl e
    exact .inr (.inl ⟨p, vs, k, z, rfl, rfl, SqT.of (mn_ext _ _ _ _ hp), e1, q z g' rz lz⟩)
  | c d =>
    unfold kidT at e
    obtain ⟨d', e1, rfl⟩ := Option.map_eq_some_iff.mp e
    unfold Rep at h
    exact kid_rep h e1 fun z dz => q z (fun _ => 0) (by unfold Rep; exact dz) fun _ => Nat.zero_le _
  | s ns =>
    unfold kidT at e
    obtain ⟨n, e1, rfl⟩ := Option.map_eq_some_iff.mp e
    unfold Rep at h
    obtain ⟨p, rfl, hp⟩ := h
    exact .inl ⟨p, _, k, .int n, rfl, rfl, (mn_ext H f).sql hp, by rw [atI_map, e1]; rfl, q _ (fun _ => 0) (by unfold iT Rep Dr; rfl) fun _ => Nat.zero_le _⟩
  | gone => unfold kidT at e; cases e
theorem stl_any {K : PySem.W.Frag} {f g g' : Fp} {t : Tr} {x : V} (h : Rep K H f t x g) (e : isStl t = true) : Rep K H f t x g' := by
  cases t <;> first | (unfold isStl at e; cases e; done) | (unfold Rep at h ⊢; exact h)
/-- a path in a tree that is settled, or out of its slot -/
theorem pt_read : ∀ {es : List CE} {t : Tr} {Γ : List Tr} {f pr g : Fp} {H : Hp} {x : V}, St0 R.K Γ σ H f pr → Rep R.K H f t x g → (∀ a, g a ≤ pr a) → EPost R σ H f pr Q (evPt R.F t es Γ) → pthK R es x σ H Q
  | [], t, Γ, f, pr, g, H, x, st, rx, lg, h => by
    simp only [evPt] at h
    by_cases s : isStl t = true
    · rw [if_pos s] at h
      obtain ⟨h1, h2, g0, ga, hs, _, hl⟩ := id st
      exact h x H f Stp.refl ⟨h1, h2, g0, fun _ => 0, hs, stl_any rx s, fun a => by have := hl a; show 0 + (g0 a + pr a) ≤ f a; omega⟩
    · rw [if_neg s] at h; exact h.elim
  | e :: es, t, Γ, f, pr, g, H, x, st, rx, lg, h => by
    simp only [evPt] at h
    refine tE_of st ?_
    cases q : ev R.F e Γ with
    | none => simp only [q] at h; exact h
    | some r =>
      cases r with
      | ex y Γ1 => simp only [q] at h; exact h
      | ok te Γ1 =>
        simp only [q] at h
        intro y H1 f1 s1 st1
        cases q1 : asInt te with
        | none => simp only [q1] at h; exact h.elim
        | some k =>
          simp only [q1] at h
          cases q2 : kidT t k with
          | none => simp only [q2] at h; exact h.elim
          | some t' =>
            simp only [q2] at h
            obtain ⟨_, _, _, ga, _, hg, _⟩ := id st1
            have hv := asInt_rep ⟨ga, hg⟩ q1
            subst hv
            exact kidT_rep (rx.stp s1 lg) q2 fun z g' rz lz => pt_read st1.drop rz (fun a => Nat.le_trans (lz a) (lg a)) (h.after (Γ := Γ) (pr' := pr) s1)
/-- a slot taken out, to be put back -/
theorem St0.takeOut {K : PySem.W.Frag} {Γ : List Tr} {f pr : Fp} {i : Nat} {t : Tr} (st : St0 K Γ σ H f pr) (e : Γ[i]? = some t) (n : t ≠ .gone) : ∃ v g, σ[i]? = some (some v) ∧ Rep K H f t v g ∧ St0 K (Γ.set i .gone) σ H f (padd pr g) := by
  obtain ⟨h1, h2, g, ga, hs, _, hl⟩ := st
  obtain ⟨o, g1, g2, eo, ro, rs, hgl⟩ := hs.take e
  obtain ⟨v, rfl, r⟩ := ro.get n
  exact ⟨v, g1, eo, r, h1, h2, g2, fun _ => 0, rs, trivial, fun a => by have := hl a; have := hgl a; simp only [padd_at]; show 0 + (g2 a + (pr a + g1 a)) ≤ f a; omega⟩
theorem StA.putBack {K : PySem.W.Frag} {Γ : List Tr} {f pr g : Fp} {G : Fp → Prop} {i : Nat} {t : Tr} {v : V} (st : StA K Γ σ H f (padd pr g) G) (e : Γ[i]? = some .gone) (ev : σ[i]? = some (some v)) (r : Rep K H f t v g) : StA K (Γ.set i t) σ H f pr G := by
  obtain ⟨h1, h2, g2, ga, hs, hg, hl⟩ := st
  exact ⟨h1, h2, _, ga, RepS.put hs e ev (.mk r), hg, fun a => by have := hl a; simp only [padd_at] at this; omega⟩
theorem path_read {i : Nat} {es : List CE} (h : tE R (.pth i es) σ H Q) : tPth R (tVar i) es σ H Q := by
  rw [tPth_eq]
  obtain ⟨Γ, f, pr, st, h⟩ := of_tE h
  simp only [ev] at h
  cases es with
  | nil => simp only [evP] at h; exact h.elim
  | cons e es =>
    simp only [evP] at h
    by_cases ok : slotOk Γ i = true
    case neg => rw [if_neg ok] at h; exact h.elim
    rw [if_pos ok] at h
    obtain ⟨x0, e0, n0⟩ := slotOk_get ok
    obtain ⟨v0, g00, hv0, _, _⟩ := st.takeOut e0 n0
    -- the value in the slot, known behind the first index
    have main : ∀ v, σ[i]? = some (some v) → pthK R (e :: es) v σ H Q := by
      intro v hv
      refine tE_of st ?_
      cases q : ev R.F e Γ with
      | none => simp only [q] at h; exact h
      | some r =>
        cases r with
        | ex y Γ1 => simp only [q] at h; exact h
        | ok te Γ1 =>
          simp only [q] at h
          intro y H1 f1 s1 st1
          cases q1 : asInt te with
          | none => simp only [q1] at h; exact h.elim
          | some k =>
            cases q3 : Γ1[i]? with
            | none => simp only [q1, q3] at h; exact h.elim
            | some t =>
              simp only [q1, q3] at h
              cases q2 : kidT t k with
              | none => simp only [q2] at h; exact h.elim
              | some t' =>
                simp only [q2] at h
                obtain ⟨_, _, _, ga, _, hg, _⟩ := id st1
                have hy := asInt_rep ⟨ga, hg⟩ q1
                subst hy
                have n : t ≠ .gone := fun z => by subst z; unfold kidT at q2; cases q2
                obtain ⟨w, g, ew, rw', sto⟩ := st1.drop.takeOut q3 n
                rw [hv] at ew; cases ew
                have h := h.after (Γ := Γ) (pr' := pr) s1
                refine kidT_rep rw' q2 fun z g' rz lz => ?_
                by_cases s : isStl t' = true
                · rw [if_pos s] at h
                  exact pt_read st1.drop (stl_any (g' := fun _ => 0) rz s) (fun _ => Nat.zero_le _) h
                · rw [if_neg s] at h
                  refine pt_read sto rz (fun a => Nat.le_trans (lz a) (le_padd' _ _ a)) ?_
                  cases q5 : evPt R.F t' es (Γ1.set i .gone) with
                  | none => rw [q5] at h; simp only [putIn] at h; exact h.elim
                  | some r5 =>
                    cases r5 with
                    | ex y2 Γ2 => rw [q5] at h; simp only [putIn] at h; exact h.elim
                    | ok r6 Γ2 =>
                      rw [q5] at h
                      simp only [putIn] at h
                      intro v2 H2 f2 s2 st2
                      cases q6 : Γ2[i]? with
                      | none => simp only [q6] at h; exact h.elim
                      | some t6 =>
                        cases t6 <;> (simp only [q6] at h) <;> first | exact h.elim | skip
                        exact h v2 H2 f2 (s2.weak (le_padd _ _)) (st2.putBack q6 hv (rw'.stp s2 (le_padd' _ _)))
    exact main v0 |> fun m => ⟨v0, hv0, m hv0⟩
end
end Hw
set_option Elab.async false
set_option linter.all false
set_option maxRecDepth 100000
set_option maxHeartbeats 1000000
/-! pop, tests, and all expressions together -/
namespace Hw
open PySem PySem.Spec PyProof.Rows L2
section
variable {R : RC} {σ : Sig} {H : Hp} {Q : VK}
theorem dropLast_er {α : Type} : ∀ (l : List α), 0 < l.length → l.dropLast = l.eraseIdx (l.length - 1)
  | [], h => by simp at h
  | [a], _ => rfl
  | a :: b :: r, _ => by
    have := dropLast_er (b :: r) (by simp)
    simp only [List.length_cons, Nat.add_sub_cancel] at this ⊢
    rw [List.dropLast_cons₂, this, List.eraseIdx_cons_succ]
theorem RepL.erase {K : PySem.W.Frag} {f : Fp} : ∀ {ts : List Tr} {vs : List V} {g : Fp} {j : Nat} {t : Tr}, RepL K H f ts vs g → ts[j]? = some t → ∃ v g1 g2, vs[j]? = some v ∧ Rep K H f t v g2 ∧ RepL K H f (ts.eraseIdx j) (vs.eraseIdx j) g1 ∧ ∀ a, g1 a + g2 a ≤ g a
  | [], _, _, _, _, _, e => by simp at e
  | x :: ts, _, _, 0, _, h, e => by
    unfold RepL at h
    obtain ⟨v, r, g1, g2, rfl, h1, h2, h3⟩ := h
    simp at e; subst e
    exact ⟨v, g2, g1, rfl, h1, h2, fun a => by have := h3 a; omega⟩
  | x :: ts, _, _, j + 1, _, h, e => by
    unfold RepL at h
    obtain ⟨v, r, g1, g2, rfl, h1, h2, h3⟩ := h
    obtain ⟨w, k1, k2, e1, r1, r2, l1⟩ := RepL.erase (j := j) h2 (by simpa using e)
    refine ⟨w, padd g1 k1, k2, by simpa using e1, r1, ?_, fun a => by have := h3 a; have := l1 a; simp only [padd_at]; omega⟩
    show RepL K H f (x :: ts.eraseIdx j) (v :: r.eraseIdx j) _
    unfold RepL
    exact ⟨v, _, g1, k1, rfl, h1, r2, fun a => Nat.le_refl _⟩
theorem RepL.last {K : PySem.W.Frag} {f : Fp} {ts : List Tr} {vs : List V} {g : Fp} {t : Tr} (h : RepL K H f ts vs g) (e : ts[ts.length - 1]? = some t) : ∃ v g1 g2, vs[vs.length - 1]? = some v ∧ Rep K H f t v g2 ∧ RepL K H f ts.dropLast vs.dropLast g1 ∧ ∀ a, g1 a + g2 a ≤ g a := by
  have hl := h.length
  obtain ⟨v, g1, g2, e1, r1, r2, l⟩ := h.erase e
  have hp : 0 < ts.length := by
    cases ts with
    | nil => simp at e
    | cons _ _ => exact Nat.succ_pos _
  refine ⟨v, g1, g2, by rw [hl]; exact e1, r1, ?_, l⟩
  rw [dropLast_er ts hp, dropLast_er vs (by omega), hl]
  exact r2
/-- a list that is out of its slot is written -/
theorem St0.wr {K : PySem.W.Frag} {Γ : List Tr} {f pr g : Fp} {p : Addr} {o : HO} (st : St0 K Γ σ H f (padd pr g)) (hp : 1 ≤ g p) : St0 K Γ σ (upd H p o) f (padd pr g) ∧ ∀ pr' : Fp, pr' p = 0 → Stp H f pr' (upd H p o) f := by
  obtain ⟨h1, h2, gs, ga, hs, _, hl⟩ := st
  have fp : 1 ≤ f p := by have := hl p; simp only [padd_at] at this; omega
  have gp : gs p = 0 := by have := hl p; have := h1 p; simp only [padd_at] at *; omega
  refine ⟨⟨h1, fun a ha => ?_, gs, fun _ => 0, hs.stp (stp_write (K := K) fp gs gp) (fun _ => Nat.le_refl _), trivial, fun a => by have := hl a; simp only [padd_at] at *; show 0 + _ ≤ _; omega⟩, fun pr' hz => stp_write (K := K) fp pr' hz⟩
  by_cases z : a = p
  · subst z; exact ⟨o, upd_same⟩
  · obtain ⟨u, hu⟩ := h2 a ha
    exact ⟨u, by rw [upd_ne z]; exact hu⟩
theorem pop_core {K : PySem.W.Frag} {Γ : List Tr} {f pr : Fp} {i : Nat} {xs : List Tr} {v : V} (st : St0 K Γ σ H f pr) (e : Γ[i]? = some (.l xs)) (hv : σ[i]? = some (some v)) :
    ∃ p vs, v = .ref p ∧ H p = some (.lst vs) ∧ vs.length = xs.length ∧ ∀ {j : Nat} {x : Tr}, xs[j]? = some x → ∃ z, vs[j]? = some z ∧ Stp H f pr (upd H p (.lst (vs.eraseIdx j))) f ∧ St1 K (Γ.set i (.l (xs.eraseIdx j))) σ (upd H p (.lst (vs.eraseIdx j))) f pr z x := by
  obtain ⟨w, g, ew, rw', sto⟩ := st.takeOut e (by simp)
  rw [hv] at ew; cases ew
  unfold Rep at rw'
  obtain ⟨p, vs, g0, rfl, hp, rl, l0⟩ := rw'
  refine ⟨p, vs, rfl, hp, rl.length, fun {j x} ej => ?_⟩
  obtain ⟨z, g1, g2, ez, r1, r2, lz⟩ := rl.erase ej
  have gp : 1 ≤ g p := by have := l0 p; rw [one_self] at this; omega
  obtain ⟨sw, ss⟩ := sto.wr (o := .lst (vs.eraseIdx j)) gp
  obtain ⟨h1, h2, gs, ga, hs, _, hl⟩ := id sw
  have zp : gs p = 0 ∧ pr p = 0 ∧ g1 p = 0 ∧ g2 p = 0 := by
    have := hl p; have := h1 p; have := l0 p; have := lz p; simp only [padd_at, one_self] at *; omega
  have rn : Rep K (upd H p (.lst (vs.eraseIdx j))) f (.l (xs.eraseIdx j)) (.ref p) (padd (one p) g1) := by
    unfold Rep
    exact ⟨p, _, g1, rfl, upd_same, r2.stp (ss g1 zp.2.2.1) (fun _ => Nat.le_refl _), fun a => by rw [padd_at]; exact Nat.le_refl _⟩
  have put := RepS.put hs (by rw [List.getElem?_set_self (List.getElem?_eq_some_iff.mp e).1]) hv (.mk rn)
  rw [List.set_set] at put
  refine ⟨z, ez, ss pr zp.2.1, h1, h2, _, g2, put, r1.stp (ss g2 zp.2.2.2) (fun _ => Nat.le_refl _), fun a => ?_⟩
  · have := hl a; have := l0 a; have := lz a; simp only [padd_at] at *; omega
theorem ty_list {K : PySem.W.Frag} {p : Addr} {vs : List V} (h : H p = some (.lst vs)) : tyV K "list" (.ref p) H := Or.inl ⟨rfl, _, SqL.of h⟩
theorem pop0_read {i : Nat} (h : tE R (.pop i []) σ H Q) : tBM0 R.K "list" rPop (tVar i) σ H Q := by
  obtain ⟨Γ, f, pr, st, h⟩ := of_tE h
  simp only [ev, evAs, tmps] at h
  cases e : Γ[i]? with
  | none => simp only [e] at h; exact h.elim
  | some t =>
    cases t with
    | l xs =>
      simp only [e] at h
      cases e2 : xs[xs.length - 1]? with
      | none => simp only [e2] at h; exact h.elim
      | some x =>
        simp only [e2] at h
        obtain ⟨v, g, hv, _, _⟩ := st.takeOut e (by simp)
        obtain ⟨p, vs, rfl, hp, hl, k⟩ := pop_core st e hv
        obtain ⟨z, ez, s, s1⟩ := k e2
        have hpos : 0 < xs.length := by
          cases xs with
          | nil => simp at e2
          | cons _ _ => exact Nat.succ_pos _
        refine ⟨.ref p, hv, ty_list hp, p, vs, z, rfl, rfl, hp, by rw [hl]; exact ez, ?_⟩
        rw [dropLast_er xs hpos] at h
        rw [dropLast_er vs (by omega), hl]
        exact h z _ f s s1
    | c d => simp only [e] at h; exact h.elim
    | t d => simp only [e] at h; exact h.elim
    | s d => simp only [e] at h; exact h.elim
    | gone => simp only [e] at h; exact h.elim
theorem tmps_len : ∀ {avs : List AV} {ts : List Tr}, tmps avs = some ts → ts.length = avs.length
  | [], _, h => by unfold tmps at h; cases h; rfl
  | .tmp t :: as, _, h => by
    unfold tmps at h
    obtain ⟨us, h1, h2⟩ := Option.map_eq_some_iff.mp h
    cases h2
    simp [tmps_len h1]
  | .pk j :: as, _, h => by unfold tmps at h; cases h
  | .io j :: as, _, h => by unfold tmps at h; cases h
theorem pop1_read {i : Nat} {c : CA} (h : tE R (.pop i [c]) σ H Q) : tBM R.K "list" rPopAt (tVar i) (tAs R [c]) σ H Q := by
  obtain ⟨Γ, f, pr, st, h⟩ := of_tE h
  simp only [ev] at h
  cases e : Γ[i]? with
  | none => simp only [e] at h; exact h.elim
  | some t =>
    cases t with
    | l xs0 =>
      simp only [e] at h
      obtain ⟨v, g, hv, r0, _⟩ := st.takeOut e (by simp)
      obtain ⟨p, vs0, rfl, hp, hl0, _⟩ := pop_core st e hv
      refine ⟨.ref p, hv, ty_list hp, Γ, f, pr, st, ?_⟩
      cases q : evAs R.F [c] Γ with
      | none => simp only [q] at h; exact h
      | some r =>
        cases r with
        | ex y Γ1 => simp only [q] at h; exact h
        | ok avs Γ1 =>
          simp only [q] at h
          intro ws H1 f1 s1 st1
          cases q1 : tmps avs with
          | none => simp only [q1] at h; exact h.elim
          | some ts =>
            cases e1 : Γ1[i]? with
            | none => cases ts <;> (simp only [q1, e1] at h; exact h.elim)
            | some t1 =>
              have ra : ∃ ga, RepL R.K H1 f1 ts ws ga := by
                obtain ⟨_, _, g, ga, hs, hg, hl⟩ := id st1
                exact ⟨ga, tmps_rep hg q1⟩
              obtain ⟨ga, ra⟩ := ra
              have la := ra.length
              have lc : avs.length = 1 := by
                cases c <;> simp only [evAs] at q
                · split at q
                  · simp only [AR.cons] at q; cases q; rfl
                  · cases q
                  · cases q
                · split at q
                  · simp only [AR.cons] at q; cases q; rfl
                  · cases q
                · split at q
                  · simp only [AR.cons] at q; cases q; rfl
                  · cases q
              have lt : ts.length = avs.length := tmps_len q1
              obtain ⟨ti, rfl⟩ : ∃ ti, ts = [ti] := List.length_eq_one_iff.mp (by omega)
              cases t1 with
              | l xs =>
                simp only [q1, e1] at h
                cases e3 : asInt ti with
                | none => simp only [e3] at h; exact h.elim
                | some k =>
                  simp only [e3] at h
                  by_cases hk : okR k = true
                  · rw [if_pos hk] at h
                    cases e4 : seqIndex? k xs.length with
                    | none => simp only [e4] at h; exact h.elim
                    | some j =>
                      simp only [e4] at h
                      cases e5 : xs[j]? with
                      | none => simp only [e5] at h; exact h.elim
                      | some x =>
                        simp only [e5] at h
                        obtain ⟨p', vs, hp', hH, hl, kk⟩ := pop_core st1.drop e1 hv
                        cases hp'
                        obtain ⟨z, ez, s, s2⟩ := kk e5
                        unfold RepL at ra
                        obtain ⟨w, r, g1, g2, rfl, rw', rr, _⟩ := ra
                        unfold RepL at rr
                        subst rr
                        have wi : w = .int k := asInt_rep ⟨_, rw'⟩ e3
                        subst wi
                        exact ⟨p, vs, k, j, z, rfl, rfl, hH, (okR_63 hk).1, (okR_63 hk).2, by rw [hl]; exact e4, ez, h z _ f1 (s1.trans s fun _ => Nat.le_refl _) s2⟩
                  · rw [if_neg hk] at h; exact h.elim
              | c d => simp only [q1, e1] at h; exact h.elim
              | t d => simp only [q1, e1] at h; exact h.elim
              | s d => simp only [q1, e1] at h; exact h.elim
              | gone => simp only [q1, e1] at h; exact h.elim
    | c d => simp only [e] at h; exact h.elim
    | t d => simp only [e] at h; exact h.elim
    | s d => simp only [e] at h; exact h.elim
    | gone => simp only [e] at h; exact h.elim
theorem list_seen {K : PySem.W.Frag} {f : Fp} {t : Tr} {v : V} {ds : List PyData} (r : RepW K H f t v) (e : see t = some (.list ds)) : ∃ p xs, v = .ref p ∧ SqL K H p xs ∧ DrL K H ds xs := by
  obtain ⟨g, r⟩ := r
  cases t with
  | s ns =>
    unfold see at e; cases e
    unfold Rep at r
    obtain ⟨p, rfl, h⟩ := r
    exact ⟨p, _, rfl, (mn_ext H f).sql h, script_dr⟩
  | c d =>
    have e' : frz (.c d) = some (.list ds) := e
    have := Rep.see r e'
    unfold Dr at this
    obtain ⟨p, xs, rfl, h1, h2⟩ := this
    exact ⟨p, xs, rfl, SqL.of h1, h2⟩
  | l xs =>
    have e' : frz (.l xs) = some (.list ds) := e
    have := Rep.see r e'
    unfold Dr at this
    obtain ⟨p, xs, rfl, h1, h2⟩ := this
    exact ⟨p, xs, rfl, SqL.of h1, h2⟩
  | t xs =>
    have e' : frz (.t xs) = some (.list ds) := e
    have := Rep.see r e'
    unfold Dr at this
    obtain ⟨p, xs, rfl, h1, h2⟩ := this
    exact ⟨p, xs, rfl, SqL.of h1, h2⟩
  | gone => unfold see at e; cases e
theorem flat_seen {K : PySem.W.Frag} {f : Fp} {t : Tr} {v : V} {d : PyData} (r : RepW K H f t v) (e : see t = some d) (fd : flatD d = true) : Dr K H d v := by
  obtain ⟨g, r⟩ := r
  cases t with
  | s ns => unfold see at e; cases e; cases fd
  | c d' => exact Rep.see r e
  | l xs => exact Rep.see r e
  | t xs => exact Rep.see r e
  | gone => unfold see at e; cases e
theorem idx_read {i : Nat} {c : CE} (h : tE R (.idx i c) σ H Q) : tBM R.K "list" (rIndex R.K) (tVar i) (tAs R [.e c]) σ H Q := by
  obtain ⟨Γ, f, pr, st, h⟩ := of_tE h
  simp only [ev] at h
  cases e : Γ[i]? with
  | none => simp only [e] at h; exact h.elim
  | some t0 =>
    simp only [e] at h
    cases e0 : see t0 with
    | none => simp only [e0] at h; exact h.elim
    | some d0 =>
      cases d0 with
      | list ds0 =>
        simp only [e0] at h
        have n0 : t0 ≠ .gone := fun z => by subst z; cases e0
        obtain ⟨v, g, hv, r0, _⟩ := st.takeOut e n0
        obtain ⟨p, xs0, rfl, q0, _⟩ := list_seen ⟨g, r0⟩ e0
        refine ⟨.ref p, hv, Or.inl ⟨rfl, _, q0⟩, Γ, f, pr, st, ?_⟩
        simp only [evAs]
        cases q : ev R.F c Γ with
        | none => simp only [q] at h; exact h
        | some r =>
          cases r with
          | ex y Γ1 => simp only [q] at h; exact h
          | ok t Γ1 =>
            simp only [q, AR.cons] at h ⊢
            intro ws H1 f1 s1 st1
            cases e1 : Γ1[i]? with
                | none => simp only [e1] at h; exact h.elim
                | some t1 =>
                  simp only [e1] at h
                  cases es : see t with
                  | none => simp only [es] at h; exact h.elim
                  | some d =>
                    cases e2 : see t1 with
                    | none => simp only [es, e2] at h; exact h.elim
                    | some d1 =>
                      cases d1 with
                      | list ds =>
                        simp only [es, e2] at h
                        by_cases fl : (flatD d && ds.all flatD) = true
                        · rw [if_pos fl] at h
                          rw [Bool.and_eq_true] at fl
                          cases e3 : ds.findIdx? (fun z => PyData.eqv z d) with
                          | none => simp only [e3] at h; exact h.elim
                          | some j =>
                            simp only [e3] at h
                            have n1 : t1 ≠ .gone := fun z => by subst z; cases e2
                            obtain ⟨w, g1, hw, r1, _⟩ := st1.drop.takeOut e1 n1
                            rw [hv] at hw; cases hw
                            obtain ⟨p', xs, hp', qs, dl⟩ := list_seen ⟨g1, r1⟩ e2
                            cases hp'
                            obtain ⟨ga, hg, st2⟩ := st1.out
                            obtain ⟨y, rr, g3, g4, rfl, ry, rr', _⟩ := hg
                            unfold RepA at rr'
                            subst rr'
                            have dy := flat_seen ⟨g3, ry⟩ es fl.1
                            obtain ⟨hj, hz, hno⟩ := List.findIdx?_eq_some_iff_getElem.mp e3
                            obtain ⟨z, ez, dz⟩ := dl.get (List.getElem?_eq_getElem hj)
                            have fz : flatD ds[j] = true := List.all_eq_true.mp fl.2 _ (List.getElem_mem hj)
                            refine ⟨p, xs, y, j, z, rfl, rfl, qs, flat_v dy fl.1, flats_v dl fl.2, ez, by rw [← eqv_flat dz dy fz fl.1]; exact hz, fun m z' hm ez' => ?_, h _ H1 f1 s1 (st1.drop.new (New.int _))⟩
                            have hmd : m < ds.length := by omega
                            obtain ⟨z2, ez2, dz2⟩ := dl.get (List.getElem?_eq_getElem hmd)
                            rw [ez'] at ez2; cases ez2
                            have fz2 : flatD ds[m] = true := List.all_eq_true.mp fl.2 _ (List.getElem_mem hmd)
                            rw [← eqv_flat dz2 dy fz2 fl.1]
                            have := hno m hm
                            simpa using this
                        · rw [if_neg fl] at h; exact h.elim
                      | none => simp only [es, e2] at h; exact h.elim
                      | bool _ => simp only [es, e2] at h; exact h.elim
                      | int _ => simp only [es, e2] at h; exact h.elim
                      | str _ => simp only [es, e2] at h; exact h.elim
                      | tuple _ => simp only [es, e2] at h; exact h.elim
                      | dict _ => simp only [es, e2] at h; exact h.elim
      | none => simp only [e0] at h; exact h.elim
      | bool _ => simp only [e0] at h; exact h.elim
      | int _ => simp only [e0] at h; exact h.elim
      | str _ => simp only [e0] at h; exact h.elim
      | tuple _ => simp only [e0] at h; exact h.elim
      | dict _ => simp only [e0] at h; exact h.elim
end
section
variable {R : RC} {σ : Sig} {H : Hp} {Q : VK}
theorem stl_read {a : CE} (h : tE R (.stl a) σ H Q) : tE R a σ H Q := by
  obtain ⟨Γ, f, pr, st, h⟩ := h
  refine ⟨Γ, f, pr, st, ?_⟩
  simp only [ev] at h
  cases q : ev R.F a Γ with
  | none => simp only [q, stlE] at h
  | some r =>
    cases r with
    | ex y Γ1 => simp only [q, stlE] at h; exact h
    | ok t Γ1 =>
      simp only [q, stlE] at h
      cases e : frz t with
      | none => simp only [e, Option.map_none] at h
      | some d =>
        simp only [e, Option.map_some] at h
        intro v H1 f1 s1 st1
        obtain ⟨f2, s2, st2, dr⟩ := StA.settle st1 e
        exact h v H1 f2 (s1.trans s2 fun _ => Nat.le_refl _) (StA.new st2 (New.flat dr))
theorem New.emp {K : PySem.W.Frag} {f : Fp} {p : Addr} (n : H p = none) (h : Alc H f) : New K H f (upd H p (.dK [])) f (.c (.dict [])) (.ref p) :=
  ⟨Ext.new n, fun _ => 0, by unfold Rep; unfold Dr; exact ⟨p, rfl, rfl, mn_of (h.zero n) upd_same⟩, fun a => by simp, fun a z => by simp at z⟩
theorem emp_read (h : tE R .emp σ H Q) : tDNewK σ H Q := by
  obtain ⟨Γ, f, pr, st, h⟩ := h
  simp only [ev] at h
  intro p hp
  have n := New.emp (K := R.K) hp st.alc
  exact h _ _ f (n.stp pr) (StA.new st n)
theorem sl2_read {a b c : CE} (h : tE R (.sl2 a b c) σ H Q) : tSl (rSl2 R.K) (tE R a) (tPart (tE R b)) (tPart (tE R c)) σ H Q := by
  obtain ⟨Γ, f, pr, st, h⟩ := of_tE h
  refine tE_of st ?_
  simp only [ev] at h
  cases q : ev R.F a Γ with
  | none => simp only [q] at h; exact h
  | some r =>
    cases r with
    | ex y Γ1 => simp only [q] at h; exact h
    | ok t Γ1 =>
      cases t with
      | c d =>
        simp only [q] at h
        intro v H1 f1 s1 st1
        obtain ⟨_, _, _, ga, _, hga, _⟩ := id st1
        unfold Rep at hga
        refine tE_of st1.drop ?_
        cases q2 : ev R.F b Γ1 with
        | none => simp only [q2] at h; exact h
        | some r2 =>
          cases r2 with
          | ex y Γ2 => simp only [q2] at h; exact fun C H' f' hm s2 st2 => h C H' f' hm (s1.trans s2 fun _ => Nat.le_refl _) st2
          | ok tb Γ2 =>
            simp only [q2] at h
            cases q3 : asInt tb with
            | none => simp only [q3] at h; exact h.elim
            | some i =>
              simp only [q3] at h
              intro w H2 f2 s2 st2
              obtain ⟨_, _, _, gb, _, hgb, _⟩ := id st2
              refine ⟨i, asInt_rep ⟨gb, hgb⟩ q3, ?_⟩
              refine tE_of st2.drop ?_
              cases q4 : ev R.F c Γ2 with
              | none => simp only [q4] at h; exact h
              | some r3 =>
                cases r3 with
                | ex y Γ3 => simp only [q4] at h; exact fun C H' f' hm s3 st3 => h C H' f' hm (s1.trans (s2.trans s3 fun _ => Nat.le_refl _) fun _ => Nat.le_refl _) st3
                | ok tc Γ3 =>
                  simp only [q4] at h
                  cases q5 : asInt tc with
                  | none => simp only [q5] at h; exact h.elim
                  | some j =>
                    simp only [q5] at h
                    intro x H3 f3 s3 st3
                    obtain ⟨_, _, _, gc, _, hgc, _⟩ := id st3
                    refine ⟨j, asInt_rep ⟨gc, hgc⟩ q5, ?_⟩
                    cases q6 : slEv (.c d) (some i) (some j) with
                    | none => simp only [q6, Option.map_none] at h; exact h.elim
                    | some t =>
                      simp only [q6, Option.map_some] at h
                      refine sl_ok (f := f3) st3.alc ⟨fun _ => 0, by unfold Rep; exact Dr.ext (s2.trans s3 fun _ => Nat.le_refl _).ext hga⟩ q6 fun v' H' f' n => ?_
                      exact h v' H' f' (s1.trans (s2.trans (s3.trans (n.stp pr) fun _ => Nat.le_refl _) fun _ => Nat.le_refl _) fun _ => Nat.le_refl _) (StA.new st3.drop n)
      | l xs => simp only [q] at h; exact h.elim
      | t xs => simp only [q] at h; exact h.elim
      | s ns => simp only [q] at h; exact h.elim
      | gone => simp only [q] at h; exact h.elim
end
end Hw
set_option Elab.async false
set_option linter.all false
set_option maxRecDepth 100000
set_option maxHeartbeats 1000000
/-! all expressions together -/
namespace Hw
open PySem PySem.Spec PyProof.Rows L2
section
variable {R : RC} {M : MC} {X : Cx} {σ : Sig} {H : Hp}
theorem XOk.lo (ok : XOk R M X) {i : Nat} {x : Str} (h : M.loc i x = true) : X.N[i]? = some x ∧ L2.Loc X.env.scope x ∧ (X.fn x = true ∨ X.env.scope.names.lookup x = some .local) := by
  unfold MC.loc at h
  simp only [Bool.and_eq_true, decide_eq_true_eq] at h
  obtain ⟨h0, h1⟩ := h
  refine ⟨by rw [ok.N]; exact h0, ?_⟩
  unfold L2.Loc
  rw [ok.sc, ok.fnc]
  split at h1
  · rename_i e; exact ⟨.inl e, .inr e⟩
  · rename_i e; exact ⟨.inr e, .inl h1⟩
  · cases h1
theorem XOk.ndX (ok : XOk R M X) : X.N.Nodup := by rw [ok.N]; exact ok.nd
theorem pg_nm (ok : XOk R M X) {i : Nat} {x : Str} {pos : Pos} (h : M.loc i x = true) : PG X (.Name x pos) (gName i) := by
  obtain ⟨h1, h2, h3⟩ := ok.lo h
  exact pg_name ok.ndX h1 h2 h3
theorem pgs_nm (ok : XOk R M X) : ∀ {is : List Nat} {es : List Expr}, mNames M is es = true → PGs X es (gNames is) ∧ (assignEach es X.env).length = is.length ∧ (assignEach es X.env).findIdx? (·.1) = none
  | [], [], _ => ⟨pgs_nil, rfl, rfl⟩
  | [], e :: es, h => by cases e <;> (unfold mNames at h; cases h)
  | i :: is, [], h => by unfold mNames at h; cases h
  | i :: is, e :: es, h => by
    cases e <;> first | (unfold mNames at h; cases h; done) | skip
    rename_i x pos
    unfold mNames at h
    rw [Bool.and_eq_true] at h
    obtain ⟨h1, h2, h3⟩ := pgs_nm ok h.2
    refine ⟨pgs_cons (pg_nm ok h.1) h1, ?_, ?_⟩
    · show (assignEach es X.env).length + 1 = _
      rw [h2]; rfl
    · have : assignEach (.Name x pos :: es) X.env = (false, assign (.Name x pos) X.env) :: assignEach es X.env := rfl
      rw [this, List.findIdx?_cons, h3]; rfl
theorem pg_tg (ok : XOk R M X) {tg : CTg} {t : Expr} (h : mTg M tg t = true) : PG X t (gTg R.K tg) := by
  cases tg with
  | nm i =>
    cases t <;> first | (unfold mTg at h; cases h; done) | skip
    exact pg_nm ok (by unfold mTg at h; exact h)
  | tp is =>
    cases t <;> first | (unfold mTg at h; cases h; done) | skip
    rename_i elts k pos
    obtain ⟨h1, h2, h3⟩ := pgs_nm ok (show mNames M is elts = true by unfold mTg at h; exact h)
    have := pg_tup (k := k) (pos := pos) ok.calm h1 (n := is.length) h2 h3
    rw [ok.K] at this
    exact this
theorem XOk.blk (ok : XOk R M X) (s : Shared) (H : Hp) (scope : Scope) (C : Addr) (cl : List (Str × Addr)) (fp : List Addr) : XOk R.quiet (M.blk scope) (X.blk s H scope (compEnvC scope cl C X.env) fp) where
  K := ok.K
  mg := ok.mg
  N := ok.N
  sc := by
    show (compEnvC scope cl C X.env).scope = relS scope M.sc
    rw [← ok.sc]; rfl
  fnc := rfl
  nd := ok.nd
  calm := ok.calm
  tk := takes0
  un := ok.un
  gd := ok.gd
  fns := ok.fns
  gls := ok.gls
  blt := ok.blt
theorem tst_he {e : Expr} (h : tstE e = true) (n : ∀ l o c p, e ≠ .Compare l o c p) (env : Env) (whole : Sem Value) : isTrue e env whole = (do let v ← whole; standAt e.pos; holding [v] (truthy v)) := by
  cases e <;> first | rfl | (cases h; done) | skip
  · rename_i op a p
    cases op <;> first | rfl | (cases h; done)
  · exact absurd rfl (n _ _ _ _)
theorem te_truth {K : PySem.W.Frag} (hK : K = R.K) {a : CE} {Q : Bool → Hp → Prop} (h : tT R (.e a) σ H Q) : tE R a σ H fun x H' => ∃ k, TruV K x H' k ∧ Q k H' := by
  subst hK
  obtain ⟨Γ, f, pr, st, h⟩ := h
  simp only [evT] at h
  refine tE_of st ?_
  cases q : ev R.F a Γ with
  | none => simp only [q] at h
  | some r =>
    cases r with
    | ex y Γ1 => simp only [q] at h; exact h
    | ok t Γ1 =>
      simp only [q] at h
      intro v H1 f1 s1 st1
      cases q1 : truth t with
      | none => simp only [q1, Option.map_none] at h
      | some b =>
        simp only [q1, Option.map_some] at h
        obtain ⟨_, _, _, ga, _, hg, _⟩ := id st1
        exact ⟨b, truth_rep ⟨ga, hg⟩ q1, h H1 f1 s1 st1.drop⟩
/-- .. where the value is a truth -/
theorem te_bl {a : CE} {Q : Bool → Hp → Prop} (hb : ∀ Γ t Γ', ev R.F a Γ = some (.ok t Γ') → ∃ b, t = bT b) (h : tT R (.e a) σ H Q) : tE R a σ H fun x H' => ∃ k, x = .bl k ∧ Q k H' := by
  obtain ⟨Γ, f, pr, st, h⟩ := h
  simp only [evT] at h
  refine tE_of st ?_
  cases q : ev R.F a Γ with
  | none => simp only [q] at h
  | some r =>
    cases r with
    | ex y Γ1 => simp only [q] at h; exact h
    | ok t Γ1 =>
      simp only [q] at h
      obtain ⟨b, rfl⟩ := hb _ _ _ q
      intro v H1 f1 s1 st1
      obtain ⟨_, _, _, ga, _, hg, _⟩ := id st1
      exact ⟨b, bT_val hg, h H1 f1 s1 st1.drop⟩
theorem cmp_bl {o : CmpOp} {as : List CA} : ∀ Γ t Γ', ev R.F (.prim (.cmp o) as) Γ = some (.ok t Γ') → ∃ b, t = bT b := by
  intro Γ t Γ' h
  simp only [ev] at h
  cases q : evAs R.F as Γ with
  | none => simp only [q] at h; cases h
  | some r =>
    cases r with
    | ex y Γ1 => simp only [q] at h; cases h
    | ok avs Γ1 =>
      simp only [q] at h
      cases q1 : resolves Γ1 avs with
      | none => simp only [q1, Option.bind_none] at h; cases h
      | some ts =>
        simp only [q1, Option.bind_some] at h
        obtain ⟨t', h1, h2⟩ := Option.map_eq_some_iff.mp h
        cases h2
        match ts, h1 with
        | [a, b], h1 =>
          obtain ⟨r, _, rfl⟩ := Option.map_eq_some_iff.mp (show (cmpEv o a b).map bT = some t from h1)
          exact ⟨r, rfl⟩
        | [], h1 => simp [primEv] at h1
        | [_], h1 => simp [primEv] at h1
        | _ :: _ :: _ :: _, h1 => simp [primEv] at h1
theorem chain_bl {o1 o2 : CmpOp} {ab : List CA} {c : CE} : ∀ Γ t Γ', ev R.F (.chain o1 o2 ab c) Γ = some (.ok t Γ') → ∃ b, t = bT b := by
  intro Γ t Γ' h
  simp only [ev] at h
  cases q : evAs R.F ab Γ with
  | none => simp only [q] at h; cases h
  | some r =>
    cases r with
    | ex y Γ1 => simp only [q] at h; cases h
    | ok avs Γ1 =>
      simp only [q] at h
      cases q1 : resolves Γ1 avs with
      | none => simp only [q1] at h; cases h
      | some ts =>
        match ts, q1 with
        | [ta, tb], q1 =>
          simp only [q1] at h
          cases q2 : cmpEv o1 ta tb with
          | none => simp only [q2] at h; cases h
          | some k =>
            cases k with
            | false => simp only [q2] at h; cases h; exact ⟨_, rfl⟩
            | true =>
              simp only [q2] at h
              cases q3 : see tb with
              | none => simp only [q3] at h; cases h
              | some db =>
                simp only [q3] at h
                by_cases fd : flatD db = true
                · simp only [fd, if_true] at h
                  cases q4 : ev R.F c Γ1 with
                  | none => simp only [q4] at h; cases h
                  | some r4 =>
                    cases r4 with
                    | ex y Γ2 => simp only [q4] at h; cases h
                    | ok tc Γ2 =>
                      simp only [q4] at h
                      obtain ⟨r, _, h2⟩ := Option.map_eq_some_iff.mp h
                      cases h2; exact ⟨_, rfl⟩
                · simp only [fd] at h; cases h
        | [], q1 => simp only [q1] at h; cases h
        | [_], q1 => simp only [q1] at h; cases h
        | _ :: _ :: _ :: _, q1 => simp only [q1] at h; cases h
theorem cmp_read {K : PySem.W.Frag} (hK : K = R.K) {o : CmpOp} {c d : CA} {Q : VK} (q : tE R (.prim (.cmp o) [c, d]) σ H Q) : tOp (rCmp K o) (tA R c) (tA R d) σ H Q := by
  subst hK
  refine prim2 (r := rCmp R.K o) (fun x y H1 q => ?_) q
  obtain ⟨f, a, b, t, al, r1, r2, e, q⟩ := rprim2 q
  obtain ⟨r, e1, rfl⟩ := Option.map_eq_some_iff.mp e
  exact cmp_ok r1 r2 e1 (q _ _ _ (New.bool _))
theorem tpk_read {K : PySem.W.Frag} (hK : K = R.K) {i : Nat} {Q : Bool → Hp → Prop} (h : tT R (.pk i) σ H Q) : tVar i σ H fun x H' => ∃ k, TruV K x H' k ∧ Q k H' := by
  subst hK
  obtain ⟨Γ, f, pr, st, h⟩ := h
  simp only [evT] at h
  cases e : Γ[i]? with
  | none => simp only [e] at h
  | some t =>
    simp only [e] at h
    cases q1 : truth t with
    | none => simp only [q1, Option.map_none] at h
    | some b =>
      simp only [q1, Option.map_some] at h
      have n : t ≠ .gone := fun z => by subst z; cases q1
      obtain ⟨v, g, hv, r, _⟩ := st.takeOut e n
      exact ⟨v, hv, b, truth_rep ⟨g, r⟩ q1, h H f Stp.refl st⟩
def TPost (R : RC) (σ : Sig) (H : Hp) (f pr : Fp) (Q : Bool → Hp → Prop) : Option TR → Prop
  | some (.ok b Γ') => ∀ H' f', Stp H f pr H' f' → St0 R.K Γ' σ H' f' pr → Q b H'
  | some (.ex x Γ') => ∀ C H' f', R.mg x = some (.ref C) → Stp H f pr H' f' → St0 R.K Γ' σ H' f' pr → R.W (.ref C) none σ H'
  | none => False
theorem tT_of {c : CT} {Γ : List Tr} {f pr : Fp} {Q : Bool → Hp → Prop} (st : St0 R.K Γ σ H f pr) (h : TPost R σ H f pr Q (evT R.F c Γ)) : tT R c σ H Q := by
  refine ⟨Γ, f, pr, st, ?_⟩
  cases q : evT R.F c Γ with
  | none => rw [q] at h; exact h
  | some r => cases r <;> (rw [q] at h; exact h)
theorem of_tT {c : CT} {Q : Bool → Hp → Prop} (h : tT R c σ H Q) : ∃ Γ f pr, St0 R.K Γ σ H f pr ∧ TPost R σ H f pr Q (evT R.F c Γ) := by
  obtain ⟨Γ, f, pr, st, h⟩ := h
  refine ⟨Γ, f, pr, st, ?_⟩
  cases q : evT R.F c Γ with
  | none => simp only [q] at h
  | some r => cases r <;> (simp only [q] at h; exact h)
theorem TPost.after {f pr : Fp} {H1 : Hp} {f1 : Fp} {Q : Bool → Hp → Prop} (s : Stp H f pr H1 f1) {r : Option TR} (h : TPost R σ H f pr Q r) : TPost R σ H1 f1 pr Q r := by
  cases r with
  | none => exact h
  | some r =>
    cases r with
    | ok t Γ' => exact fun H' f' s2 st => h H' f' (s.trans s2 fun _ => Nat.le_refl _) st
    | ex x Γ' => exact fun C H' f' hm s2 st => h C H' f' hm (s.trans s2 fun _ => Nat.le_refl _) st
theorem tand_read {a b : CT} {Q : Bool → Hp → Prop} (h : tT R (.and_ a b) σ H Q) : tAnd (tT R a) (tT R b) σ H Q := by
  obtain ⟨Γ, f, pr, st, h⟩ := of_tT h
  simp only [evT] at h
  refine tT_of st ?_
  cases q : evT R.F a Γ with
  | none => simp only [q] at h; exact h
  | some r =>
    cases r with
    | ex y Γ1 => simp only [q] at h; exact h
    | ok k Γ1 =>
      intro H1 f1 s1 st1
      cases k with
      | true => simp only [q] at h; rw [if_pos rfl]; exact tT_of st1 (h.after s1)
      | false => simp only [q] at h; rw [if_neg Bool.false_ne_true]; exact h H1 f1 s1 st1
theorem tor_read {a b : CT} {Q : Bool → Hp → Prop} (h : tT R (.or_ a b) σ H Q) : tOr (tT R a) (tT R b) σ H Q := by
  obtain ⟨Γ, f, pr, st, h⟩ := of_tT h
  simp only [evT] at h
  refine tT_of st ?_
  cases q : evT R.F a Γ with
  | none => simp only [q] at h; exact h
  | some r =>
    cases r with
    | ex y Γ1 => simp only [q] at h; exact h
    | ok k Γ1 =>
      intro H1 f1 s1 st1
      cases k with
      | false => simp only [q] at h; rw [if_neg Bool.false_ne_true]; exact tT_of st1 (h.after s1)
      | true => simp only [q] at h; rw [if_pos rfl]; exact h H1 f1 s1 st1
theorem tnot_read {a : CT} {Q : Bool → Hp → Prop} (h : tT R (.not_ a) σ H Q) : tNot (tT R a) σ H Q := by
  obtain ⟨Γ, f, pr, st, h⟩ := of_tT h
  simp only [evT] at h
  refine tT_of st ?_
  cases q : evT R.F a Γ with
  | none => simp only [q] at h; exact h
  | some r =>
    cases r with
    | ex y Γ1 => simp only [q] at h; exact h
    | ok k Γ1 =>
      simp only [q] at h
      exact fun H1 f1 s1 st1 => h H1 f1 s1 st1
/-- the subscripts of a path -/
theorem pe_path (ok : XOk R M X) {i : Nat} : ∀ {e : Expr} {x : Str} {bs : List Expr} {es : List CE}, pathOf e = some (x, bs) → M.vis i x = true → bs.length = es.length → (∀ (j : Nat) b c, bs[j]? = some b → es[j]? = some c → plainE b = true ∧ PE X b (tE R c)) → PE X e (tPth R (tVar i) es) := by
  intro e
  induction e using pathOf.induct with
  | case1 x pos =>
    intro y bs es h hv hl hp
    unfold pathOf at h
    cases h
    have : es = [] := List.eq_nil_of_length_eq_zero hl.symm
    subst this
    exact pe_slot ok hv
  | case2 a b pos ih =>
    intro y bs es h hv hl hp
    unfold pathOf at h
    obtain ⟨⟨x, cs⟩, h1, h2⟩ := Option.map_eq_some_iff.mp h
    cases h2
    simp only [List.length_append, List.length_singleton] at hl
    obtain ⟨es', c, rfl⟩ : ∃ es' c, es = es' ++ [c] := by
      rcases List.eq_nil_or_concat es with e | ⟨es', c, e⟩
      · subst e; simp at hl
      · exact ⟨es', c, by rw [e, List.concat_eq_append]⟩
    simp only [List.length_append, List.length_singleton, Nat.add_right_cancel_iff] at hl
    have h3 := ih (es := es') h1 hv hl fun j b' c' e1 e2 => hp j b' c' (by rw [List.getElem?_append_left (List.getElem?_eq_some_iff.mp e1).1]; exact e1) (by rw [List.getElem?_append_left (List.getElem?_eq_some_iff.mp e2).1]; exact e2)
    have h4 := hp cs.length b c (by simp) (by rw [hl]; simp)
    have ap : ∀ {es : List CE} {t : TE}, tPth R t (es ++ [c]) = tOp (rIx R.K) (tPth R t es) (tE R c) := by
      intro es
      induction es with
      | nil => intro t; rfl
      | cons d ds ih => intro t; exact ih
    rw [ap]
    have := pe_ix (pos := pos) ix_seq h3 h4.2 (plainIx h4.1)
    rw [ok.K] at this
    exact this
  | case3 e h1 h2 =>
    intro y bs es h
    unfold pathOf at h
    split at h <;> first | (cases h; done) | skip
    · exact absurd rfl (h1 _ _)
    · exact absurd rfl (h2 _ _ _)
end
end Hw
set_option Elab.async false
set_option linter.all false
set_option maxRecDepth 100000
set_option maxHeartbeats 2000000
/-! all expressions together -/
namespace Hw
open PySem PySem.Spec PyProof.Rows L2
theorem plain_marks {c : Expr} (h : plainE c = true) (o : CmpOp) : behindInMarks o c = false := by
  cases o <;> first | rfl | (cases c <;> first | rfl | cases h)
theorem plain_folded {e : Expr} (h : plainE e = true) (env : Env) : ∀ x, foldedSetIterable e env x = pure x := by
  intro x
  cases e <;> first | rfl | cases h
theorem range_folded {f : Expr} {es : List Expr} {ks : List Keyword} {pos : Pos} (env : Env) : ∀ x, foldedSetIterable (.Call f es ks pos) env x = pure x := fun _ => rfl
theorem isTup_of {t : Expr} (h : isTupE t = true) : ∃ elts k pos, t = .Tuple elts k pos := by
  cases t <;> first | exact ⟨_, _, _, rfl⟩ | cases h
theorem call_none {R : RC} {x : Str} {as : List CA} {σ : Sig} {H : Hp} {Q : VK} (hf : R.F.fn x = none) (h : tE R (.call x as) σ H Q) : False := by
  obtain ⟨Γ, f, pr, st, h⟩ := h
  simp only [ev, hf] at h
theorem primArgs_cmp {M : MC} {p : P} {l : Expr} {ops : List CmpOp} {cs : List Expr} {pos : Pos} {es : List Expr} (h : primArgs M p (.Compare l ops cs pos) = some es) : ∃ o b, p = .cmp o ∧ ops = [o] ∧ cs = [b] ∧ es = [l, b] := by
  cases p with
  | cmp o =>
    match ops, cs, h with
    | [o'], [b], h =>
      unfold primArgs at h
      dsimp only at h
      split at h
      · rename_i q
        cases h
        exact ⟨o, b, rfl, by rw [eqOp_of q], rfl, rfl⟩
      · cases h
    | [], _, h => exact absurd h (by simp [primArgs])
    | _ :: _ :: _, _, h => exact absurd h (by simp [primArgs])
    | [_], [], h => exact absurd h (by simp [primArgs])
    | [_], _ :: _ :: _, h => exact absurd h (by simp [primArgs])
  | sl a b => cases a <;> cases b <;> exact absurd h (by simp [primArgs])
  | lrg a => cases a <;> exact absurd h (by simp [primArgs])
  | trg a => cases a <;> exact absurd h (by simp [primArgs])
  | _ => exact absurd h (by simp [primArgs])
def isBoolE : Expr → Bool
  | .BoolOp .. => true
  | _ => false
theorem it_folded {M : MC} {tup : Bool} {it : CIt} {e : Expr} (h : mIt M tup it e = true) (env : Env) : ∀ x, foldedSetIterable e env x = pure x := by
  intro x
  cases e <;> first | rfl | skip
  all_goals (cases it <;> first | (exact absurd h (by unfold mIt; exact Bool.false_ne_true)) | skip)
  all_goals (unfold mIt at h; rw [Bool.and_eq_true] at h; exact absurd h.1 Bool.false_ne_true)
section
variable {R : RC} {M : MC} {X : Cx}
theorem mC_none {M : MC} {c : CT} {cs : List CT} {es : List Expr} (h : mC M (c :: cs) es = true) : cs = [] ∧ ∃ e, es = [e] ∧ mT M c e = true := by
  cases cs with
  | nil =>
    match es, h with
    | [e], h => exact ⟨rfl, e, rfl, by unfold mC at h; exact h⟩
    | [], h => unfold mC at h; cases h
    | _ :: _ :: _, h => unfold mC at h; cases h
  | cons c2 cs2 => 
    unfold mC at h
    cases h
end
mutual
theorem sE : ∀ (c : CE) {R : RC} {M : MC} {X : Cx} (ok : XOk R M X) {e : Expr}, mE M c e = true → PE X e (tE R c)
  | .var i, R, M, X, ok, e, h => by
    cases e <;> first | (exact absurd h (by unfold mE; exact Bool.false_ne_true)) | skip
    exact PE.imp (pe_slot ok (by unfold mE at h; exact h)) fun _ _ _ q => var_ok q
  | .mv i, R, M, X, ok, e, h => by
    cases e <;> first | (exact absurd h (by unfold mE; exact Bool.false_ne_true)) | skip
    exact PE.imp (pe_slot ok (by unfold mE at h; exact h)) fun _ _ _ q => mv_ok q
  | .lit d, R, M, X, ok, e, h => by
    cases e <;> first | (exact absurd h (by unfold mE; exact Bool.false_ne_true)) | skip
    exact lit_ok (by unfold mE at h; exact h)
  | .glb x, R, M, X, ok, e, h => by
    cases e <;> first | (exact absurd h (by unfold mE; exact Bool.false_ne_true)) | skip
    unfold mE at h
    rw [Bool.and_eq_true, decide_eq_true_eq] at h
    obtain ⟨rfl, h⟩ := h
    exact glb_ok ok h
  | .prim p as, R, M, X, ok, e, h => by
    unfold mE at h
    split at h
    · rename_i es q
      exact prim_sound ok q (sAs as ok h)
    · cases h
  | .tup as, R, M, X, ok, e, h => by
    cases e <;> first | (exact absurd h (by unfold mE; exact Bool.false_ne_true)) | skip
    exact PE.imp (pe_tup (sAs as ok (by unfold mE at h; exact h)).pa) fun _ _ _ q => tup_ok q
  | .lst as, R, M, X, ok, e, h => by
    cases e <;> first | (exact absurd h (by unfold mE; exact Bool.false_ne_true)) | skip
    exact PE.imp (pe_lst (sAs as ok (by unfold mE at h; exact h)).pa) fun _ _ _ q => lst_ok q
  | .and_ a b, R, M, X, ok, e, h => by
    cases e <;> first | (exact absurd h (by unfold mE; exact Bool.false_ne_true)) | skip
    rename_i op vs pos
    cases op <;> first | (exact absurd h (by unfold mE; exact Bool.false_ne_true)) | skip
    match vs, h with
    | [v, w], h =>
      unfold mE at h
      rw [Bool.and_eq_true] at h
      exact PE.imp (pe_and (sE a ok h.1) (pe_one (sE b ok h.2))) fun _ _ _ q => and_ok q
    | v :: w :: u :: r, h =>
      unfold mE at h
      rw [Bool.and_eq_true] at h
      exact PE.imp (pe_and (sE a ok h.1) (sE b ok h.2)) fun _ _ _ q => and_ok q
    | [], h => exact absurd h (by unfold mE; exact Bool.false_ne_true)
    | [_], h => exact absurd h (by unfold mE; exact Bool.false_ne_true)
  | .or_ a b, R, M, X, ok, e, h => by
    cases e <;> first | (exact absurd h (by unfold mE; exact Bool.false_ne_true)) | skip
    rename_i op vs pos
    cases op <;> first | (exact absurd h (by unfold mE; exact Bool.false_ne_true)) | skip
    match vs, h with
    | [v, w], h =>
      unfold mE at h
      rw [Bool.and_eq_true] at h
      exact PE.imp (pe_or (sE a ok h.1) (pe_one (sE b ok h.2))) fun _ _ _ q => or_ok q
    | v :: w :: u :: r, h =>
      unfold mE at h
      rw [Bool.and_eq_true] at h
      exact PE.imp (pe_or (sE a ok h.1) (sE b ok h.2)) fun _ _ _ q => or_ok q
    | [], h => exact absurd h (by unfold mE; exact Bool.false_ne_true)
    | [_], h => exact absurd h (by unfold mE; exact Bool.false_ne_true)
  | .not_ a, R, M, X, ok, e, h => by
    cases e <;> first | (exact absurd h (by unfold mE; exact Bool.false_ne_true)) | skip
    rename_i op v pos
    cases op <;> first | (exact absurd h (by unfold mE; exact Bool.false_ne_true)) | skip
    exact PE.imp (pe_notT (sE a ok (by unfold mE at h; exact h))) fun _ _ _ q => not_ok ok.K q
  | .ife c a b, R, M, X, ok, e, h => by
    cases e <;> first | (exact absurd h (by unfold mE; exact Bool.false_ne_true)) | skip
    unfold mE at h
    simp only [Bool.and_eq_true] at h
    exact PE.imp (pe_ifExp ((sT c ok h.1).1) (sE a ok h.2.1) (sE b ok h.2.2)) fun _ _ _ q => ife_ok q
  | .chain o1 o2 ab c, R, M, X, ok, e, h => by
    cases e <;> first | (exact absurd h (by unfold mE; exact Bool.false_ne_true)) | skip
    rename_i l ops cs pos
    match ops, cs, h with
    | [p1, p2], [b, c'], h =>
      unfold mE at h
      simp only [Bool.and_eq_true] at h
      obtain ⟨⟨⟨e1, e2⟩, hab⟩, hp, hc⟩ := h
      have := eqOp_of e1; subst this
      have := eqOp_of e2; subst this
      have pab := sAs ab ok hab
      match ab, pab with
      | [ca, cb], pab =>
        obtain ⟨_, _, ee, p1, h1, p2, h2⟩ := pab.two
        cases ee
        refine PE.imp (pe_chain (op_cmp ok.un _) (op_cmp ok.un _) h1 h2 (sE c ok hc) (plain_marks hp _)) fun _ _ _ q => chain_ok ok.K q
      | [], pab => exact absurd pab.length (by simp)
      | [_], pab => exact absurd pab.length (by simp)
      | _ :: _ :: _ :: _, pab => exact absurd pab.length (by simp)
    | [], _, h => exact absurd h (by unfold mE; exact Bool.false_ne_true)
    | [_], _, h => exact absurd h (by unfold mE; exact Bool.false_ne_true)
    | _ :: _ :: _ :: _, _, h => exact absurd h (by unfold mE; exact Bool.false_ne_true)
    | [_, _], [], h => exact absurd h (by unfold mE; exact Bool.false_ne_true)
    | [_, _], [_], h => exact absurd h (by unfold mE; exact Bool.false_ne_true)
    | [_, _], _ :: _ :: _ :: _, h => exact absurd h (by unfold mE; exact Bool.false_ne_true)
  | .call x as, R, M, X, ok, e, h => by
    cases e <;> first | (exact absurd h (by unfold mE; exact Bool.false_ne_true)) | skip
    rename_i fe es ks pos
    cases fe <;> first | (exact absurd h (by unfold mE; exact Bool.false_ne_true)) | skip
    rename_i y p
    match es, ks, h with
    | e :: es, [], h =>
      unfold mE at h
      simp only [Bool.and_eq_true, decide_eq_true_eq] at h
      obtain ⟨⟨rfl, hg⟩, has⟩ := h
      have pes := sAs as ok has
      have pl := pes.plain
      rw [List.all_cons, Bool.and_eq_true] at pl
      obtain ⟨g1, g2, g3⟩ := ok.gl hg
      cases hf : R.F.fn x with
      | none => exact ⟨fun pins s σ H Q I q => (call_none hf q).elim⟩
      | some run =>
        obtain ⟨n, f, fd, ps, k, F, hm, hk, hb, hr, hn⟩ := ok.fns x run hf
        exact PE.imp (Hq.pe_G F ok.gd hr g1 hm hk hb (fun σ => passAt ok.tk σ) pes.pa g2 (star_of pl.1 _ _) (stars_no pl.2)) fun _ _ _ q => call_ok hf hn q
    | [], _, h => exact absurd h (by unfold mE; exact Bool.false_ne_true)
    | _ :: _, _ :: _, h => exact absurd h (by unfold mE; exact Bool.false_ne_true)
  | .lc own tg it cond elt, R, M, X, ok, e, h => by
    cases e <;> first | (exact absurd h (by unfold mE; exact Bool.false_ne_true)) | skip
    rename_i ee gens s pos
    match gens, h with
    | [⟨t, i, ifs, 0⟩], h =>
      unfold mE at h
      simp only [Bool.and_eq_true, List.all_eq_true, List.contains_iff_mem] at h
      obtain ⟨⟨⟨⟨hb, ht⟩, ho⟩, hi⟩, hc, he⟩ := h
      have hmap : (ownN M own).map (·.2) = own := by unfold ownN; rw [List.map_map]; exact List.map_id _
      have hblk : blkC X.N X.env.scope s (ownN M own) = true := by rw [ok.N, ok.sc]; exact hb
      have hpi := sIt it ok hi
      have := pe_lc (pos := pos) (elt := ee) (ifs := ifs) ok.calm ok.ndX hpi (blkOk_by hblk) (fun s0 H C cl fp => pg_tg (ok.blk s0 H s C cl fp) ht) (fun s0 H C cl fp => sC cond (ok.blk s0 H s C cl fp) hc) (fun s0 H C cl fp => sE elt (ok.blk s0 H s C cl fp) he) (it_folded hi _)
      rw [hmap] at this
      exact PE.imp this fun _ _ _ q => lc_read ho q
    | [], h => exact absurd h (by unfold mE; exact Bool.false_ne_true)
    | _ :: _ :: _, h => exact absurd h (by unfold mE; simp)
    | [⟨_, _, _, Nat.succ _⟩], h => exact absurd h (by unfold mE; exact Bool.false_ne_true)
  | .pth i es, R, M, X, ok, e, h => by
    unfold mE at h
    split at h
    · rename_i x bs q
      rw [Bool.and_eq_true] at h
      obtain ⟨h1, h2⟩ := sEs es ok h.2
      exact PE.imp (pe_path ok q h.1 h1 h2) fun _ _ _ q => path_read q
    · cases h
  | .pop i as, R, M, X, ok, e, h => by
    cases e <;> first | (exact absurd h (by unfold mE; exact Bool.false_ne_true)) | skip
    rename_i fe es ks pos
    cases fe <;> first | (exact absurd h (by unfold mE; exact Bool.false_ne_true)) | skip
    rename_i oe m apos
    cases oe <;> first | (exact absurd h (by unfold mE; exact Bool.false_ne_true)) | skip
    rename_i x xp
    match ks, h with
    | [], h =>
      unfold mE at h
      simp only [Bool.and_eq_true, decide_eq_true_eq] at h
      obtain ⟨⟨⟨⟨rfl, hv⟩, hl⟩, hn⟩, has⟩ := h
      have pes := sAs as ok has
      match as, pes, hn with
      | [], pes, hn =>
        unfold PEs at pes
        subst pes
        exact PE.imp (pe_bm0 PySem.F.plainAttrs_list PySem.F.slot_list_pop PySem.F.type_list_pop mt_pop (pe_slot ok hv) rfl hl) fun _ _ _ q => by rw [ok.K]; exact pop0_read q
      | [c], pes, hn =>
        obtain ⟨a, rfl, hp, _⟩ := pes.one
        exact PE.imp (pe_bm PySem.F.plainAttrs_list PySem.F.slot_list_pop PySem.F.type_list_pop mt_popAt (pe_slot ok hv) pes.pa rfl (by rw [star_of hp]; rfl) hl (star_of hp _ _) rfl) fun _ _ _ q => by rw [ok.K]; exact pop1_read q
    | _ :: _, h => exact absurd h (by unfold mE; exact Bool.false_ne_true)
  | .idx i a, R, M, X, ok, e, h => by
    unfold mE at h
    split at h
    all_goals first | (cases ‹CE.idx i a = _›) | (cases h)
    rename_i x xp m apos b cpos
    simp only [Bool.and_eq_true, decide_eq_true_eq] at h
    obtain ⟨⟨⟨rfl, hv⟩, hl⟩, hp, ha⟩ := h
    have pa := PA.imp (pa_cons' hp (sE a ok ha) pa_nil) (t' := tAs R [.e a]) fun σ H Q q => tE.mono (as_cons q) fun _ _ q => as_nil q
    exact PE.imp (pe_bm PySem.F.plainAttrs_list PySem.F.slot_list_index PySem.F.type_list_index mt_index (pe_slot (pos := xp) ok hv) pa rfl (by rw [star_of hp]; rfl) hl (star_of hp _ _) rfl) fun _ _ _ q => by rw [ok.K]; exact idx_read q
  | .stl a, R, M, X, ok, e, h => by
    unfold mE at h
    rw [Bool.and_eq_true] at h
    exact PE.imp (sE a ok h.2) fun _ _ _ q => stl_read q
  | .emp, R, M, X, ok, e, h => by
    unfold mE at h
    split at h
    all_goals first | (cases ‹CE.emp = _›) | (cases h)
    exact PE.imp pe_dnewK fun _ _ _ q => emp_read q
  | .sl2 a b c, R, M, X, ok, e, h => by
    unfold mE at h
    split at h
    all_goals first | (cases ‹CE.sl2 a b c = _›) | (cases h)
    simp only [Bool.and_eq_true] at h
    exact PE.imp (pe_slice (sl_2 (X := X)) (sE a ok h.1) (po_some (sE b ok h.2.1)) (po_some (sE c ok h.2.2))) fun _ _ _ q => by rw [ok.K]; exact sl2_read q
theorem sAs : ∀ (cs : List CA) {R : RC} {M : MC} {X : Cx} (ok : XOk R M X) {es : List Expr}, mAs M cs es = true → PEs X R cs es
  | [], R, M, X, ok, es, h => by
    cases es with
    | nil => unfold PEs; rfl
    | cons _ _ => unfold mAs at h; cases h
  | c :: cs, R, M, X, ok, es, h => by
    cases es with
    | nil => unfold mAs at h; cases h
    | cons e es =>
      unfold mAs at h
      simp only [Bool.and_eq_true] at h
      exact ⟨e, es, rfl, h.1.1, sA c ok h.1.2, sAs cs ok h.2⟩
theorem sA : ∀ (c : CA) {R : RC} {M : MC} {X : Cx} (ok : XOk R M X) {e : Expr}, mA M c e = true → PE X e (tA R c)
  | .e a, R, M, X, ok, e, h => sE a ok (by unfold mA at h; exact h)
  | .pk i, R, M, X, ok, e, h => by
    cases e <;> first | (exact absurd h (by unfold mA; exact Bool.false_ne_true)) | skip
    exact pe_slot ok (by unfold mA at h; exact h)
  | .io i, R, M, X, ok, e, h => by
    cases e <;> first | (exact absurd h (by unfold mA; exact Bool.false_ne_true)) | skip
    exact pe_slot ok (by unfold mA at h; exact h)
theorem sEs : ∀ (cs : List CE) {R : RC} {M : MC} {X : Cx} (ok : XOk R M X) {es : List Expr}, mEs M cs es = true → es.length = cs.length ∧ ∀ (j : Nat) b c, es[j]? = some b → cs[j]? = some c → plainE b = true ∧ PE X b (tE R c)
  | [], R, M, X, ok, es, h => by
    cases es with
    | nil => exact ⟨rfl, fun j b c e => by simp at e⟩
    | cons _ _ => unfold mEs at h; cases h
  | c :: cs, R, M, X, ok, es, h => by
    cases es with
    | nil => unfold mEs at h; cases h
    | cons e es =>
      unfold mEs at h
      simp only [Bool.and_eq_true] at h
      obtain ⟨h1, h2⟩ := sEs cs ok h.2
      have h3 := sE c ok h.1.2
      refine ⟨by simp [h1], fun j b d e1 e2 => ?_⟩
      cases j with
      | zero => simp only [List.getElem?_cons_zero, Option.some.injEq] at e1 e2; subst e1 e2; exact ⟨h.1.1, h3⟩
      | succ j => simp only [List.getElem?_cons_succ] at e1 e2; exact h2 j b d e1 e2
theorem sT : ∀ (c : CT) {R : RC} {M : MC} {X : Cx} (ok : XOk R M X) {e : Expr}, mT M c e = true → PT X e (tT R c) ∧ (isBoolE e = true → PW X e (tT R c))
  | .pk i, R, M, X, ok, e, h => by
    cases e <;> first | (exact absurd h (by unfold mT; exact Bool.false_ne_true)) | skip
    exact ⟨PT.imp (pt_truth (pe_slot ok (by unfold mT at h; exact h)) fun _ => rfl) fun _ _ _ q => tpk_read ok.K q, fun z => by cases z⟩
  | .and_ a b, R, M, X, ok, e, h => by
    cases e <;> first | (exact absurd h (by unfold mT; exact Bool.false_ne_true)) | skip
    rename_i op vs pos
    cases op <;> first | (exact absurd h (by unfold mT; exact Bool.false_ne_true)) | skip
    match vs, h with
    | [v, w], h =>
      unfold mT at h
      rw [Bool.and_eq_true] at h
      have := PW.imp (pw_and (pos := pos) (sT a ok h.1).1 (pw_and1 (sT b ok h.2).1)) fun _ _ _ q => tand_read q
      exact ⟨this.pt, fun _ => this⟩
    | v :: w :: u :: r, h =>
      unfold mT at h
      rw [Bool.and_eq_true] at h
      have := PW.imp (pw_and (pos := pos) (sT a ok h.1).1 ((sT b ok h.2).2 rfl)) fun _ _ _ q => tand_read q
      exact ⟨this.pt, fun _ => this⟩
    | [], h => exact absurd h (by unfold mT; exact Bool.false_ne_true)
    | [_], h => exact absurd h (by unfold mT; exact Bool.false_ne_true)
  | .or_ a b, R, M, X, ok, e, h => by
    cases e <;> first | (exact absurd h (by unfold mT; exact Bool.false_ne_true)) | skip
    rename_i op vs pos
    cases op <;> first | (exact absurd h (by unfold mT; exact Bool.false_ne_true)) | skip
    match vs, h with
    | [v, w], h =>
      unfold mT at h
      rw [Bool.and_eq_true] at h
      have := PW.imp (pw_or (pos := pos) (sT a ok h.1).1 (pw_or1 (sT b ok h.2).1)) fun _ _ _ q => tor_read q
      exact ⟨this.pt, fun _ => this⟩
    | v :: w :: u :: r, h =>
      unfold mT at h
      rw [Bool.and_eq_true] at h
      have := PW.imp (pw_or (pos := pos) (sT a ok h.1).1 ((sT b ok h.2).2 rfl)) fun _ _ _ q => tor_read q
      exact ⟨this.pt, fun _ => this⟩
    | [], h => exact absurd h (by unfold mT; exact Bool.false_ne_true)
    | [_], h => exact absurd h (by unfold mT; exact Bool.false_ne_true)
  | .not_ a, R, M, X, ok, e, h => by
    cases e <;> first | (exact absurd h (by unfold mT; exact Bool.false_ne_true)) | skip
    rename_i op v pos
    cases op <;> first | (exact absurd h (by unfold mT; exact Bool.false_ne_true)) | skip
    exact ⟨PT.imp (pt_not (sT a ok (by unfold mT at h; exact h)).1) fun _ _ _ q => tnot_read q, fun z => by cases z⟩
  | .e a, R, M, X, ok, e, h => by
    have hte : tstE e = true ∧ mE M a e = true := by
      unfold mT at h
      rw [Bool.and_eq_true] at h
      exact h
    obtain ⟨ht, he⟩ := hte
    refine ⟨?_, fun z => by cases e <;> first | exact absurd ht Bool.false_ne_true | cases z⟩
    have hE := sE a ok he
    cases e with
    | Compare l ops cs pos =>
      cases a with
      | prim p as =>
        unfold mE at he
        split at he
        · rename_i es q
          obtain ⟨o, b, rfl, rfl, rfl, rfl⟩ := primArgs_cmp q
          have pes := sAs as ok he
          match as, pes with
          | [ca, cb], pes =>
            obtain ⟨_, _, ee, p1, h1, p2, h2⟩ := pes.two
            cases ee
            exact PT.imp (pt_cmpR (op_cmp ok.un _) h1 h2 (plain_marks p2 _)) fun _ _ _ q => cmp_read ok.K (te_bl cmp_bl q)
          | [], pab => exact absurd pab.length (by simp)
          | [_], pab => exact absurd pab.length (by simp)
          | _ :: _ :: _ :: _, pab => exact absurd pab.length (by simp)
        · cases he
      | chain o1 o2 ab c =>
        match ops, cs, he with
        | [p1, p2], [b, c'], he =>
          unfold mE at he
          simp only [Bool.and_eq_true] at he
          obtain ⟨⟨⟨e1, e2⟩, hab⟩, hp, hc⟩ := he
          have := eqOp_of e1; subst this
          have := eqOp_of e2; subst this
          have pab := sAs ab ok hab
          match ab, pab with
          | [ca, cb], pab =>
            obtain ⟨_, _, ee, p1, h1, p2, h2⟩ := pab.two
            cases ee
            exact PT.imp (pt_chain (op_cmp ok.un _) (op_cmp ok.un _) h1 h2 (sE c ok hc) (plain_marks hp _)) fun _ _ _ q => chain_ok ok.K (te_bl chain_bl q)
          | [], pab => exact absurd pab.length (by simp)
          | [_], pab => exact absurd pab.length (by simp)
          | _ :: _ :: _ :: _, pab => exact absurd pab.length (by simp)
        | [], _, h => exact absurd h (by unfold mE; exact Bool.false_ne_true)
        | [_], _, h => exact absurd h (by unfold mE; exact Bool.false_ne_true)
        | _ :: _ :: _ :: _, _, h => exact absurd h (by unfold mE; exact Bool.false_ne_true)
        | [_, _], [], h => exact absurd h (by unfold mE; exact Bool.false_ne_true)
        | [_, _], [_], h => exact absurd h (by unfold mE; exact Bool.false_ne_true)
        | [_, _], _ :: _ :: _ :: _, h => exact absurd h (by unfold mE; exact Bool.false_ne_true)
      | pth i es => exact absurd he (by unfold mE pathOf; exact Bool.false_ne_true)
      | _ => exact absurd he (by unfold mE; exact Bool.false_ne_true)
    | _ => exact PT.imp (pt_truth hE fun w => tst_he ht (fun _ _ _ _ z => by cases z) _ w) fun _ _ _ q => te_truth ok.K q
theorem sC : ∀ (cs : List CT) {R : RC} {M : MC} {X : Cx} (ok : XOk R M X) {es : List Expr}, mC M cs es = true → PTs X es (tC R cs)
  | [], R, M, X, ok, es, h => by
    cases es with
    | nil => exact pts_nil
    | cons _ _ => unfold mC at h; cases h
  | c :: cs, R, M, X, ok, es, h => by
    obtain ⟨rfl, e, rfl, h⟩ := mC_none h
    exact pts_one (sT c ok h).1
theorem sIt : ∀ (it : CIt) {R : RC} {M : MC} {X : Cx} (ok : XOk R M X) {t e : Expr}, mIt M (isTupE t) it e = true → PI X t e (tI R it)
  | .sq a, R, M, X, ok, t, e, h => by
    unfold mIt at h
    rw [Bool.and_eq_true] at h
    have := sE a ok h.2
    exact PI.imp (PI.or (pi_list this) (pi_tup this)) fun _ _ _ q => sq_read ok.K q
  | .rng1 a, R, M, X, ok, t, e, h => by
    cases e <;> first | (exact absurd h (by unfold mIt; exact Bool.false_ne_true)) | skip
    rename_i fe es ks pos
    cases fe <;> first | (exact absurd h (by unfold mIt; exact Bool.false_ne_true)) | skip
    match es, ks, h with
    | [e], [], h =>
      unfold mIt at h
      simp only [Bool.and_eq_true, decide_eq_true_eq] at h
      obtain ⟨⟨rfl, hg⟩, hp, he⟩ := h
      exact PI.imp (pi_range1 (ok.gl hg).1 (ok.blt _ (by decide +kernel)) (pa_cons' hp (sE a ok he) pa_nil) (star_of hp _ _)) fun _ _ _ q => rng1_read q
    | [], _, h => exact absurd h (by unfold mIt; exact Bool.false_ne_true)
    | _ :: _ :: _, _, h => exact absurd h (by unfold mIt; exact Bool.false_ne_true)
    | [_], _ :: _, h => exact absurd h (by unfold mIt; exact Bool.false_ne_true)
  | .rng2 as, R, M, X, ok, t, e, h => by
    cases e <;> first | (exact absurd h (by unfold mIt; exact Bool.false_ne_true)) | skip
    rename_i fe es ks pos
    cases fe <;> first | (exact absurd h (by unfold mIt; exact Bool.false_ne_true)) | skip
    match es, ks, h with
    | [e, e2], [], h =>
      unfold mIt at h
      simp only [Bool.and_eq_true, decide_eq_true_eq] at h
      obtain ⟨⟨rfl, hg⟩, has⟩ := h
      have pes := sAs as ok has
      have pl := pes.plain
      simp only [List.all_cons, List.all_nil, Bool.and_true, Bool.and_eq_true] at pl
      exact PI.imp (pi_range2 (ok.gl hg).1 (ok.blt _ (by decide +kernel)) pes.pa (by rw [star_of pl.1, star_of pl.2]; rfl) (star_of pl.2 _ _)) fun _ _ _ q => rng2_read q
    | [], _, h => exact absurd h (by unfold mIt; exact Bool.false_ne_true)
    | [_], _, h => exact absurd h (by unfold mIt; exact Bool.false_ne_true)
    | _ :: _ :: _ :: _, _, h => exact absurd h (by unfold mIt; exact Bool.false_ne_true)
    | [_, _], _ :: _, h => exact absurd h (by unfold mIt; exact Bool.false_ne_true)
  | .enm a, R, M, X, ok, t, e, h => by
    cases e <;> first | (exact absurd h (by unfold mIt; exact Bool.false_ne_true)) | skip
    rename_i fe es ks pos
    cases fe <;> first | (exact absurd h (by unfold mIt; exact Bool.false_ne_true)) | skip
    match es, ks, h with
    | [e], [], h =>
      unfold mIt at h
      simp only [Bool.and_eq_true, decide_eq_true_eq] at h
      obtain ⟨⟨⟨ht, rfl⟩, hg⟩, hp, he⟩ := h
      obtain ⟨_, _, _, rfl⟩ := isTup_of ht
      exact PI.imp (Hx.pi_enumB (ok.gl hg).1 (ok.blt _ (by decide +kernel)) (sE a ok he) (star_of hp [])) fun _ _ _ q => enm_read ok.K q
    | [], _, h => exact absurd h (by unfold mIt; exact Bool.false_ne_true)
    | _ :: _ :: _, _, h => exact absurd h (by unfold mIt; exact Bool.false_ne_true)
    | [_], _ :: _, h => exact absurd h (by unfold mIt; exact Bool.false_ne_true)
  | .zip as, R, M, X, ok, t, e, h => by
    cases e <;> first | (exact absurd h (by unfold mIt; exact Bool.false_ne_true)) | skip
    rename_i fe es ks pos
    cases fe <;> first | (exact absurd h (by unfold mIt; exact Bool.false_ne_true)) | skip
    match es, ks, h with
    | [e, e2], [], h =>
      unfold mIt at h
      simp only [Bool.and_eq_true, decide_eq_true_eq] at h
      obtain ⟨⟨⟨ht, rfl⟩, hg⟩, has⟩ := h
      obtain ⟨_, _, _, rfl⟩ := isTup_of ht
      have pes := sAs as ok has
      have pl := pes.plain
      simp only [List.all_cons, List.all_nil, Bool.and_true, Bool.and_eq_true] at pl
      exact PI.imp (Hx.pi_zipB (ok.gl hg).1 (ok.blt _ (by decide +kernel)) pes.pa (star_of pl.1 _ _) (stars_no (es := [e2]) (by simp [pl.2]))) fun _ _ _ q => zip_read ok.K q
    | [], _, h => exact absurd h (by unfold mIt; exact Bool.false_ne_true)
    | [_], _, h => exact absurd h (by unfold mIt; exact Bool.false_ne_true)
    | _ :: _ :: _ :: _, _, h => exact absurd h (by unfold mIt; exact Bool.false_ne_true)
    | [_, _], _ :: _, h => exact absurd h (by unfold mIt; exact Bool.false_ne_true)
  | .zip3 as, R, M, X, ok, t, e, h => by
    cases e <;> first | (exact absurd h (by unfold mIt; exact Bool.false_ne_true)) | skip
    rename_i fe es ks pos
    cases fe <;> first | (exact absurd h (by unfold mIt; exact Bool.false_ne_true)) | skip
    match es, ks, h with
    | [e, e2, e3], [], h =>
      unfold mIt at h
      simp only [Bool.and_eq_true, decide_eq_true_eq] at h
      obtain ⟨⟨⟨ht, rfl⟩, hg⟩, has⟩ := h
      obtain ⟨_, _, _, rfl⟩ := isTup_of ht
      have pes := sAs as ok has
      have pl := pes.plain
      simp only [List.all_cons, List.all_nil, Bool.and_true, Bool.and_eq_true] at pl
      exact PI.imp (Hx.pi_zip3 (ok.gl hg).1 (ok.blt _ (by decide +kernel)) pes.pa (star_of pl.1 _ _) (stars_no (es := [e2, e3]) (by simp [pl.2.1, pl.2.2]))) fun _ _ _ q => zip3_read ok.K q
    | [], _, h => exact absurd h (by unfold mIt; exact Bool.false_ne_true)
    | [_], _, h => exact absurd h (by unfold mIt; exact Bool.false_ne_true)
    | [_, _], _, h => exact absurd h (by unfold mIt; exact Bool.false_ne_true)
    | _ :: _ :: _ :: _ :: _, _, h => exact absurd h (by unfold mIt; exact Bool.false_ne_true)
    | [_, _, _], _ :: _, h => exact absurd h (by unfold mIt; exact Bool.false_ne_true)
end
end Hw
set_option Elab.async false
set_option linter.all false
set_option maxRecDepth 100000
set_option maxHeartbeats 1000000
/-! statements: readings -/
namespace Hw
open PySem PySem.Spec PyProof.Rows L2
def Pin (io : List Nat) (σ σ' : Sig) : Prop := σ'.length = σ.length ∧ ∀ i ∈ io, σ'[i]? = σ[i]?
theorem Pin.refl {io : List Nat} {σ : Sig} : Pin io σ σ := ⟨rfl, fun _ _ => rfl⟩
theorem Pin.trans {io : List Nat} {σ σ1 σ2 : Sig} (h : Pin io σ σ1) (h2 : Pin io σ1 σ2) : Pin io σ σ2 := ⟨h2.1.trans h.1, fun i hi => (h2.2 i hi).trans (h.2 i hi)⟩
theorem Pin.set {io : List Nat} {σ : Sig} {i : Nat} {o : Option V} (h : i ∉ io) : Pin io σ (σ.set i o) := ⟨by rw [List.length_set], fun j hj => List.getElem?_set_ne fun e => h (by rw [e]; exact hj)⟩
def SPost (R : RC) (io : List Nat) (D : Ends) (σ : Sig) (H : Hp) (f pr : Fp) : Option SR → Prop
  | some (.nx Γ') => ∀ σ' H' f', Stp H f pr H' f' → Pin io σ σ' → St0 R.K Γ' σ' H' f' pr → D.nx σ' H'
  | some (.bk Γ') => ∀ σ' H' f', Stp H f pr H' f' → Pin io σ σ' → St0 R.K Γ' σ' H' f' pr → D.bk σ' H'
  | some (.ct Γ') => ∀ σ' H' f', Stp H f pr H' f' → Pin io σ σ' → St0 R.K Γ' σ' H' f' pr → D.ct σ' H'
  | some (.rt t Γ') => ∀ v σ' H' f', Stp H f pr H' f' → Pin io σ σ' → St1 R.K Γ' σ' H' f' pr v t → D.rt v H'
  | some (.ex x Γ') => ∀ C σ' H' f', R.mg x = some (.ref C) → Stp H f pr H' f' → Pin io σ σ' → St0 R.K Γ' σ' H' f' pr → R.W (.ref C) none σ' H'
  | none => False
def tS (R : RC) (io : List Nat) (s : CS) : TS := fun D σ H => ∃ Γ f pr, St0 R.K Γ σ H f pr ∧ SPost R io D σ H f pr (exS R.F s Γ)
def tSs (R : RC) (io : List Nat) (ss : List CS) : TS := fun D σ H => ∃ Γ f pr, St0 R.K Γ σ H f pr ∧ SPost R io D σ H f pr (exB R.F ss Γ)
section
variable {R : RC} {io : List Nat} {D : Ends} {σ : Sig} {H : Hp} {f pr : Fp}
theorem SPost.after {σ1 : Sig} {H1 : Hp} {f1 : Fp} (s : Stp H f pr H1 f1) (p : Pin io σ σ1) {r : Option SR} (h : SPost R io D σ H f pr r) : SPost R io D σ1 H1 f1 pr r := by
  cases r with
  | none => exact h
  | some r =>
    cases r with
    | nx Γ' => exact fun σ' H' f' s2 p2 st => h σ' H' f' (s.trans s2 fun _ => Nat.le_refl _) (p.trans p2) st
    | bk Γ' => exact fun σ' H' f' s2 p2 st => h σ' H' f' (s.trans s2 fun _ => Nat.le_refl _) (p.trans p2) st
    | ct Γ' => exact fun σ' H' f' s2 p2 st => h σ' H' f' (s.trans s2 fun _ => Nat.le_refl _) (p.trans p2) st
    | rt t Γ' => exact fun v σ' H' f' s2 p2 st => h v σ' H' f' (s.trans s2 fun _ => Nat.le_refl _) (p.trans p2) st
    | ex x Γ' => exact fun C σ' H' f' hm s2 p2 st => h C σ' H' f' hm (s.trans s2 fun _ => Nat.le_refl _) (p.trans p2) st
theorem St1.store {K : PySem.W.Frag} {Γ : List Tr} {v : V} {t : Tr} {i : Nat} (st : St1 K Γ σ H f pr v t) : St0 K (Γ.set i t) (σ.set i (some v)) H f pr := by
  obtain ⟨h1, h2, g, ga, hs, hg, hl⟩ := st
  exact ⟨h1, h2, _, fun _ => 0, RepS.store (i := i) hs (.mk hg), trivial, fun a => by have := hl a; show 0 + (ga a + g a + pr a) ≤ f a; omega⟩
theorem set_read {i : Nat} {e : CE} (hi : i ∉ io) (h : tS R io (.set i e) D σ H) : tAsg (tE R e) (gName i) D σ H := by
  obtain ⟨Γ, f, pr, st, h⟩ := h
  simp only [exS] at h
  refine tE_of st ?_
  cases q : ev R.F e Γ with
  | none => simp only [q] at h; exact h
  | some r =>
    cases r with
    | ex y Γ1 => simp only [q] at h; exact fun C H' f' hm s st' => h C σ H' f' hm s .refl st'
    | ok t Γ1 =>
      simp only [q] at h
      intro v H1 f1 s1 st1
      exact h _ H1 f1 s1 (.set hi) st1.store
theorem setAll_ok {K : PySem.W.Frag} : ∀ {is : List Nat} {ts : List Tr} {xs : List V} {Γ Γ1 : List Tr} {σ : Sig} {pr ga : Fp} {Q : Sig → Hp → Prop}, St0 K Γ σ H f (padd pr ga) → RepL K H f ts xs ga → setAll Γ is ts = some Γ1 →
    (∀ i ∈ is, i ∉ io) → (∀ σ1, St0 K Γ1 σ1 H f pr → Pin io σ σ1 → Q σ1 H) → gNames is xs σ H Q
  | [], [], _, _, _, _, _, _, _, st, d, e, _, q => by
    unfold setAll at e; cases e
    unfold RepL at d
    exact ⟨d, q _ (st.less (le_padd _ _)) .refl⟩
  | [], _ :: _, _, _, _, _, _, _, _, _, _, e, _, _ => by unfold setAll at e; cases e
  | _ :: _, [], _, _, _, _, _, _, _, _, _, e, _, _ => by unfold setAll at e; cases e
  | i :: is, t :: ts, _, Γ, Γ1, σ, pr, ga, Q, st, hd, e, hi, q => by
    unfold setAll at e
    obtain ⟨v, r, g1, g2, rfl, h1, h2, hl⟩ := hd
    refine ⟨v, r, rfl, ?_⟩
    have st1 : St1 K Γ σ H f (padd pr g2) v t := by
      obtain ⟨k1, k2, g, gx, hs, _, kl⟩ := st
      exact ⟨k1, k2, g, g1, hs, h1, fun a => by have := kl a; have := hl a; simp only [padd_at] at *; omega⟩
    exact setAll_ok st1.store h2 e (fun j hj => hi j (List.mem_cons_of_mem _ hj)) fun σ1 s1 p => q σ1 s1 (Pin.trans (.set (hi i (List.mem_cons_self ..))) p)
theorem setT_read {K : PySem.W.Frag} (hK : K = R.K) {is : List Nat} {e : CE} (hi : ∀ i ∈ is, i ∉ io) (h : tS R io (.setT is e) D σ H) : tAsg (tE R e) (gTup K is.length (gNames is)) D σ H := by
  subst hK
  obtain ⟨Γ, f, pr, st, h⟩ := h
  simp only [exS] at h
  refine tE_of st ?_
  cases q : ev R.F e Γ with
  | none => simp only [q] at h; exact h
  | some r =>
    cases r with
    | ex y Γ1 => simp only [q] at h; exact fun C H' f' hm s st' => h C σ H' f' hm s .refl st'
    | ok t Γ1 =>
      simp only [q] at h
      intro v H1 f1 s1 st1
      cases q1 : partsOf t with
      | none => simp only [q1, Option.bind_none] at h; exact h.elim
      | some ts =>
        simp only [q1, Option.bind_some] at h
        by_cases hl : is.length = ts.length
        · rw [if_pos hl] at h
          cases q2 : setAll Γ1 is ts with
          | none => simp only [q2, Option.map_none] at h; exact h.elim
          | some Γ2 =>
            simp only [q2, Option.map_some] at h
            obtain ⟨ga, hg, st2⟩ := st1.out
            have key : ∃ a xs, v = .ref a ∧ SqT R.K H1 a xs ∧ RepL R.K H1 f1 ts xs ga := by
              cases t with
              | t xs =>
                unfold partsOf at q1; cases q1
                unfold Rep at hg
                obtain ⟨p, vs, rfl, h1, h2⟩ := hg
                exact ⟨p, vs, rfl, SqT.of (mn_ext _ _ _ _ h1), h2⟩
              | c d =>
                cases d with
                | tuple ds =>
                  unfold partsOf at q1; cases q1
                  unfold Rep Dr at hg
                  obtain ⟨p, vs, rfl, h1, h2⟩ := hg
                  exact ⟨p, vs, rfl, SqT.of (mn_ext _ _ _ _ h1), (RepL.settled h2).mono fun _ => Nat.zero_le _⟩
                | none => unfold partsOf at q1; cases q1
                | bool _ => unfold partsOf at q1; cases q1
                | int _ => unfold partsOf at q1; cases q1
                | str _ => unfold partsOf at q1; cases q1
                | list _ => unfold partsOf at q1; cases q1
                | dict _ => unfold partsOf at q1; cases q1
              | l _ => unfold partsOf at q1; cases q1
              | s _ => unfold partsOf at q1; cases q1
              | gone => unfold partsOf at q1; cases q1
            obtain ⟨a, xs, rfl, hsq, hr⟩ := key
            exact ⟨a, xs, rfl, hsq, by rw [hr.length, hl], setAll_ok (io := io) st2 hr q2 hi fun σ1 s2 p => h σ1 H1 f1 s1 p s2⟩
        · rw [if_neg hl] at h; exact h.elim
theorem par_read {i j : Nat} {a b : CE} (hi : i ∉ io) (hj : j ∉ io) (h : tS R io (.par i j a b) D σ H) : tPar i j (tAs R [.e a, .e b]) D σ H := by
  obtain ⟨Γ, f, pr, st, h⟩ := h
  refine ⟨Γ, f, pr, st, ?_⟩
  simp only [exS] at h
  simp only [evAs]
  cases q : ev R.F a Γ with
  | none => simp only [q] at h; exact h
  | some r =>
    cases r with
    | ex y Γ1 => simp only [q] at h; exact fun C H' f' hm s st' => h C σ H' f' hm s .refl st'
    | ok t Γ1 =>
      simp only [q] at h ⊢
      cases q2 : ev R.F b Γ1 with
      | none => simp only [q2] at h; exact h
      | some r2 =>
        cases r2 with
        | ex y Γ2 => simp only [q2] at h; exact fun C H' f' hm s st' => h C σ H' f' hm s .refl st'
        | ok u Γ2 =>
          simp only [q2, AR.cons] at h ⊢
          intro vs H1 f1 s1 st1
          obtain ⟨k1, k2, g, ga, hs, hg, hl⟩ := st1
          obtain ⟨v, r, g1, g2, rfl, h1, h2, h3⟩ := hg
          obtain ⟨w, r, g3, g4, rfl, h4, h5, h6⟩ := h2
          unfold RepA at h5
          subst h5
          refine ⟨v, w, rfl, h _ H1 f1 s1 (Pin.trans (.set hi) (.set hj)) ?_⟩
          have s2 : St1 R.K Γ2 σ H1 f1 (padd pr g3) v t := ⟨k1, k2, g, g1, hs, h1, fun a => by have := hl a; have := h3 a; have := h6 a; simp only [padd_at]; omega⟩
          have s3 := s2.store (i := i)
          have s4 : St1 R.K (Γ2.set i t) (σ.set i (some v)) H1 f1 pr w u := by
            obtain ⟨k1, k2, g, gx, hs, _, kl⟩ := s3
            exact ⟨k1, k2, g, g3, hs, h4, fun a => by have := kl a; simp only [padd_at] at this; omega⟩
          exact s4.store
theorem ex_read {e : CE} (h : tS R io (.ex e) D σ H) : tDrop (tE R e) D σ H := by
  obtain ⟨Γ, f, pr, st, h⟩ := h
  simp only [exS] at h
  refine tE_of st ?_
  cases q : ev R.F e Γ with
  | none => simp only [q] at h; exact h
  | some r =>
    cases r with
    | ex y Γ1 => simp only [q] at h; exact fun C H' f' hm s st' => h C σ H' f' hm s .refl st'
    | ok t Γ1 => simp only [q] at h; exact fun v H1 f1 s1 st1 => h σ H1 f1 s1 .refl st1.drop
theorem ret_read {e : CE} (h : tS R io (.ret e) D σ H) : tRet (tE R e) D σ H := by
  obtain ⟨Γ, f, pr, st, h⟩ := h
  simp only [exS] at h
  refine tE_of st ?_
  cases q : ev R.F e Γ with
  | none => simp only [q] at h; exact h
  | some r =>
    cases r with
    | ex y Γ1 => simp only [q] at h; exact fun C H' f' hm s st' => h C σ H' f' hm s .refl st'
    | ok t Γ1 => simp only [q] at h; exact fun v H1 f1 s1 st1 => h v σ H1 f1 s1 .refl st1
theorem retN_read (h : tS R io .retN D σ H) : tRetN D σ H := by
  obtain ⟨Γ, f, pr, st, h⟩ := h
  simp only [exS] at h
  exact h .non σ H f Stp.refl .refl (st.imp fun ga _ => by unfold Rep Dr; rfl)
theorem nil_read (h : tSs R io [] D σ H) : tNext D σ H := by
  obtain ⟨Γ, f, pr, st, h⟩ := h
  simp only [exB] at h
  exact h σ H f Stp.refl .refl st
theorem cons_read {s : CS} {ss : List CS} (h : tSs R io (s :: ss) D σ H) : tSeq (tS R io s) (tSs R io ss) D σ H := by
  obtain ⟨Γ, f, pr, st, h⟩ := h
  refine ⟨Γ, f, pr, st, ?_⟩
  simp only [exB] at h
  cases q : exS R.F s Γ with
  | none => simp only [q] at h; exact h
  | some r =>
    cases r with
    | nx Γ1 =>
      simp only [q] at h
      exact fun σ' H' f' s1 p st' => ⟨Γ1, f', pr, st', h.after s1 p⟩
    | bk Γ1 => simp only [q] at h; exact h
    | ct Γ1 => simp only [q] at h; exact h
    | rt t Γ1 => simp only [q] at h; exact h
    | ex x Γ1 => simp only [q] at h; exact h
theorem next_read {s : CS} (e : ∀ Γ, exS R.F s Γ = some (.nx Γ)) (h : tS R io s D σ H) : tNext D σ H := by
  obtain ⟨Γ, f, pr, st, h⟩ := h
  rw [e] at h
  exact h σ H f Stp.refl .refl st
theorem brk_read (h : tS R io .brk D σ H) : tBreak D σ H := by
  obtain ⟨Γ, f, pr, st, h⟩ := h
  simp only [exS] at h
  exact h σ H f Stp.refl .refl st
theorem cnt_read (h : tS R io .cnt D σ H) : tCont D σ H := by
  obtain ⟨Γ, f, pr, st, h⟩ := h
  simp only [exS] at h
  exact h σ H f Stp.refl .refl st
theorem ite_read {c : CT} {a b : List CS} (h : tS R io (.ite c a b) D σ H) : tIfS (tT R c) (tSs R io a) (tSs R io b) D σ H := by
  obtain ⟨Γ, f, pr, st, h⟩ := h
  simp only [exS] at h
  refine tT_of st ?_
  cases q : evT R.F c Γ with
  | none => simp only [q] at h; exact h
  | some r =>
    cases r with
    | ex y Γ1 => simp only [q] at h; exact fun C H' f' hm s st' => h C σ H' f' hm s .refl st'
    | ok k Γ1 =>
      intro H1 f1 s1 st1
      cases k with
      | true => simp only [q] at h; rw [if_pos rfl]; exact ⟨Γ1, f1, pr, st1, h.after s1 .refl⟩
      | false => simp only [q] at h; rw [if_neg Bool.false_ne_true]; exact ⟨Γ1, f1, pr, st1, h.after s1 .refl⟩
theorem rais_read {x : Str} {C : Addr} (hm : R.mg x = some (.ref C)) (h : tS R io (.rais x) D σ H) : R.W (.ref C) none σ H := by
  obtain ⟨Γ, f, pr, st, h⟩ := h
  simp only [exS] at h
  exact h C σ H f hm Stp.refl .refl st
theorem whl_read {n : Nat} {c : CT} {body : List CS} (h : tS R io (.whl n c body) D σ H) : tWhile (tT R c) (tSs R io body) D σ H := by
  obtain ⟨Γ, f, pr, st, h⟩ := h
  simp only [exS] at h
  refine ⟨fun m σ1 H1 => ∃ Γ1 f1, St0 R.K Γ1 σ1 H1 f1 pr ∧ SPost R io D σ1 H1 f1 pr (whL (fun Γ => evT R.F c Γ) (fun Γ => exB R.F body Γ) m Γ1), ⟨n, Γ, f, st, h⟩, ?_⟩
  rintro m σ1 H1 ⟨Γ1, f1, st1, h1⟩
  cases m with
  | zero => simp only [whL] at h1; exact h1.elim
  | succ m =>
    simp only [whL] at h1
    refine tT_of st1 ?_
    cases q : evT R.F c Γ1 with
    | none => simp only [q] at h1; exact h1
    | some r =>
      cases r with
      | ex y Γ2 => simp only [q] at h1; exact fun C H' f' hm s st' => h1 C σ1 H' f' hm s .refl st'
      | ok k Γ2 =>
        intro H2 f2 s2 st2
        cases k with
        | false => simp only [q] at h1; rw [if_neg Bool.false_ne_true]; exact h1 σ1 H2 f2 s2 .refl st2
        | true =>
          simp only [q] at h1
          rw [if_pos rfl]
          have h2 := h1.after s2 .refl
          refine ⟨fun σ3 H3 => ∃ Γ3 f3, St0 R.K Γ3 σ3 H3 f3 pr ∧ SPost R io D σ3 H3 f3 pr (whL (fun Γ => evT R.F c Γ) (fun Γ => exB R.F body Γ) m Γ3), fun σ3 H3 z => ⟨m, Nat.lt_succ_self m, z⟩, Γ2, f2, pr, st2, ?_⟩
          cases q2 : exB R.F body Γ2 with
          | none => simp only [q2] at h2; exact h2
          | some r2 =>
            cases r2 with
            | nx Γ3 => simp only [q2] at h2; exact fun σ' H' f' s3 p st3 => ⟨Γ3, f', st3, h2.after s3 p⟩
            | ct Γ3 => simp only [q2] at h2; exact fun σ' H' f' s3 p st3 => ⟨Γ3, f', st3, h2.after s3 p⟩
            | bk Γ3 => simp only [q2] at h2; exact h2
            | rt t Γ3 => simp only [q2] at h2; exact h2
            | ex x Γ3 => simp only [q2] at h2; exact h2
theorem for_read {tg : CTg} {it : CIt} {body : List CS} (hi : ∀ i ∈ tg.slots, i ∉ io) (h : tS R io (.for_ tg it body) D σ H) : tFor (tI R it) (gTg R.K tg) (tSs R io body) D σ H := by
  obtain ⟨Γ, f, pr, st, h⟩ := h
  simp only [exS] at h
  refine ⟨Γ, f, pr, st, ?_⟩
  cases q : evIt R.F it Γ with
  | none => simp only [q] at h; exact h
  | some r =>
    cases r with
    | ex y Γ1 => simp only [q] at h; exact fun C H' f' hm s st' => h C σ H' f' hm s .refl st'
    | ok ds Γ1 =>
      simp only [q] at h
      intro J H1 f1 s1 st1 wk
      have h := h.after s1 .refl
      refine ⟨fun i m σ2 H2 => ∃ Γ2 f2, i + m = ds.length ∧ Ext (mn H1 f1) (mn H2 f2) ∧ St0 R.K Γ2 σ2 H2 f2 pr ∧ SPost R io D σ2 H2 f2 pr (forL (fun Γ => exB R.F body Γ) (fun Γ d => bindTg Γ tg d) (ds.drop i) Γ2), ⟨ds.length, Γ1, f1, Nat.zero_add _, fun _ _ e => e, st1, h⟩, ?_⟩
      rintro i m σ2 H2 ⟨Γ2, f2, hm, ex2, st2, h2⟩
      have W := wk i H2 f2 st2.alc ex2
      by_cases hlt : i < ds.length
      · right
        have hd : ds.drop i = ds[i] :: ds.drop (i + 1) := List.drop_eq_getElem_cons hlt
        rw [hd] at h2
        obtain ⟨go, yl⟩ := W.1 ds[i] (List.getElem?_eq_getElem hlt)
        refine ⟨go, fun σ3 H3 => ∃ Γ2 f2, i + 1 + (m - 1) = ds.length ∧ Ext (mn H1 f1) (mn H3 f2) ∧ St0 R.K Γ2 σ3 H3 f2 pr ∧ SPost R io D σ3 H3 f2 pr (forL (fun Γ => exB R.F body Γ) (fun Γ d => bindTg Γ tg d) (ds.drop (i + 1)) Γ2),
          fun σ3 H3 ⟨Γ3, f3, e3, x3, s3, p3⟩ => ⟨m - 1, by omega, Γ3, f3, e3, x3, s3, p3⟩, fun x H' hy => ?_⟩
        obtain ⟨xe, dx⟩ := yl x H' hy
        obtain ⟨stg, sg⟩ := st2.grow xe
        have h3 := h2.after (sg pr) .refl
        simp only [forL] at h3
        cases qb : bindTg Γ2 tg ds[i] with
        | none => simp only [qb] at h3; exact h3.elim
        | some Γb =>
          simp only [qb] at h3
          refine bind_ok stg dx qb fun σ4 stb l4 o4 => ?_
          have h4 := h3.after (H1 := H') (f1 := f2) Stp.refl (σ1 := σ4) ⟨l4, fun j hj => o4 j fun z => hi j z hj⟩
          refine ⟨Γb, f2, pr, stb, ?_⟩
          have again : ∀ Γ5 σ5 H5 f5, Stp H' f2 pr H5 f5 → Pin io σ4 σ5 → St0 R.K Γ5 σ5 H5 f5 pr → SPost R io D σ4 H' f2 pr (forL (fun Γ => exB R.F body Γ) (fun Γ d => bindTg Γ tg d) (ds.drop (i + 1)) Γ5) →
              ∃ Γ2 f2, i + 1 + (m - 1) = ds.length ∧ Ext (mn H1 f1) (mn H5 f2) ∧ St0 R.K Γ2 σ5 H5 f2 pr ∧ SPost R io D σ5 H5 f2 pr (forL (fun Γ => exB R.F body Γ) (fun Γ d => bindTg Γ tg d) (ds.drop (i + 1)) Γ2) :=
            fun Γ5 σ5 H5 f5 s5 p5 st5 h5 => ⟨Γ5, f5, by omega, ex2.trans (((sg pr).trans s5 fun _ => Nat.le_refl _).ext), st5, h5.after s5 p5⟩
          cases q2 : exB R.F body Γb with
          | none => simp only [q2] at h4; exact h4
          | some r2 =>
            cases r2 with
            | nx Γ3 => simp only [q2] at h4; exact fun σ' H'' f' s5 p5 st5 => again Γ3 σ' H'' f' s5 p5 st5 h4
            | ct Γ3 => simp only [q2] at h4; exact fun σ' H'' f' s5 p5 st5 => again Γ3 σ' H'' f' s5 p5 st5 h4
            | bk Γ3 => simp only [q2] at h4; exact h4
            | rt t Γ3 => simp only [q2] at h4; exact h4
            | ex x Γ3 => simp only [q2] at h4; exact h4
      · left
        have e : ds.drop i = [] := List.drop_eq_nil_of_le (Nat.le_of_not_lt hlt)
        rw [e] at h2
        simp only [forL] at h2
        exact ⟨W.2 (by omega), h2 σ2 H2 f2 Stp.refl .refl st2⟩
end
end Hw
set_option Elab.async false
set_option linter.all false
set_option maxRecDepth 100000
set_option maxHeartbeats 1000000
/-! lists that are written at a path -/
namespace Hw
open PySem PySem.Spec PyProof.Rows L2
section
variable {K : PySem.W.Frag} {H : Hp} {f : Fp}
theorem RepL.upd : ∀ {ts : List Tr} {vs : List V} {g : Fp} {j : Nat} {y : Tr}, RepL K H f ts vs g → ts[j]? = some y →
    ∃ v gj gr, vs[j]? = some v ∧ Rep K H f y v gj ∧ (∀ a, gj a + gr a ≤ g a) ∧ ∀ {H' : Hp} {f' : Fp} {y' : Tr} {gj' : Fp}, Stp H f gr H' f' → Rep K H' f' y' v gj' → RepL K H' f' (ts.set j y') vs (padd gj' gr)
  | [], _, _, _, _, _, e => by simp at e
  | x :: ts, _, _, 0, _, h, e => by
    obtain ⟨v, r, g1, g2, rfl, h1, h2, h3⟩ := h
    simp at e; subst e
    exact ⟨v, g1, g2, rfl, h1, h3, fun {H' f' y' gj'} s q => ⟨v, r, gj', g2, rfl, q, h2.stp s fun _ => Nat.le_refl _, fun _ => Nat.le_refl _⟩⟩
  | x :: ts, _, _, j + 1, _, h, e => by
    obtain ⟨v, r, g1, g2, rfl, h1, h2, h3⟩ := h
    obtain ⟨w, gj, gr, e1, q1, q2, q3⟩ := RepL.upd (j := j) h2 (by simpa using e)
    refine ⟨w, gj, padd g1 gr, by simpa using e1, q1, fun a => by have := h3 a; have := q2 a; simp only [padd_at]; omega, fun {H' f' y' gj'} s q => ?_⟩
    exact ⟨v, r, g1, padd gj' gr, rfl, h1.stp s (le_padd _ _), q3 (s.weak (le_padd' _ _)) q, fun a => by simp only [padd_at]; omega⟩
theorem RepL.store : ∀ {ts : List Tr} {vs : List V} {g g' : Fp} {j : Nat} {y : Tr} {v : V}, RepL K H f ts vs g → Rep K H f y v g' → RepL K H f (ts.set j y) (vs.set j v) (padd g' g)
  | [], _, _, _, _, _, _, h, _ => by unfold RepL at h; subst h; unfold RepL; rfl
  | x :: ts, _, _, g', 0, _, _, h, q => by
    obtain ⟨v, r, g1, g2, rfl, h1, h2, h3⟩ := h
    exact ⟨_, r, g', g2, rfl, q, h2, fun a => by have := h3 a; simp only [padd_at]; omega⟩
  | x :: ts, _, _, g', j + 1, _, _, h, q => by
    obtain ⟨v, r, g1, g2, rfl, h1, h2, h3⟩ := h
    exact ⟨v, _, g1, padd g' g2, rfl, h1, RepL.store (j := j) h2 q, fun a => by have := h3 a; simp only [padd_at]; omega⟩
theorem RepL.cat : ∀ {ts : List Tr} {vs : List V} {g g' : Fp} {us : List Tr} {ws : List V}, RepL K H f ts vs g → RepL K H f us ws g' → RepL K H f (ts ++ us) (vs ++ ws) (padd g g')
  | [], _, g, g', _, _, h, q => by unfold RepL at h; subst h; exact q.mono (le_padd' _ _)
  | x :: ts, _, g, g', _, _, h, q => by
    obtain ⟨v, r, g1, g2, rfl, h1, h2, h3⟩ := h
    exact ⟨v, _, g1, padd g2 g', rfl, h1, RepL.cat h2 q, fun a => by have := h3 a; simp only [padd_at]; omega⟩
def nodeV (H : Hp) : V → List Int → V → Prop
  | x, [], o => o = x
  | x, k :: ks, o => ∃ p vs v, x = .ref p ∧ (H p = some (.lst vs) ∨ H p = some (.tup vs)) ∧ atI vs k = some v ∧ nodeV H v ks o
theorem put_node {F : List Tr → Option (List Tr)} {o : V} (hf : ∀ a, f a ≤ 1) : ∀ {ks : List Int} {t t2 : Tr} {x : V} {g : Fp}, Rep K H f t x g → putP F ks t = some t2 → (∀ a, g a ≤ f a) → nodeV H x ks o →
    ∃ p vs xs ys g1, (ks = [] → t = .l xs) ∧ o = .ref p ∧ H p = some (.lst vs) ∧ F xs = some ys ∧ RepL K H f xs vs g1 ∧ (∀ a, one p a + g1 a ≤ g a) ∧
      ∀ {vs2 : List V} {gx : Fp}, RepL K (upd H p (.lst vs2)) f ys vs2 gx → ∃ g2, Rep K (upd H p (.lst vs2)) f t2 x g2 ∧ ∀ a, g2 a + g1 a ≤ g a + gx a
  | [], t, t2, x, g, h, e, hg, nd => by
    unfold nodeV at nd
    subst nd
    cases t with
    | l xs =>
      unfold putP at e
      obtain ⟨ys, e1, e2⟩ := Option.map_eq_some_iff.mp e
      subst e2
      unfold Rep at h
      obtain ⟨p, vs, g1, rfl, hp, rl, l⟩ := h
      exact ⟨p, vs, xs, ys, g1, fun _ => rfl, rfl, hp, e1, rl, l, fun {vs2 gx} q => ⟨padd (one p) gx, by unfold Rep; exact ⟨p, vs2, gx, rfl, upd_same, q, fun _ => Nat.le_refl _⟩, fun a => by have := l a; simp only [padd_at]; omega⟩⟩
    | c d => unfold putP at e; cases e
    | t d => unfold putP at e; cases e
    | s d => unfold putP at e; cases e
    | gone => unfold putP at e; cases e
  | k :: ks, t, t2, x, g, h, e, hg, nd => by
    obtain ⟨p', vs', v', rfl, hor, hat, nd⟩ := nd
    cases t with
    | l xs =>
      unfold putP at e
      obtain ⟨j, ej, e⟩ := Option.bind_eq_some_iff.mp e
      obtain ⟨y, ey, e⟩ := Option.bind_eq_some_iff.mp e
      obtain ⟨y2, e2, e⟩ := Option.map_eq_some_iff.mp e
      subst e
      unfold Rep at h
      obtain ⟨p0, vs, g', hp', hp, rl, l⟩ := h
      cases hp'
      have hvs : vs' = vs := by rcases hor with z | z <;> (rw [hp] at z; cases z); rfl
      subst hvs
      obtain ⟨v, gj, gr, ev, rv, lj, up⟩ := rl.upd ey
      have : v' = v := by
        unfold atI at hat
        rw [rl.length] at hat
        rw [ej] at hat
        exact Option.some.inj ((show vs'[j]? = some v' from hat).symm.trans ev)
      subst this
      obtain ⟨p, ws, zs, ys, g1, _, rfl, hpp, eF, rl1, l1, fin⟩ := put_node hf rv e2 (fun a => by have := lj a; have := l a; have := hg a; omega) nd
      have pp : 1 ≤ gj p := by have := l1 p; rw [one_self] at this; omega
      have ne : p' ≠ p := fun z => by subst z; have := l p'; have := lj p'; have := hg p'; have := hf p'; rw [one_self] at *; omega
      have sw : ∀ vs2, Stp H f gr (upd H p (.lst vs2)) f := fun vs2 => stp_write (K := K) (by have := lj p; have := l p; have := hg p; omega) gr (by have := lj p; have := l p; have := hg p; have := hf p; omega)
      refine ⟨p, ws, zs, ys, g1, (fun z => by cases z), rfl, hpp, eF, rl1, fun a => by have := l1 a; have := lj a; have := l a; omega, fun {vs2 gx} q => ?_⟩
      obtain ⟨g2, r2, l2⟩ := fin q
      refine ⟨padd (one p') (padd g2 gr), ?_, fun a => by have := l2 a; have := lj a; have := l a; simp only [padd_at]; omega⟩
      unfold Rep
      exact ⟨p', vs', padd g2 gr, rfl, by rw [upd_ne ne]; exact hp, up (sw vs2) r2, fun _ => Nat.le_refl _⟩
    | t xs =>
      unfold putP at e
      obtain ⟨j, ej, e⟩ := Option.bind_eq_some_iff.mp e
      obtain ⟨y, ey, e⟩ := Option.bind_eq_some_iff.mp e
      obtain ⟨y2, e2, e⟩ := Option.map_eq_some_iff.mp e
      subst e
      unfold Rep at h
      obtain ⟨p0, vs, hp', hp, rl⟩ := h
      cases hp'
      have hp0 := mn_some hp
      have hvs : vs' = vs := by rcases hor with z | z <;> (rw [hp0.2] at z; cases z); rfl
      subst hvs
      obtain ⟨v, gj, gr, ev, rv, lj, up⟩ := rl.upd ey
      have : v' = v := by
        unfold atI at hat
        rw [rl.length] at hat
        rw [ej] at hat
        exact Option.some.inj ((show vs'[j]? = some v' from hat).symm.trans ev)
      subst this
      obtain ⟨p, ws, zs, ys, g1, _, rfl, hpp, eF, rl1, l1, fin⟩ := put_node hf rv e2 (fun a => by have := lj a; have := hg a; omega) nd
      have pp : 1 ≤ gj p := by have := l1 p; rw [one_self] at this; omega
      have ne : p' ≠ p := fun z => by subst z; have := lj p'; have := hg p'; omega
      have sw : ∀ vs2, Stp H f gr (upd H p (.lst vs2)) f := fun vs2 => stp_write (K := K) (by have := lj p; have := hg p; omega) gr (by have := lj p; have := hg p; have := hf p; omega)
      refine ⟨p, ws, zs, ys, g1, (fun z => by cases z), rfl, hpp, eF, rl1, fun a => by have := l1 a; have := lj a; omega, fun {vs2 gx} q => ?_⟩
      obtain ⟨g2, r2, l2⟩ := fin q
      refine ⟨padd g2 gr, ?_, fun a => by have := l2 a; have := lj a; simp only [padd_at]; omega⟩
      unfold Rep
      exact ⟨p', vs', rfl, mn_of hp0.1 (by rw [upd_ne ne]; exact hp0.2), up (sw vs2) r2⟩
    | c d => unfold putP at e; cases e
    | s d => unfold putP at e; cases e
    | gone => unfold putP at e; cases e
theorem put_fin {Γ : List Tr} {σ : Sig} {F : List Tr → Option (List Tr)} {ks : List Int} {t t2 : Tr} {v0 o : V} {pr ga g : Fp} {i : Nat} (st : St0 K Γ σ H f (padd (padd pr ga) g)) (r : Rep K H f t v0 g) (hp : putP F ks t = some t2) (nd : nodeV H v0 ks o)
    (hi : Γ[i]? = some .gone) (hv : σ[i]? = some (some v0)) :
    ∃ p vs xs ys, (ks = [] → t = .l xs) ∧ o = .ref p ∧ H p = some (.lst vs) ∧ F xs = some ys ∧ vs.length = xs.length ∧
      ∀ {vs2 : List V}, (∀ g1, Stp H f ga (upd H p (.lst vs2)) f → RepL K (upd H p (.lst vs2)) f xs vs g1 → ∃ gx, RepL K (upd H p (.lst vs2)) f ys vs2 gx ∧ ∀ a, gx a ≤ ga a + g1 a) →
        Stp H f pr (upd H p (.lst vs2)) f ∧ St0 K (Γ.set i t2) σ (upd H p (.lst vs2)) f pr := by
  obtain ⟨h1, h2, gs, _, hs, _, hl⟩ := id st
  obtain ⟨p, vs, xs, ys, g1, tt, rfl, hpp, eF, rl, l1, fin⟩ := put_node h1 r hp (fun a => by have := hl a; simp only [padd_at] at this; omega) nd
  refine ⟨p, vs, xs, ys, tt, rfl, hpp, eF, rl.length, fun {vs2} q => ?_⟩
  have pp : 1 ≤ g p := by have := l1 p; rw [one_self] at this; omega
  have fp : 1 ≤ f p := by have := hl p; simp only [padd_at] at this; omega
  have z : gs p = 0 ∧ pr p = 0 ∧ ga p = 0 ∧ g1 p = 0 := by
    have := hl p; have := h1 p; have := l1 p; simp only [padd_at, one_self] at *; omega
  have sw : ∀ gg : Fp, gg p = 0 → Stp H f gg (upd H p (.lst vs2)) f := fun gg hz => stp_write (K := K) fp gg hz
  obtain ⟨gx, rx, lx⟩ := q g1 (sw ga z.2.2.1) (rl.stp (sw g1 z.2.2.2) fun _ => Nat.le_refl _)
  obtain ⟨g2, r2, l2⟩ := fin rx
  refine ⟨sw pr z.2.1, h1, fun a ha => ?_, _, fun _ => 0, RepS.put (hs.stp (sw gs z.1) fun _ => Nat.le_refl _) hi hv (.mk r2), trivial, fun a => by have := hl a; have := l2 a; have := lx a; simp only [padd_at] at *; omega⟩
  by_cases e : a = p
  · subst e; exact ⟨_, upd_same⟩
  · obtain ⟨u, hu⟩ := h2 a ha
    exact ⟨u, by rw [upd_ne e]; exact hu⟩
end
section
variable {R : RC} {io : List Nat} {D : Ends} {σ : Sig} {Q : VK}
theorem walk_path {F : List Tr → Option (List Tr)} : ∀ {es : List CE} {Γ Γ2 : List Tr} {f pr : Fp} {H : Hp} {x : V} {t t2 : Tr} {g : Fp} {avs : List AV} {ks : List Int} {Q : VK}, St0 R.K Γ σ H f pr → Rep R.K H f t x g → (∀ a, g a ≤ pr a) →
    evAs R.F (es.map .e) Γ = some (.ok avs Γ2) → idxs avs = some ks → putP F ks t = some t2 →
    (∀ o H' f', Stp H f pr H' f' → St0 R.K Γ2 σ H' f' pr → (∀ H'' f'', Stp H' f' pr H'' f'' → nodeV H'' x ks o) → Q o H') → pthK R es x σ H Q
  | [], Γ, Γ2, f, pr, H, x, t, t2, g, avs, ks, Q, st, r, lg, ea, ek, ep, q => by
    simp only [List.map_nil, evAs] at ea
    cases ea
    unfold idxs at ek
    cases ek
    exact q x H f Stp.refl st fun _ _ _ => rfl
  | e :: es, Γ, Γ2, f, pr, H, x, t, t2, g, avs, ks, Q, st, r, lg, ea, ek, ep, q => by
    simp only [List.map_cons, evAs] at ea
    show tE R e σ H fun y H1 => rIx R.K x y H1 fun z H2 => pthK R es z σ H2 Q
    refine tE_of st ?_
    cases q1 : ev R.F e Γ with
    | none => simp only [q1] at ea; cases ea
    | some rr =>
      cases rr with
      | ex y Γ1 => simp only [q1] at ea; cases ea
      | ok te Γ1 =>
        simp only [q1] at ea
        cases q2 : evAs R.F (es.map .e) Γ1 with
        | none => simp only [q2, AR.cons] at ea; cases ea
        | some r2 =>
          cases r2 with
          | ex y Γ3 => simp only [q2, AR.cons] at ea; cases ea
          | ok avs2 Γ3 =>
            simp only [q2, AR.cons] at ea
            cases ea
            unfold idxs at ek
            cases q3 : asInt te with
            | none => simp only [q3] at ek; cases ek
            | some k =>
              cases q4 : idxs avs2 with
              | none => simp only [q3, q4] at ek; cases ek
              | some ks2 =>
                simp only [q3, q4] at ek
                cases ek
                intro v H1 f1 s1 st1
                have hk : v = .int k := by
                  obtain ⟨_, _, _, ga, _, hg, _⟩ := id st1
                  exact asInt_rep ⟨ga, hg⟩ q3
                subst hk
                have r1 := r.stp s1 lg
                have st2 := st1.drop
                have stay : ∀ {p : Addr} {u : HO}, 1 ≤ g p ∨ f1 p = 0 → H1 p = some u → ∀ {H' : Hp} {f' : Fp}, Stp H1 f1 pr H' f' → H' p = some u := fun {p u} hor e {H' f'} s => hor.elim (fun z => s.2 p u (Nat.le_trans z (lg p)) e) fun z => (s.1 p u e z).1
                have fin : ∀ {p : Addr} {vs : List V} {z : V}, x = .ref p → (1 ≤ g p ∨ f1 p = 0) → (H1 p = some (.lst vs) ∨ H1 p = some (.tup vs)) → atI vs k = some z → ∀ o H' f', Stp H1 f1 pr H' f' → St0 R.K Γ2 σ H' f' pr → (∀ H'' f'', Stp H' f' pr H'' f'' → nodeV H'' z ks2 o) → Q o H' :=
                  fun {p vs z} hx hor hh hz o H' f' s st' nd => q o H' f' (s1.trans s fun _ => Nat.le_refl _) st' fun H'' f'' s2 => ⟨p, vs, z, hx, hh.imp (fun e => stay hor e (s.trans s2 fun _ => Nat.le_refl _)) (fun e => stay hor e (s.trans s2 fun _ => Nat.le_refl _)), hz, nd H'' f'' s2⟩
                cases t with
                | l xs =>
                  unfold putP at ep
                  obtain ⟨j, ej, ep⟩ := Option.bind_eq_some_iff.mp ep
                  obtain ⟨y, ey, ep⟩ := Option.bind_eq_some_iff.mp ep
                  obtain ⟨y2, e2, ep⟩ := Option.map_eq_some_iff.mp ep
                  unfold Rep at r1
                  obtain ⟨p, vs, g', rfl, hp, rl, l⟩ := r1
                  obtain ⟨z, gz, ez, rz, lz⟩ := rl.get ey
                  have hz : atI vs k = some z := by
                    unfold atI
                    rw [rl.length, ej]; exact ez
                  exact .inl ⟨p, vs, k, z, rfl, rfl, SqL.of hp, hz, walk_path st2 rz (fun a => by have := lz a; have := l a; have := lg a; omega) q2 q4 e2 (fin rfl (.inl (by have := l p; rw [one_self] at this; omega)) (.inl hp) hz)⟩
                | t xs =>
                  unfold putP at ep
                  obtain ⟨j, ej, ep⟩ := Option.bind_eq_some_iff.mp ep
                  obtain ⟨y, ey, ep⟩ := Option.bind_eq_some_iff.mp ep
                  obtain ⟨y2, e2, ep⟩ := Option.map_eq_some_iff.mp ep
                  unfold Rep at r1
                  obtain ⟨p, vs, rfl, hp, rl⟩ := r1
                  obtain ⟨z, gz, ez, rz, lz⟩ := rl.get ey
                  have hp0 := mn_some hp
                  have hz : atI vs k = some z := by
                    unfold atI
                    rw [rl.length, ej]; exact ez
                  exact .inr (.inl ⟨p, vs, k, z, rfl, rfl, SqT.of hp0.2, hz, walk_path st2 rz (fun a => by have := lz a; have := lg a; omega) q2 q4 e2 (fin rfl (.inr hp0.1) (.inr hp0.2) hz)⟩)
                | c d => unfold putP at ep; cases ep
                | s d => unfold putP at ep; cases ep
                | gone => unfold putP at ep; cases ep
theorem setp_read {i : Nat} {es : List CE} {l e : CE} {H : Hp} (h : tS R io (.setp i es l e) D σ H) : tAsg (tE R e) (gSub (tPth R (tVar i) es) (tE R l) rSetL) D σ H := by
  obtain ⟨Γ, f, pr, st, h⟩ := h
  simp only [exS] at h
  refine tE_of st ?_
  cases q : ev R.F e Γ with
  | none => simp only [q] at h; exact h
  | some r =>
    cases r with
    | ex y Γ1 => simp only [q] at h; exact fun C H' f' hm s st' => h C σ H' f' hm s .refl st'
    | ok tv Γ1 =>
      simp only [q] at h
      intro v H1 f1 s1 st1
      cases e1 : Γ1[i]? with
      | none => simp only [e1] at h; exact h.elim
      | some t =>
        by_cases n : t = .gone
        · subst n; simp only [e1] at h; exact h.elim
        have h : SPost R io D σ H f pr (match evAs R.F (es.map .e) (Γ1.set i .gone) with
            | some (.ok avs Γ2) => (match idxs avs with
              | some ks => (match ev R.F l Γ2 with
                | some (.ok tl Γ3) => (match asInt tl, Γ3[i]? with
                  | some k, some .gone => (match putP (setAt k tv) ks t with
                    | some t' => some (.nx (Γ3.set i t'))
                    | none => none)
                  | _, _ => none)
                | _ => none)
              | none => none)
            | _ => none) := by
          cases t <;> first | exact absurd rfl n | (simp only [e1] at h; exact h)
        cases q2 : evAs R.F (es.map .e) (Γ1.set i .gone) with
        | none => simp only [q2] at h; exact h.elim
        | some r2 =>
          cases r2 with
          | ex y Γ2 => simp only [q2] at h; exact h.elim
          | ok avs Γ2 =>
            simp only [q2] at h
            cases q3 : idxs avs with
            | none => simp only [q3] at h; exact h.elim
            | some ks =>
              simp only [q3] at h
              cases q4 : ev R.F l Γ2 with
              | none => simp only [q4] at h; exact h.elim
              | some r4 =>
                cases r4 with
                | ex y Γ3 => simp only [q4] at h; exact h.elim
                | ok tl Γ3 =>
                  simp only [q4] at h
                  cases q5 : asInt tl with
                  | none => simp only [q5] at h; exact h.elim
                  | some k =>
                    cases e3 : Γ3[i]? with
                    | none => simp only [q5, e3] at h; exact h.elim
                    | some t3 =>
                      cases t3 with
                      | gone =>
                        simp only [q5, e3] at h
                        cases q6 : putP (setAt k tv) ks t with
                        | none => simp only [q6] at h; exact h.elim
                        | some t' =>
                          simp only [q6] at h
                          obtain ⟨ga, hg, st2⟩ := st1.out
                          obtain ⟨v0, g, hv, r0, st3⟩ := st2.takeOut e1 n
                          show tPth R (tVar i) es σ H1 _
                          rw [tPth_eq]
                          refine ⟨v0, hv, walk_path st3 r0 (le_padd' _ _) q2 q3 q6 fun o H2 f2 s2 st4 nd => ?_⟩
                          refine tE_of st4 ?_
                          rw [q4]
                          intro iv H3 f3 s3 st5
                          have hk : iv = .int k := by
                            obtain ⟨_, _, _, gb, _, hgb, _⟩ := id st5
                            exact asInt_rep ⟨gb, hgb⟩ q5
                          subst hk
                          have s23 := s2.trans s3 fun _ => Nat.le_refl _
                          have r3 := r0.stp s23 (le_padd' _ _)
                          have hg3 := hg.stp s23 fun a => by simp only [padd_at]; omega
                          obtain ⟨p, vs, xs, ys, _, rfl, hp, eF, hl, fin⟩ := put_fin st5.drop r3 q6 (nd H3 f3 s3) e3 hv
                          unfold setAt at eF
                          obtain ⟨j, ej, ey⟩ := Option.map_eq_some_iff.mp eF
                          subst ey
                          obtain ⟨sw, st6⟩ := fin (vs2 := vs.set j v) fun g1 sg rl => ⟨padd ga g1, rl.store (hg3.stp sg fun _ => Nat.le_refl _), fun a => Nat.le_refl _⟩
                          refine ⟨p, vs, k, j, rfl, rfl, hp, by rw [hl]; exact ej, ?_⟩
                          exact h σ _ f3 (s1.trans ((s23.weak fun a => by simp only [padd_at]; omega).trans sw fun _ => Nat.le_refl _) fun _ => Nat.le_refl _) .refl st6
                      | c d => simp only [q5, e3] at h; exact h.elim
                      | l d => simp only [q5, e3] at h; exact h.elim
                      | t d => simp only [q5, e3] at h; exact h.elim
                      | s d => simp only [q5, e3] at h; exact h.elim
theorem node_ty {H : Hp} {f : Fp} {F : List Tr → Option (List Tr)} {ks : List Int} {t t2 : Tr} {x o : V} {g pr : Fp} {Γ : List Tr} (st : St0 R.K Γ σ H f (padd pr g)) (r : Rep R.K H f t x g) (hp : putP F ks t = some t2) (nd : nodeV H x ks o) : tyV R.K "list" o H := by
  obtain ⟨h1, h2, gs, _, hs, _, hl⟩ := id st
  obtain ⟨p, vs, xs, ys, g1, _, rfl, hpp, _⟩ := put_node h1 r hp (fun a => by have := hl a; simp only [padd_at] at this; omega) nd
  exact ty_list hpp
theorem app_read {i : Nat} {e0 : CE} {es : List CE} {e : CE} {H : Hp} (h : tS R io (.app i (e0 :: es) e) D σ H) : tDrop (tBM R.K "list" rAppend (tPth R (tVar i) (e0 :: es)) (tAs R [.e e])) D σ H := by
  obtain ⟨Γ, f, pr, st, h⟩ := h
  simp only [exS] at h
  revert h
  generalize e0 :: es = es
  intro h
  cases e1 : Γ[i]? with
  | none => simp only [e1] at h; exact h.elim
  | some t =>
    by_cases n : t = .gone
    · subst n; simp only [e1] at h; exact h.elim
    have h : SPost R io D σ H f pr (match evAs R.F (es.map .e) (Γ.set i .gone) with
        | some (.ok avs Γ2) => (match idxs avs with
          | some ks => (match ev R.F e Γ2 with
            | some (.ok v Γ3) => (match Γ3[i]? with
              | some .gone => (match putP (appAt v) ks t with
                | some t' => some (.nx (Γ3.set i t'))
                | none => none)
              | _ => none)
            | _ => none)
          | none => none)
        | _ => none) := by
      cases t <;> first | exact absurd rfl n | (simp only [e1] at h; exact h)
    cases q2 : evAs R.F (es.map .e) (Γ.set i .gone) with
    | none => simp only [q2] at h; exact h.elim
    | some r2 =>
      cases r2 with
      | ex y Γ2 => simp only [q2] at h; exact h.elim
      | ok avs Γ2 =>
        simp only [q2] at h
        cases q3 : idxs avs with
        | none => simp only [q3] at h; exact h.elim
        | some ks =>
          simp only [q3] at h
          cases q4 : ev R.F e Γ2 with
          | none => simp only [q4] at h; exact h.elim
          | some r4 =>
            cases r4 with
            | ex y Γ3 => simp only [q4] at h; exact h.elim
            | ok tv Γ3 =>
              simp only [q4] at h
              cases e3 : Γ3[i]? with
              | none => simp only [e3] at h; exact h.elim
              | some t3 =>
                cases t3 with
                | gone =>
                  simp only [e3] at h
                  cases q6 : putP (appAt tv) ks t with
                  | none => simp only [q6] at h; exact h.elim
                  | some t' =>
                    simp only [q6] at h
                    obtain ⟨v0, g, hv, r0, st3⟩ := st.takeOut e1 n
                    show tPth R (tVar i) es σ H _
                    rw [tPth_eq]
                    refine ⟨v0, hv, walk_path st3 r0 (le_padd' _ _) q2 q3 q6 fun o H2 f2 s2 st4 nd => ?_⟩
                    refine ⟨node_ty st4 (r0.stp s2 (le_padd' _ _)) q6 (nd H2 f2 Stp.refl), Γ2, f2, padd pr g, st4, ?_⟩
                    simp only [evAs, q4, AR.cons]
                    intro ws H3 f3 s3 st5
                    obtain ⟨gb, hgb, st6⟩ := st5.out
                    obtain ⟨v, rr, g1, g2, rfl, hv1, hv2, hv3⟩ := hgb
                    unfold RepA at hv2
                    subst hv2
                    have r3 := r0.stp (s2.trans s3 fun _ => Nat.le_refl _) (le_padd' _ _)
                    have st7 : St0 R.K Γ3 σ H3 f3 (padd (padd pr g1) g) := st6.less fun a => by have := hv3 a; simp only [padd_at]; omega
                    obtain ⟨p, vs, xs, ys, _, rfl, hp, eF, hl, fin⟩ := put_fin st7 r3 q6 (nd H3 f3 s3) e3 hv
                    unfold appAt at eF
                    split at eF
                    · rename_i hz
                      cases eF
                      obtain ⟨sw, st8⟩ := fin (vs2 := vs ++ [v]) fun g0 sg rl => ⟨padd g0 g1, rl.cat (by exact ⟨v, [], g1, fun _ => 0, rfl, hv1.stp sg fun _ => Nat.le_refl _, by unfold RepL; rfl, fun a => Nat.le_refl _⟩), fun a => by simp only [padd_at]; omega⟩
                      refine ⟨p, vs, v, rfl, rfl, hp, by rw [hl]; exact hz, ?_⟩
                      exact h σ _ f3 ((((s2.trans s3 fun _ => Nat.le_refl _).weak (le_padd _ _))).trans sw fun _ => Nat.le_refl _) .refl st8
                    · cases eF
                | c d => simp only [e3] at h; exact h.elim
                | l d => simp only [e3] at h; exact h.elim
                | t d => simp only [e3] at h; exact h.elim
                | s d => simp only [e3] at h; exact h.elim
theorem app0_read {i : Nat} {e : CE} {H : Hp} (h : tS R io (.app i [] e) D σ H) : tDrop (tBM R.K "list" rAppend (tVar i) (tAs R [.e e])) D σ H := by
  obtain ⟨Γ, f, pr, st, h⟩ := h
  simp only [exS] at h
  cases e1 : Γ[i]? with
  | none => simp only [e1] at h; exact h.elim
  | some t =>
    cases t with
    | l xs0 =>
      simp only [e1] at h
      obtain ⟨v0, g0, hv, r0, _⟩ := st.takeOut e1 (by simp)
      obtain ⟨p0, vs0, rfl, hp0, _, _⟩ := pop_core st e1 hv
      refine ⟨.ref p0, hv, ty_list hp0, Γ, f, pr, st, ?_⟩
      simp only [evAs]
      cases q : ev R.F e Γ with
      | none => simp only [q] at h; exact h
      | some r =>
        cases r with
        | ex y Γ1 => simp only [q] at h; exact fun C H' f' hm s st' => h C σ H' f' hm s .refl st'
        | ok tv Γ1 =>
          simp only [q, AR.cons] at h ⊢
          intro ws H1 f1 s1 st1
          obtain ⟨gb, hgb, st2⟩ := st1.out
          obtain ⟨v, rr, g1, g2, rfl, hv1, hv2, hv3⟩ := hgb
          unfold RepA at hv2
          subst hv2
          cases e3 : Γ1[i]? with
          | none => simp only [e3] at h; exact h.elim
          | some t3 =>
            cases t3 with
            | l xs =>
              simp only [e3] at h
              by_cases hz : xs.length < sizeLine
              · rw [if_pos hz] at h
                obtain ⟨w, g, hw, r3, st3⟩ := st2.takeOut e3 (by simp)
                rw [hv] at hw; cases hw
                have st7 : St0 R.K (Γ1.set i .gone) σ H1 f1 (padd (padd pr g1) g) := st3.less fun a => by have := hv3 a; simp only [padd_at]; omega
                have hi : (Γ1.set i .gone)[i]? = some .gone := List.getElem?_set_self (List.getElem?_eq_some_iff.mp e3).1
                obtain ⟨p, vs, xs', ys, tt, ho, hp, eF, hl, fin⟩ := put_fin (F := appAt tv) (ks := []) (o := .ref p0) (t2 := .l (xs ++ [tv])) st7 r3 (by unfold putP appAt; rw [if_pos hz]; rfl) rfl hi hv
                cases ho
                cases tt rfl
                unfold appAt at eF
                rw [if_pos hz] at eF
                cases eF
                obtain ⟨sw, st8⟩ := fin (vs2 := vs ++ [v]) fun g0 sg rl => ⟨padd g0 g1, rl.cat (by exact ⟨v, [], g1, fun _ => 0, rfl, hv1.stp sg fun _ => Nat.le_refl _, by unfold RepL; rfl, fun a => Nat.le_refl _⟩), fun a => by simp only [padd_at]; omega⟩
                rw [List.set_set] at st8
                exact ⟨p0, vs, v, rfl, rfl, hp, by rw [hl]; exact hz, h σ _ f1 (s1.trans sw fun _ => Nat.le_refl _) .refl st8⟩
              · rw [if_neg hz] at h; exact h.elim
            | c d => simp only [e3] at h; exact h.elim
            | gone => simp only [e3] at h; exact h.elim
            | t d => simp only [e3] at h; exact h.elim
            | s d => simp only [e3] at h; exact h.elim
    | c d => simp only [e1] at h; exact h.elim
    | gone => simp only [e1] at h; exact h.elim
    | t d => simp only [e1] at h; exact h.elim
    | s d => simp only [e1] at h; exact h.elim
theorem ext_read {i : Nat} {e : CE} {H : Hp} (h : tS R io (.ext i e) D σ H) : tDrop (tBM R.K "list" rExtend (tVar i) (tAs R [.e e])) D σ H := by
  obtain ⟨Γ, f, pr, st, h⟩ := h
  simp only [exS] at h
  cases e1 : Γ[i]? with
  | none => simp only [e1] at h; exact h.elim
  | some t =>
    cases t with
    | l xs0 =>
      simp only [e1] at h
      obtain ⟨v0, g0, hv, r0, _⟩ := st.takeOut e1 (by simp)
      obtain ⟨p0, vs0, rfl, hp0, _, _⟩ := pop_core st e1 hv
      refine ⟨.ref p0, hv, ty_list hp0, Γ, f, pr, st, ?_⟩
      simp only [evAs]
      cases q : ev R.F e Γ with
      | none => simp only [q] at h; exact h
      | some r =>
        cases r with
        | ex y Γ1 => simp only [q] at h; exact fun C H' f' hm s st' => h C σ H' f' hm s .refl st'
        | ok tv Γ1 =>
          simp only [q, AR.cons] at h ⊢
          intro ws H1 f1 s1 st1
          obtain ⟨gb, hgb, st2⟩ := st1.out
          obtain ⟨v, rr, g1, g2, rfl, hv1, hv2, hv3⟩ := hgb
          unfold RepA at hv2
          subst hv2
          cases e3 : Γ1[i]? with
          | none => simp only [e3] at h; exact h.elim
          | some t3 =>
            cases t3 with
            | l xs =>
              simp only [e3] at h
              have key : ∃ us, (match tv with
                  | .l vs => some vs
                  | .c (.list ds) => some (ds.map .c)
                  | _ => none) = some us ∧ SPost R io D σ H f pr (if xs.length + us.length ≤ sizeLine then some (.nx (Γ1.set i (.l (xs ++ us)))) else none) := by
                cases tv with
                | l vs => exact ⟨vs, rfl, h⟩
                | c d =>
                  cases d with
                  | list ds => exact ⟨_, rfl, by rw [List.length_map]; exact h⟩
                  | none => exact h.elim
                  | bool _ => exact h.elim
                  | int _ => exact h.elim
                  | str _ => exact h.elim
                  | tuple _ => exact h.elim
                  | dict _ => exact h.elim
                | t _ => exact h.elim
                | s _ => exact h.elim
                | gone => exact h.elim
              obtain ⟨us, hus, h⟩ := key
              have rep : ∃ b zs g3, v = .ref b ∧ H1 b = some (.lst zs) ∧ RepL R.K H1 f1 us zs g3 ∧ ∀ a, g3 a ≤ g1 a := by
                cases tv with
                | l vs =>
                  cases hus
                  unfold Rep at hv1
                  obtain ⟨b, zs, g3, rfl, hb, rl, l⟩ := hv1
                  exact ⟨b, zs, g3, rfl, hb, rl, fun a => by have := l a; omega⟩
                | c d =>
                  cases d with
                  | list ds =>
                    cases hus
                    unfold Rep Dr at hv1
                    obtain ⟨b, zs, rfl, hb, rl⟩ := hv1
                    exact ⟨b, zs, _, rfl, mn_ext _ _ _ _ hb, RepL.settled rl, fun a => Nat.zero_le _⟩
                  | none => cases hus
                  | bool _ => cases hus
                  | int _ => cases hus
                  | str _ => cases hus
                  | tuple _ => cases hus
                  | dict _ => cases hus
                | t _ => cases hus
                | s _ => cases hus
                | gone => cases hus
              obtain ⟨b, zs, g3, rfl, hb, ru, lu⟩ := rep
              by_cases hz : xs.length + us.length ≤ sizeLine
              · rw [if_pos hz] at h
                obtain ⟨w, g, hw, r3, st3⟩ := st2.takeOut e3 (by simp)
                rw [hv] at hw; cases hw
                have st7 : St0 R.K (Γ1.set i .gone) σ H1 f1 (padd (padd pr g3) g) := st3.less fun a => by have := hv3 a; have := lu a; simp only [padd_at]; omega
                have hi : (Γ1.set i .gone)[i]? = some .gone := List.getElem?_set_self (List.getElem?_eq_some_iff.mp e3).1
                obtain ⟨p, vs, xs', ys, tt, ho, hp, eF, hl, fin⟩ := put_fin (F := extAt us) (ks := []) (o := .ref p0) (t2 := .l (xs ++ us)) st7 r3 (by unfold putP extAt; rw [if_pos hz]; rfl) rfl hi hv
                cases ho
                cases tt rfl
                unfold extAt at eF
                rw [if_pos hz] at eF
                cases eF
                obtain ⟨sw, st8⟩ := fin (vs2 := vs ++ zs) fun g0 sg rl => ⟨padd g0 g3, rl.cat (ru.stp sg fun _ => Nat.le_refl _), fun a => by simp only [padd_at]; omega⟩
                rw [List.set_set] at st8
                exact ⟨p0, b, vs, zs, rfl, rfl, hp, hb, by rw [hl, ru.length]; exact hz, h σ _ f1 (s1.trans sw fun _ => Nat.le_refl _) .refl st8⟩
              · rw [if_neg hz] at h; exact h.elim
            | c d => simp only [e3] at h; exact h.elim
            | gone => simp only [e3] at h; exact h.elim
            | t d => simp only [e3] at h; exact h.elim
            | s d => simp only [e3] at h; exact h.elim
    | c d => simp only [e1] at h; exact h.elim
    | gone => simp only [e1] at h; exact h.elim
    | t d => simp only [e1] at h; exact h.elim
    | s d => simp only [e1] at h; exact h.elim
theorem clr_read {i : Nat} {es : List CE} {H : Hp} (h : tS R io (.clr i es) D σ H) : tDrop (tBM0 R.K "list" rClear (tPth R (tVar i) es)) D σ H := by
  obtain ⟨Γ, f, pr, st, h⟩ := h
  simp only [exS] at h
  cases e1 : Γ[i]? with
  | none => simp only [e1] at h; exact h.elim
  | some t =>
    by_cases n : t = .gone
    · subst n; simp only [e1] at h; exact h.elim
    have h : SPost R io D σ H f pr (match evAs R.F (es.map .e) (Γ.set i .gone) with
        | some (.ok avs Γ2) => (match idxs avs with
          | some ks => (match Γ2[i]? with
            | some .gone => (match putP (fun _ => some []) ks t with
              | some t' => some (.nx (Γ2.set i t'))
              | none => none)
            | _ => none)
          | none => none)
        | _ => none) := by
      cases t <;> first | exact absurd rfl n | (simp only [e1] at h; exact h)
    cases q2 : evAs R.F (es.map .e) (Γ.set i .gone) with
    | none => simp only [q2] at h; exact h.elim
    | some r2 =>
      cases r2 with
      | ex y Γ2 => simp only [q2] at h; exact h.elim
      | ok avs Γ2 =>
        simp only [q2] at h
        cases q3 : idxs avs with
        | none => simp only [q3] at h; exact h.elim
        | some ks =>
          simp only [q3] at h
          cases e3 : Γ2[i]? with
          | none => simp only [e3] at h; exact h.elim
          | some t3 =>
            cases t3 with
            | gone =>
              simp only [e3] at h
              cases q6 : putP (fun _ => some []) ks t with
              | none => simp only [q6] at h; exact h.elim
              | some t' =>
                simp only [q6] at h
                obtain ⟨v0, g, hv, r0, st3⟩ := st.takeOut e1 n
                show tPth R (tVar i) es σ H _
                rw [tPth_eq]
                refine ⟨v0, hv, walk_path st3 r0 (le_padd' _ _) q2 q3 q6 fun o H2 f2 s2 st4 nd => ?_⟩
                have r3 := r0.stp s2 (le_padd' _ _)
                have st7 : St0 R.K Γ2 σ H2 f2 (padd (padd pr zfp) g) := st4.less fun a => by simp only [padd_at]; show pr a + 0 + g a ≤ _; omega
                obtain ⟨p, vs, xs, ys, _, rfl, hp, eF, hl, fin⟩ := put_fin st7 r3 q6 (nd H2 f2 Stp.refl) e3 hv
                cases eF
                obtain ⟨sw, st8⟩ := fin (vs2 := []) fun g0 sg rl => ⟨zfp, by unfold RepL; rfl, fun a => Nat.zero_le _⟩
                exact ⟨ty_list hp, p, vs, rfl, rfl, hp, h σ _ f2 ((s2.weak (le_padd _ _)).trans sw fun _ => Nat.le_refl _) .refl st8⟩
            | c d => simp only [e3] at h; exact h.elim
            | l d => simp only [e3] at h; exact h.elim
            | t d => simp only [e3] at h; exact h.elim
            | s d => simp only [e3] at h; exact h.elim
end
end Hw
set_option Elab.async false
set_option linter.all false
set_option maxRecDepth 100000
set_option maxHeartbeats 2000000
/-! statements: the matcher, soundness -/
namespace Hw
open PySem PySem.Spec PyProof.Rows L2
structure MS where
  M : MC
  io : List Nat
  exs : List Str
def isCompE : Expr → Bool
  | .ListComp .. => true
  | .SetComp .. => true
  | .DictComp .. => true
  | _ => false
def isFunK : ScopeKind → Bool
  | .function => true
  | _ => false
def locS (sc : Scope) (x : Str) : Bool := match sc.names.lookup x with
  | some .local => true
  | _ => false
/-- a comprehension stored in a name: the name is stored in the block -/
def lcStore (M : MC) (x : Str) (p : Pos) : Expr → Bool
  | .ListComp _ _ s pos => isFunK M.sc.kind && locS M.sc x && (p.line == pos.line) && !(s.names.any fun (n, k) => n == x && (k == .local || k == .cell))
  | _ => false
/-- a name that a block inside reads: nothing is swapped with it -/
def cellS (sc : Scope) (x : Str) : Bool := match sc.names.lookup x with
  | some .cell => true
  | _ => false
def CE.isLc : CE → Bool
  | .lc .. => true
  | _ => false
def mPath (M : MC) (i : Nat) (es : List CE) (o : Expr) : Bool := match pathOf o with
  | some (x, bs) => M.vis i x && mEs M es bs
  | none => false
mutual
def mS (Z : MS) : CS → Stmt → Bool
  | .set i e, .Assign [.Name x p] v _ => Z.M.loc i x && !(Z.io.contains i) && (if e.isLc then lcStore Z.M x p v || cellS Z.M.sc x else !(isCompE v)) && mE Z.M e v
  | .setT is e, .Assign [.Tuple es _ _] v _ => mNames Z.M is es && (is.all fun i => !(Z.io.contains i)) && !(isTupE v) && !(isCompE v) && mE Z.M e v
  | .par i j a b, .Assign [.Tuple [.Name x px, .Name y py] _ _] (.Tuple [v, w] _ _) _ => decide (Z.M.N[i]? = some x) && decide (Z.M.N[j]? = some y) && locS Z.M.sc x && locS Z.M.sc y && !(x == y) && (py.line == px.line) && isFunK Z.M.sc.kind && !(Z.io.contains i) && !(Z.io.contains j) && !([v, w].all (foldedForSure 8)) && !([v, w].all (constantsAlone 8)) && (plainE v && plainE w && (mE Z.M a v && mE Z.M b w))
  | .setp i es l e, .Assign [.Subscript o ix _] v _ => mPath Z.M i es o && plainE ix && mE Z.M l ix && mE Z.M e v
  | .app i es e, .Expr (.Call (.Attribute o m ap) [a] [] cp) _ => decide (m = "append") && mPath Z.M i es o && (ap.endLine == cp.line) && plainE a && mE Z.M e a
  | .ext i e, .Expr (.Call (.Attribute (.Name x _) m ap) [a] [] cp) _ => decide (m = "extend") && Z.M.vis i x && (ap.endLine == cp.line) && plainE a && mE Z.M e a
  | .clr i es, .Expr (.Call (.Attribute o m ap) [] [] cp) _ => decide (m = "clear") && mPath Z.M i es o && (ap.endLine == cp.line)
  | .ex e, .Expr v _ => !(isCompE v) && mE Z.M e v
  | .ret e, .Return (some v) _ => mE Z.M e v
  | .retN, .Return none _ => true
  | .ite c a b, .If t x y _ => mT Z.M c t && mB Z a x && mB Z b y
  | .for_ tg it body, .For t i b [] _ => mTg Z.M tg t && (tg.slots.all fun i => !(Z.io.contains i)) && mIt Z.M (isTupE t) it i && mB Z body b
  | .whl _ c body, .While t b [] _ => mT Z.M c t && mB Z body b
  | .brk, .Break _ => true
  | .cnt, .Continue _ => true
  | .pass, .Pass _ => true
  | .doc, .Expr (.Constant (.str _) _ _) _ => true
  | .rais x, .Raise (some (.Call (.Name y _) [.Constant (.str _) _ _] [] _)) none _ => decide (x = y) && Z.exs.contains x && Z.M.glo x
  | _, _ => false
def mB (Z : MS) : List CS → List Stmt → Bool
  | [], [] => true
  | s :: ss, t :: ts => mS Z s t && mB Z ss ts
  | _, _ => false
end
structure YOk (R : RC) (Z : MS) (X : Cx) : Prop extends XOk R Z.M X where
  hp : PassesOwn (model X.prog X.w) X.A X.env X.xe
  exc : ∀ x ∈ Z.exs, ∃ C bmB B newId initId, ExcBaseFacts B newId initId bmB ∧ PySem.W.excIn X.K C bmB newId = true ∧ X.mg x = some (.ref C) ∧ PySem.W.keepIn X.K (.ref C) = true ∧ Raises X (.ref C)
theorem sw_no {v : Expr} {t : Option Expr} {n : Nat} {env : Env} (h : isCompE v = false) : swapsWith v t n env = pure false := by
  cases v <;> first | rfl | cases h
theorem sw_cell {v : Expr} {x : Str} {p : Pos} {n : Nat} {env : Env} (h : env.scope.names.lookup x = some .cell) : swapsWith v (some (.Name x p)) n env = pure false := by
  have kx : env.kindOf x = some .cell := h
  cases v <;> first | rfl | (unfold swapsWith; simp only [kx]; rw [show ((some NameKind.cell : Option NameKind) == some NameKind.local) = false from rfl, Bool.and_false, Bool.false_and, Bool.false_and])
theorem sws_no {v : Expr} {t : Expr} {n : Nat} {env : Env} (h : isCompE v = false) : swapsWithSole [t] v n env = pure false := sw_no h
theorem sws_sub {v o i : Expr} {p : Pos} {n : Nat} {env : Env} : swapsWithSole [.Subscript o i p] v n env = pure false := by
  cases v <;> rfl
theorem sst_no {es : List Expr} {k : Nat} {p : Pos} {v : Expr} {env : Env} (h : isTupE v = false) : swappedStores [.Tuple es k p] v env = pure none := by
  cases v <;> first | rfl | cases h
theorem sst_sub {o i : Expr} {p : Pos} {v : Expr} {env : Env} : swappedStores [.Subscript o i p] v env = pure none := by
  cases v <;> rfl
theorem isFunK_of {k : ScopeKind} (h : isFunK k = true) : k = .function := by
  cases k <;> first | rfl | cases h
theorem locS_of {sc : Scope} {x : Str} (h : locS sc x = true) : sc.names.lookup x = some .local := by
  unfold locS at h
  split at h
  · assumption
  · cases h
theorem sst_par {x y : Str} {px py pt p2 : Pos} {v w : Expr} {kt k2 : Nat} {env : Env} (hk : env.scope.kind = .function) (hx : env.scope.names.lookup x = some .local) (hy : env.scope.names.lookup y = some .local) (hxy : (x == y) = false) (hl : (py.line == px.line) = true)
    (pv : plainE v = true) (pw : plainE w = true) (h1 : ([v, w].all (foldedForSure 8)) = false) (h2 : ([v, w].all (constantsAlone 8)) = false) : swappedStores [.Tuple [.Name x px, .Name y py] kt pt] (.Tuple [v, w] k2 p2) env = pure (some [x, y]) := by
  have kx : env.kindOf x = some .local := hx
  have ky : env.kindOf y = some .local := hy
  have hb : env.blockKind = .function := by unfold Env.blockKind; rw [hk]; rfl
  have sv : ∀ e : Expr, plainE e = true → (match e with | .Starred .. => true | _ => false) = false := fun e h => by cases e <;> first | rfl | cases h
  unfold swappedStores
  have e1 : ([v, w].any fun | .Starred .. => true | _ => false) = false := by
    rw [List.any_cons, List.any_cons, List.any_nil]
    have := sv v pv; have := sv w pw
    cases v <;> first | (cases pv; done) | (cases w <;> first | rfl | cases pw)
  have e2 : (x == x) = true := beq_self_eq_true x
  have e3 : ((([Expr.Name x px, Expr.Name y py] : List Expr).filterMap fun
    | .Name id pos => if env.kindOf id == some .local && pos.line == px.line then some id else none
    | _ => none)) = [x, y] := by
    simp only [List.filterMap_cons, List.filterMap_nil, kx, ky, hl]
    simp
  have e4 : [x, y].eraseDups = [x, y] := by
    rw [List.eraseDups_cons]
    have : (y == x) = false := by
      cases q : (y == x) with
      | false => rfl
      | true => rw [eq_of_beq q] at hxy; rw [e2] at hxy; cases hxy
    simp [List.filter, this]
    rfl
  have e5 : ∀ N : List Str, N = [x, y] → (N.length != 2 || N.eraseDups.length != N.length) = false := fun N e => by subst e; rw [e4]; rfl
  simp only [hb]
  refine (if_neg ?_).trans ((if_neg ?_).trans ((if_neg ?_).trans ((if_neg ?_).trans ((if_neg ?_).trans ?_))))
  · exact Bool.false_ne_true
  · exact fun h => Bool.false_ne_true (e1.symm.trans h)
  · exact fun h => Bool.false_ne_true ((e5 _ e3).symm.trans h)
  · rw [h1]; exact Bool.false_ne_true
  · rw [h2]; exact Bool.false_ne_true
  · exact congrArg (fun z => pure (some z)) e3
theorem path_base {o : Expr} {x : Str} {bs : List Expr} {m : Str} {env : Env} (h : pathOf o = some (x, bs)) (w : Sem Value) : attributeBase o m env w = w := by
  cases o <;> first | rfl | (unfold pathOf at h; cases h; done)
theorem as_sub {o i : Expr} {pos : Pos} {env : Env} (h : plainE i = true) : ∀ v, assign (.Subscript o i pos) env v = (do
      let ov ← holding [v] (eval o env)
      let iv ← holding [v, ov] (eval i env)
      standAt pos
      holding [v, ov, iv] (setItem ov iv v)
      release [v, ov, iv] []) := by
  intro v
  cases i <;> first | rfl | cases h
theorem pst {R : RC} {io : List Nat} {X : Cx} {st : Stmt} {s : CS} {t : TS} (h : PS X st t) (i : ∀ {D : Ends} {σ : Sig} {H : Hp}, tS R io s D σ H → t D σ H) : PS X st (tS R io s) := PS.imp h fun _ _ _ q => i q
theorem notin {io : List Nat} {i : Nat} (h : (!(io.contains i)) = true) : i ∉ io := by
  intro z
  rw [Bool.not_eq_true', ← Bool.not_eq_true] at h
  exact h (List.contains_iff_mem.mpr z)
theorem notins {io is : List Nat} (h : (is.all fun i => !(io.contains i)) = true) : ∀ i ∈ is, i ∉ io := fun i hi => notin (List.all_eq_true.mp h i hi)
theorem pe_mpath {R : RC} {M : MC} {X : Cx} (ok : XOk R M X) {i : Nat} {es : List CE} {o : Expr} (h : mPath M i es o = true) : PE X o (tPth R (tVar i) es) ∧ ∀ {m : Str} {env : Env} (w : Sem Value), attributeBase o m env w = w := by
  unfold mPath at h
  split at h
  · rename_i x bs q
    rw [Bool.and_eq_true] at h
    obtain ⟨h1, h2⟩ := sEs es ok h.2
    exact ⟨pe_path ok q h.1 h1 h2, fun w => path_base q w⟩
  · cases h
theorem plain_few {a : Expr} {cp : Pos} {env : Env} (h : plainE a = true) : ((backTo cp (starEach [a] env)).all (fun x => !x.1) && (backToKw cp (keywordEach [] env)).all (fun x => x.1.isSome)
      && decide (([a] : List Expr).length + ([] : List Keyword).length + (if ([] : List Keyword).isEmpty then 0 else 1) < 30)) = true := by rw [star_of h]; rfl
section
variable {R : RC} {Z : MS} {X : Cx}
theorem s_set (ok : YOk R Z X) {i : Nat} {e : CE} {st : Stmt} (h : mS Z (.set i e) st = true) : PS X st (tS R Z.io (.set i e)) := by
  cases st <;> first | (exact absurd h (by unfold mS; exact Bool.false_ne_true)) | skip
  rename_i tgs v pos
  match tgs, h with
  | [], h => exact absurd h (by unfold mS; exact Bool.false_ne_true)
  | _ :: _ :: _, h => exact absurd h (by unfold mS; simp)
  | [tg], h =>
    cases tg <;> first | (exact absurd h (by unfold mS; exact Bool.false_ne_true)) | skip
    rename_i x p
    unfold mS at h
    simp only [Bool.and_eq_true] at h
    obtain ⟨⟨⟨hl, hio⟩, hsw⟩, he⟩ := h
    obtain ⟨h1, h2, h3⟩ := ok.lo hl
    cases hlc : e.isLc with
    | false =>
      rw [hlc] at hsw
      simp only [Bool.false_eq_true, if_false, Bool.not_eq_true'] at hsw
      exact pst (ps_set ok.ndX h1 h2 (sE e ok.toXOk he) (sw_no hsw) h3) fun q => set_read (notin hio) q
    | true =>
      rw [hlc, if_pos rfl, Bool.or_eq_true] at hsw
      rcases hsw with hsw | hsw
      rotate_left
      · have hcell : X.env.scope.names.lookup x = some .cell := by
          rw [ok.sc]
          unfold cellS at hsw
          split at hsw
          · assumption
          · cases hsw
        exact pst (ps_set ok.ndX h1 h2 (sE e ok.toXOk he) (sw_cell hcell) h3) fun q => set_read (notin hio) q
      cases e <;> first | (cases hlc; done) | skip
      rename_i own tg it cond elt
      cases v <;> first | (cases hsw; done) | skip
      rename_i ee gens s spos
      unfold lcStore at hsw
      simp only [Bool.and_eq_true, Bool.not_eq_true'] at hsw
      obtain ⟨⟨⟨k1, k2⟩, k3⟩, k4⟩ := hsw
      match gens, he with
      | [⟨t, i0, ifs, 0⟩], he =>
        unfold mE at he
        simp only [Bool.and_eq_true, List.all_eq_true, List.contains_iff_mem] at he
        obtain ⟨⟨⟨⟨hb, ht⟩, ho⟩, hi⟩, hc, he⟩ := he
        have hmap : (ownN Z.M own).map (·.2) = own := by unfold ownN; rw [List.map_map]; exact List.map_id _
        have hblk : blkC X.N X.env.scope s (ownN Z.M own) = true := by rw [ok.N, ok.sc]; exact hb
        have hpi := sIt it ok.toXOk hi
        have hloc : X.env.scope.names.lookup x = some .local := by rw [ok.sc]; exact locS_of k2
        have hkind : X.env.scope.kind = .function := by rw [ok.sc]; exact isFunK_of k1
        have := ps_setLc (spos := pos) (pos := spos) (elt := ee) (ifs := ifs) ok.calm ok.ndX h1 hloc (sw_true hkind hloc k3 k4) hpi (blkOk_by hblk) (fun s0 H C cl fp => pg_tg (ok.toXOk.blk s0 H s C cl fp) ht) (fun s0 H C cl fp => sC cond (ok.toXOk.blk s0 H s C cl fp) hc) (fun s0 H C cl fp => sE elt (ok.toXOk.blk s0 H s C cl fp) he) (it_folded hi _)
        rw [hmap] at this
        exact pst this fun q => lc_read ho (set_read (notin hio) q)
      | [], he => exact absurd he (by unfold mE; exact Bool.false_ne_true)
      | _ :: _ :: _, he => exact absurd he (by unfold mE; simp)
      | [⟨_, _, _, Nat.succ _⟩], he => exact absurd he (by unfold mE; exact Bool.false_ne_true)
theorem s_setT (ok : YOk R Z X) {is : List Nat} {e : CE} {st : Stmt} (h : mS Z (.setT is e) st = true) : PS X st (tS R Z.io (.setT is e)) := by
  cases st <;> first | (exact absurd h (by unfold mS; exact Bool.false_ne_true)) | skip
  rename_i tgs v pos
  match tgs, h with
  | [], h => exact absurd h (by unfold mS; exact Bool.false_ne_true)
  | _ :: _ :: _, h => exact absurd h (by unfold mS; simp)
  | [tg], h =>
    cases tg <;> first | (exact absurd h (by unfold mS; exact Bool.false_ne_true)) | skip
    rename_i es k p
    unfold mS at h
    simp only [Bool.and_eq_true, Bool.not_eq_true'] at h
    obtain ⟨⟨⟨⟨hn, hio⟩, ht⟩, hc⟩, he⟩ := h
    obtain ⟨h1, h2, h3⟩ := pgs_nm ok.toXOk hn
    have := ps_asg (pos := pos) (sE e ok.toXOk he) (pg_tup (k := k) (pos := p) ok.calm h1 h2 h3) (sws_no hc) (sst_no ht)
    exact pst this fun q => setT_read ok.K (fun i hi => notin (by have := List.all_eq_true.mp hio i hi; exact this)) q
theorem s_par (ok : YOk R Z X) {i j : Nat} {a b : CE} {st : Stmt} (h : mS Z (.par i j a b) st = true) : PS X st (tS R Z.io (.par i j a b)) := by
  unfold mS at h
  split at h
  all_goals first | (cases ‹CS.par i j a b = _›) | (cases h)
  rename_i x px y py kt pt v w k2 p2 pos
  simp only [Bool.and_eq_true, Bool.not_eq_true', decide_eq_true_eq] at h
  obtain ⟨⟨⟨⟨⟨⟨⟨⟨⟨⟨⟨hi, hj⟩, hx⟩, hy⟩, hxy⟩, hl⟩, hk⟩, hio⟩, hjo⟩, hf⟩, hc⟩, ⟨pv, pw⟩, ha, hb⟩ := h
  have hx' : X.env.scope.names.lookup x = some .local := by rw [ok.sc]; exact locS_of hx
  have hy' : X.env.scope.names.lookup y = some .local := by rw [ok.sc]; exact locS_of hy
  have hk' : X.env.scope.kind = .function := by rw [ok.sc]; exact isFunK_of hk
  have hij : i ≠ j := fun e => by
    subst e
    rw [hi] at hj
    have := Option.some.inj hj
    subst this
    rw [beq_self_eq_true] at hxy
    cases hxy
  have pa := PA.imp (pa_cons' pv (sE a ok.toXOk ha) (pa_cons' pw (sE b ok.toXOk hb) pa_nil)) (t' := tAs R [.e a, .e b]) fun σ H Q q => tE.mono (as_cons q) fun _ _ q => tE.mono (as_cons q) fun _ _ q => as_nil q
  have := ps_par (pos := pos) (px := px) (py := py) (pt := pt) (kt := kt) (k2 := k2) (pt2 := p2) ok.calm ok.ndX (by rw [ok.N]; exact hi) (by rw [ok.N]; exact hj) hij hx' hy' pa (sst_par hk' hx' hy' hxy hl pv pw hf hc) rfl
  exact pst this fun q => par_read (notin (by rw [hio]; rfl)) (notin (by rw [hjo]; rfl)) q
theorem s_setp (ok : YOk R Z X) {i : Nat} {es : List CE} {l e : CE} {st : Stmt} (h : mS Z (.setp i es l e) st = true) : PS X st (tS R Z.io (.setp i es l e)) := by
  unfold mS at h
  split at h
  all_goals first | (cases ‹CS.setp i es l e = _›) | (cases h)
  rename_i o ix p v pos
  simp only [Bool.and_eq_true] at h
  obtain ⟨⟨⟨hp, hx⟩, hl⟩, he⟩ := h
  obtain ⟨h1, _⟩ := pe_mpath ok.toXOk hp
  have := ps_asg (pos := pos) (sE e ok.toXOk he) (pg_sub (pos := p) h1 (sE l ok.toXOk hl) set_list (as_sub hx)) sws_sub sst_sub
  exact pst this fun q => setp_read q
theorem s_app (ok : YOk R Z X) {i : Nat} {es : List CE} {e : CE} {st : Stmt} (h : mS Z (.app i es e) st = true) : PS X st (tS R Z.io (.app i es e)) := by
  unfold mS at h
  split at h
  all_goals first | (cases ‹CS.app i es e = _›) | (cases h)
  rename_i o m ap a cp pos
  simp only [Bool.and_eq_true, decide_eq_true_eq] at h
  obtain ⟨⟨⟨⟨rfl, hp⟩, hl⟩, ha⟩, he⟩ := h
  obtain ⟨h1, h2⟩ := pe_mpath ok.toXOk hp
  have pa := PA.imp (pa_cons' ha (sE e ok.toXOk he) pa_nil) (t' := tAs R [.e e]) fun σ H Q q => tE.mono (as_cons q) fun _ _ q => as_nil q
  have := ps_expr (pos := pos) (pe_bm PySem.F.plainAttrs_list PySem.F.slot_list_append PySem.F.type_list_append mt_append h1 pa (h2 _) (plain_few ha) hl (star_of ha _ _) rfl) rfl
  rw [ok.K] at this
  cases es with
  | nil => exact pst this fun q => app0_read q
  | cons e0 es => exact pst this fun q => app_read q
theorem s_ext (ok : YOk R Z X) {i : Nat} {e : CE} {st : Stmt} (h : mS Z (.ext i e) st = true) : PS X st (tS R Z.io (.ext i e)) := by
  unfold mS at h
  split at h
  all_goals first | (cases ‹CS.ext i e = _›) | (cases h)
  rename_i x xp m ap a cp pos
  simp only [Bool.and_eq_true, decide_eq_true_eq] at h
  obtain ⟨⟨⟨⟨rfl, hp⟩, hl⟩, ha⟩, he⟩ := h
  have pa := PA.imp (pa_cons' ha (sE e ok.toXOk he) pa_nil) (t' := tAs R [.e e]) fun σ H Q q => tE.mono (as_cons q) fun _ _ q => as_nil q
  have := ps_expr (pos := pos) (pe_bm PySem.F.plainAttrs_list PySem.F.slot_list_extend PySem.F.type_list_extend mt_extend (pe_slot (pos := xp) ok.toXOk hp) pa rfl (plain_few ha) hl (star_of ha _ _) rfl) rfl
  rw [ok.K] at this
  exact pst this fun q => ext_read q
theorem s_clr (ok : YOk R Z X) {i : Nat} {es : List CE} {st : Stmt} (h : mS Z (.clr i es) st = true) : PS X st (tS R Z.io (.clr i es)) := by
  unfold mS at h
  split at h
  all_goals first | (cases ‹CS.clr i es = _›) | (cases h)
  rename_i o m ap cp pos
  simp only [Bool.and_eq_true, decide_eq_true_eq] at h
  obtain ⟨⟨rfl, hp⟩, hl⟩ := h
  obtain ⟨h1, h2⟩ := pe_mpath ok.toXOk hp
  have := ps_expr (pos := pos) (pe_bm0 PySem.F.plainAttrs_list PySem.F.slot_list_clear PySem.F.type_list_clear mt_clear h1 (h2 _) hl) rfl
  rw [ok.K] at this
  exact pst this fun q => clr_read q
end
mutual
theorem sS : ∀ (s : CS) {R : RC} {Z : MS} {X : Cx} (ok : YOk R Z X) {st : Stmt}, mS Z s st = true → PS X st (tS R Z.io s)
  | .set i e, R, Z, X, ok, st, h => s_set ok h
  | .setT is e, R, Z, X, ok, st, h => s_setT ok h
  | .par i j a b, R, Z, X, ok, st, h => s_par ok h
  | .setp i es l e, R, Z, X, ok, st, h => s_setp ok h
  | .app i es e, R, Z, X, ok, st, h => s_app ok h
  | .clr i es, R, Z, X, ok, st, h => s_clr ok h
  | .ext i e, R, Z, X, ok, st, h => s_ext ok h
  | .ex e, R, Z, X, ok, st, h => by
    unfold mS at h
    split at h
    all_goals first | (cases ‹CS.ex e = _›) | (cases h)
    rw [Bool.and_eq_true, Bool.not_eq_true'] at h
    exact pst (ps_expr (sE e ok.toXOk h.2) (sw_no h.1)) fun q => ex_read q
  | .ret e, R, Z, X, ok, st, h => by
    unfold mS at h
    split at h
    all_goals first | (cases ‹CS.ret e = _›) | (cases h)
    exact pst (ps_ret (sE e ok.toXOk h)) fun q => ret_read q
  | .retN, R, Z, X, ok, st, h => by
    unfold mS at h
    split at h
    all_goals first | (cases ‹CS.retN = _›; done) | (cases h; done) | skip
    exact pst ps_retN fun q => retN_read q
  | .ite c a b, R, Z, X, ok, st, h => by
    unfold mS at h
    split at h
    all_goals first | (cases ‹CS.ite c a b = _›) | (cases h)
    simp only [Bool.and_eq_true] at h
    exact pst (ps_if (sT c ok.toXOk h.1.1).1 (sB a ok h.1.2) (sB b ok h.2)) fun q => ite_read q
  | .for_ tg it body, R, Z, X, ok, st, h => by
    unfold mS at h
    split at h
    all_goals first | (cases ‹CS.for_ tg it body = _›) | (cases h)
    simp only [Bool.and_eq_true] at h
    obtain ⟨⟨⟨ht, hs⟩, hi⟩, hb⟩ := h
    exact pst (ps_for ok.hp ok.calm (sIt it ok.toXOk hi) (pg_tg ok.toXOk ht) (sB body ok hb) (it_folded hi _)) fun q => for_read (notins hs) q
  | .whl n c body, R, Z, X, ok, st, h => by
    unfold mS at h
    split at h
    all_goals first | (cases ‹CS.whl n c body = _›) | (cases h)
    rw [Bool.and_eq_true] at h
    exact pst (ps_while ok.hp (sT c ok.toXOk h.1).1 (sB body ok h.2)) fun q => whl_read q
  | .brk, R, Z, X, ok, st, h => by
    cases st <;> first | (exact absurd h (by unfold mS; exact Bool.false_ne_true)) | skip
    exact pst ps_break fun q => brk_read q
  | .cnt, R, Z, X, ok, st, h => by
    cases st <;> first | (exact absurd h (by unfold mS; exact Bool.false_ne_true)) | skip
    exact pst ps_continue fun q => cnt_read q
  | .pass, R, Z, X, ok, st, h => by
    cases st <;> first | (exact absurd h (by unfold mS; exact Bool.false_ne_true)) | skip
    exact pst ps_pass fun q => next_read (fun Γ => by simp only [exS]) q
  | .doc, R, Z, X, ok, st, h => by
    unfold mS at h
    split at h
    all_goals first | (cases ‹CS.doc = _›; done) | (cases h; done) | skip
    exact pst ps_doc fun q => next_read (fun Γ => by simp only [exS]) q
  | .rais x, R, Z, X, ok, st, h => by
    unfold mS at h
    split at h
    all_goals first | (cases ‹CS.rais x = _›) | (cases h)
    simp only [Bool.and_eq_true, decide_eq_true_eq, List.contains_iff_mem] at h
    obtain ⟨⟨rfl, hx⟩, hg⟩ := h
    obtain ⟨g1, g2, _⟩ := ok.gl hg
    obtain ⟨C, bmB, B, newId, initId, F, q, gC, kC, r⟩ := ok.exc _ hx
    exact pst (ps_raise ok.calm ok.tk (pmk_own F q gC kC r g1 g2)) fun z => rais_read (by rw [← ok.mg]; exact gC) z
  | .try_ b x i hh, R, Z, X, ok, st, h => by
    unfold mS at h
    cases h
theorem sB : ∀ (ss : List CS) {R : RC} {Z : MS} {X : Cx} (ok : YOk R Z X) {sts : List Stmt}, mB Z ss sts = true → PSs X sts (tSs R Z.io ss)
  | [], R, Z, X, ok, sts, h => by
    cases sts with
    | nil => exact PSs.imp pss_nil fun _ _ _ q => nil_read q
    | cons _ _ => unfold mB at h; cases h
  | s :: ss, R, Z, X, ok, sts, h => by
    cases sts with
    | nil => unfold mB at h; cases h
    | cons t ts =>
      unfold mB at h
      rw [Bool.and_eq_true] at h
      exact PSs.imp (pss_cons (sS s ok h.1) (sB ss ok h.2)) fun _ _ _ q => cons_read q
end
end Hw
set_option Elab.async false
set_option linter.all false
set_option maxRecDepth 100000
set_option maxHeartbeats 1000000
/-! defs, the list of defs, the law's end -/
namespace Hw
open PySem PySem.Spec PyProof.Rows L2
structure DD where
  x : Str
  N : List Str
  pn : List Str
  ps : List Bool
  body : List CS
  st : Stmt
def genv (gl : Str → Option PyData) : List DD → Genv
  | [] => ⟨fun _ => none, gl⟩
  | d :: ds => ⟨fun y => if y = d.x then some (runDef (genv gl ds) d.N.length d.ps d.body) else (genv gl ds).fn y, gl⟩
def iosOf : Nat → List Bool → List Nat
  | _, [] => []
  | i, true :: ps => i :: iosOf (i + 1) ps
  | i, false :: ps => iosOf (i + 1) ps
def scopeC (N P : List Str) (sc : Scope) : Bool := isFunK sc.kind && !sc.isCoroutine && !sc.isGenerator && decide N.Nodup && decide (N.take P.length = P) && (P.all fun x => match sc.names.lookup x with | some .local => true | some .cell => true | _ => false) && (sc.names.all fun y => !(y.2 == .free))
theorem scope_of {N P : List Str} {sc : Scope} (h : scopeC N P sc = true) : FnScope N P sc := by
  unfold scopeC at h
  simp only [Bool.and_eq_true, Bool.not_eq_true', decide_eq_true_eq, List.all_eq_true] at h
  obtain ⟨⟨⟨⟨⟨⟨h1, h2⟩, h3⟩, h4⟩, h5⟩, h6⟩, h7⟩ := h
  refine ⟨isFunK_of h1, h2, h3, h4, h5, fun x hx => ?_, fun y hy e => ?_⟩
  · have := h6 x hx
    split at this <;> first | exact .inl (by assumption) | exact .inr (by assumption) | cases this
  · have := h7 y hy
    rw [e] at this
    cases this
def dOk (exs : List Str) (d : DD) : Bool := scopeC d.N d.pn (defScope d.st) && decide (d.ps.length = d.pn.length) && mB ⟨⟨d.N, defScope d.st, fun _ => true⟩, iosOf 0 d.ps, exs⟩ d.body (defBody d.st)
/-- the def stands in what the top has written -/
def DefIn (K : PySem.W.Frag) (d : DD) : Prop := ∃ f fd, PySem.W.nsIn K mainGlobals d.x = some (some (.ref f)) ∧ Fun K d.x d.x d.st f fd ∧ ∀ us : List Value, us.length = d.pn.length → bindArgs fd ⟨us, []⟩ = pure (d.pn.zip us)
def DefsIn (K : PySem.W.Frag) : List DD → Prop
  | [] => True
  | d :: ds => DefIn K d ∧ DefsIn K ds
def BltsIn (K : PySem.W.Frag) : List Str → Prop
  | [] => True
  | x :: xs => PySem.W.nsIn K mainGlobals x = some none ∧ BltsIn K xs
theorem BltsIn.at {K : PySem.W.Frag} : ∀ {xs : List Str}, BltsIn K xs → ∀ x ∈ xs, PySem.W.nsIn K mainGlobals x = some none
  | [], _, _, h => by cases h
  | y :: xs, h, x, hx => by
    cases hx with
    | head => exact h.1
    | tail _ z => exact BltsIn.at h.2 x z
theorem defIn {K : PySem.W.Frag} {d : DD} {f : Addr} {oc : Value} {od an : Option Addr} {osl : Array (Option Value)} {kV doc pm cdv ct : Value} (a : PySem.W.nsIn K mainGlobals d.x = some (some (.ref f)))
    (l : K.lookup f = some ⟨oc, od, .func (PySem.W.fnOf d.x d.x (defArgs d.st) (defBody d.st) (defScope d.st) .none kV doc pm an cdv ct), osl⟩) (c : PySem.W.codeIn K cdv d.x = true) (k : PySem.W.keepIn K (.ref f) = true)
    (b : ∀ (kV doc pm : Value) (an : Option Addr) (cdv ct : Value) (us : List Value), us.length = d.pn.length → bindArgs (PySem.W.fnOf d.x d.x (defArgs d.st) (defBody d.st) (defScope d.st) .none kV doc pm an cdv ct) ⟨us, []⟩ = pure (d.pn.zip us)) : DefIn K d :=
  ⟨f, _, a, fun_mk l c k, b kV doc pm an cdv ct⟩
section
variable {K : PySem.W.Frag} {H : Hp} {f : Fp}
theorem outs_rep : ∀ {ps : List Bool} {Γ : List Tr} {σ : Sig} {vs : List V} {g : Fp} , RepS K H f Γ σ g → vs.length = ps.length → ps.length ≤ Γ.length → (∀ (i : Nat) (v : V), ps[i]? = some true → vs[i]? = some v → σ[i]? = some (some v)) → RepL K H f (outsOf ps Γ) vs g
  | [], Γ, σ, vs, g, h, hl, _, _ => by
    cases vs with
    | nil => unfold outsOf RepL; rfl
    | cons _ _ => simp at hl
  | p :: ps, [], _, _, _, _, _, hl, _ => by simp at hl
  | p :: ps, x :: Γ, σ, vs, g, h, hl, hl2, hp => by
    cases vs with
    | nil => simp at hl
    | cons v vs =>
      obtain ⟨o, r, g1, g2, rfl, h1, h2, h3⟩ := h
      have rest := outs_rep (ps := ps) (vs := vs) h2 (by simpa using hl) (by simpa using hl2) fun i w e1 e2 => by have := hp (i + 1) w (by simpa using e1) (by simpa using e2); simpa using this
      cases p with
      | false =>
        unfold outsOf RepL
        exact ⟨v, vs, fun _ => 0, g2, rfl, by unfold Rep; trivial, rest, fun a => by have := h3 a; show 0 + g2 a ≤ g a; omega⟩
      | true =>
        unfold outsOf RepL
        have e := hp 0 v rfl rfl
        simp at e
        subst e
        refine ⟨v, vs, g1, g2, rfl, ?_, rest, h3⟩
        by_cases n : x = .gone
        · subst n; unfold Rep; trivial
        · obtain ⟨w, e, r⟩ := h1.get n
          cases e
          exact r
theorem start_rep {n : Nat} : ∀ {ts : List Tr} {vs : List V} {g : Fp}, RepL K H f ts vs g → RepS K H f (ts ++ List.replicate n .gone) (vs.map some ++ List.replicate n none) g
  | [], _, g, h => by
    unfold RepL at h
    subst h
    simp only [List.nil_append, List.map_nil]
    induction n generalizing g with
    | zero => unfold List.replicate RepS; rfl
    | succ n ih =>
      rw [List.replicate_succ, List.replicate_succ]
      exact ⟨none, _, fun _ => 0, g, rfl, trivial, ih g, fun a => by show 0 + g a ≤ g a; omega⟩
  | t :: ts, _, g, h => by
    obtain ⟨v, r, g1, g2, rfl, h1, h2, h3⟩ := h
    exact ⟨some v, _, g1, g2, rfl, .mk h1, start_rep h2, h3⟩
theorem iosOf_mem : ∀ {ps : List Bool} {k i : Nat}, ps[i]? = some true → k + i ∈ iosOf k ps
  | [], _, _, h => by simp at h
  | true :: ps, k, 0, h => by unfold iosOf; exact List.mem_cons_self ..
  | false :: ps, k, 0, h => by simp at h
  | true :: ps, k, i + 1, h => by
    unfold iosOf
    have := iosOf_mem (k := k + 1) (by simpa using h : ps[i]? = some true)
    exact List.mem_cons_of_mem _ (by rw [show k + (i + 1) = k + 1 + i by omega]; exact this)
  | false :: ps, k, i + 1, h => by
    unfold iosOf
    have := iosOf_mem (k := k + 1) (by simpa using h : ps[i]? = some true)
    rw [show k + (i + 1) = k + 1 + i by omega]; exact this
end
/-- the def's body keeps the def's promise -/
theorem body_sound {R : RC} {d : DD} {F : Genv} {X : Cx} {exs : List Str} {M : MC} (hF : R.F = F) (hps : d.ps.length = d.pn.length) (hpn : d.pn.length ≤ d.N.length) {H : Hp} {vs : List V} {Q : VK} {E : XK} (hW : R.W = fun cls dd _ H => E cls dd H)
    (h : spF R.K R.mg d.pn.length (runDef F d.N.length d.ps d.body) vs H Q E) : tSs R (iosOf 0 d.ps) d.body { nx := fun _ H' => Q .non H', rt := Q } (L2.start d.N vs) H := by
  subst hF
  obtain ⟨hl, ts, f, pr, ga, rl, h1, al, hb, h⟩ := h
  have lt : ts.length = vs.length := rl.length.symm
  unfold runDef at h
  rw [if_pos ⟨by omega, by omega⟩] at h
  have hs : RepS R.K H f (ts ++ List.replicate (d.N.length - ts.length) .gone) (L2.start d.N vs) ga := by
    unfold L2.start
    rw [lt]
    exact start_rep rl
  refine ⟨_, f, pr, ⟨h1, al, ga, fun _ => 0, hs, trivial, fun a => by have := hb a; show 0 + _ ≤ _; omega⟩, ?_⟩
  have outs : ∀ {Γ : List Tr} {σ' : Sig} {H' : Hp} {f' : Fp} {g : Fp}, Pin (iosOf 0 d.ps) (L2.start d.N vs) σ' → RepS R.K H' f' Γ σ' g → RepL R.K H' f' (outsOf d.ps Γ) vs g := by
    intro Γ σ' H' f' g pin rs
    have ll : σ'.length = d.N.length := by rw [pin.1]; unfold L2.start; simp; omega
    refine outs_rep rs (by omega) (by rw [← rs.length, ll]; omega) fun i v e1 e2 => ?_
    have := pin.2 i (by have := iosOf_mem (k := 0) e1; rwa [Nat.zero_add] at this)
    rw [this]
    unfold L2.start
    have hi : i < vs.length := (List.getElem?_eq_some_iff.mp e2).1
    rw [List.getElem?_append_left (by simpa using hi), List.getElem?_map, e2]
    rfl
  cases q : exB R.F d.body (ts ++ List.replicate (d.N.length - ts.length) .gone) with
  | none => rw [q] at h; exact h
  | some r =>
    rw [q] at h
    cases r with
    | nx Γ =>
      intro σ' H' f' s pin st
      obtain ⟨k1, k2, g, gx, rs, _, kl⟩ := st
      exact h .non H' f' s k1 k2 ⟨fun _ => 0, g, by unfold Rep Dr; rfl, outs pin rs, fun a => by have := kl a; show 0 + (g a + pr a) ≤ _; omega⟩
    | rt t Γ =>
      intro v σ' H' f' s pin st
      obtain ⟨k1, k2, g, gx, rs, rv, kl⟩ := st
      exact h v H' f' s k1 k2 ⟨gx, g, rv, outs pin rs, fun a => kl a⟩
    | bk Γ => exact h.elim
    | ct Γ => exact h.elim
    | ex x Γ =>
      intro C σ' H' f' hm s pin st
      obtain ⟨k1, k2, g, gx, rs, _, kl⟩ := st
      rw [hW]
      exact h C H' f' hm s k1 k2 fun a => by have := kl a; omega
structure TopOk (P : Program) (w : World) (K : PySem.W.Frag) (mg : Str → Option Value) (base : Heap) (gl : Str → Option PyData) (exs : List Str) : Prop where
  gls : ∀ x d, gl x = some d → ∃ v u, mg x = some u ∧ RelV v u ∧ ∀ K H, Dr K H d v
  blt : ∀ x ∈ bltNames, mg x = none
  exc : ∀ x ∈ exs, ∃ C bmB B newId initId, ExcBaseFacts B newId initId bmB ∧ PySem.W.excIn K C bmB newId = true ∧ mg x = some (.ref C) ∧ PySem.W.keepIn K (.ref C) = true ∧ PySem.W.subIn K (.ref C) (.type "BaseException") = some true ∧ PySem.W.typeIn K (.ref C) = some (.type "type")
theorem fn_gl {gl : Str → Option PyData} : ∀ ds : List DD, (genv gl ds).gl = gl
  | [] => rfl
  | d :: ds => rfl
theorem run_len {F : Genv} {n : Nat} {ps : List Bool} {body : List CS} {ts : List Tr} {r : FR} (h : runDef F n ps body ts = some r) : ts.length = ps.length := by
  unfold runDef at h
  split at h
  · rename_i z; exact z.1
  · cases h
theorem def_ok {P : Program} {w : World} {K : PySem.W.Frag} {mg : Str → Option Value} {base : Heap} {gl : Str → Option PyData} {exs : List Str} (T : TopOk P w K mg base gl exs) {d : DD} {ds : List DD} (hd : dOk exs d = true) {f : Addr} {fd : FuncData} (fu : Fun K d.x d.x d.st f fd)
    (ih : ∀ y run, (genv gl ds).fn y = some run → ∃ n f fd ps, Hq.FnG P w K mg base ds.length f fd ps (spF K mg n run) ∧ mg y = some (.ref f) ∧ PySem.W.keepIn K (.ref f) = true ∧ Binds K fd ps [] ∧ ∀ ts r, run ts = some r → ts.length = n) :
    Hq.FnG P w K mg base (ds.length + 1) f fd d.pn (spF K mg d.pn.length (runDef (genv gl ds) d.N.length d.ps d.body)) := by
  unfold dOk at hd
  simp only [Bool.and_eq_true, decide_eq_true_eq] at hd
  obtain ⟨⟨hsc, hlen⟩, hm⟩ := hd
  have S := scope_of hsc
  refine Hq.okG fu S (fun vs H Q E h => h.1) fun cdv A outer s H vs Q E gd hr hsp => ?_
  have hpl : d.pn.length ≤ d.N.length := by have := congrArg List.length S.pre; rw [List.length_take] at this; omega
  refine ⟨tSs ⟨K, mg, genv gl ds, fun cls dd _ H => E cls dd H⟩ (iosOf 0 d.ps) d.body, sB d.body (Z := ⟨⟨d.N, defScope d.st, fun _ => true⟩, iosOf 0 d.ps, exs⟩) ⟨⟨rfl, rfl, rfl, rfl, rfl, S.nd, rfl, ?tk, ?un, gd.deeper _, ?fns, ?gls, T.blt⟩, ?hp, ?exc⟩ hm,
    body_sound (R := ⟨K, mg, genv gl ds, fun cls dd _ H => E cls dd H⟩) (X := cxOf (L2.CX P w) P w K mg base d.N d.x (defScope d.st) f cdv A outer s H E) (exs := exs) (M := ⟨d.N, defScope d.st, fun _ => true⟩) rfl hlen hpl rfl hsp⟩
  case tk => exact takes_of rfl rfl rfl rfl
  case un => have := hr.un; show (A.deeper _).units + 65 < _; omega
  case fns =>
    intro x run hx
    obtain ⟨n, f', fd', ps', F', m', k', b', l'⟩ := ih x run hx
    exact ⟨n, f', fd', ps', ds.length, F', m', k', b', hr, l'⟩
  case gls => rw [fn_gl]; exact T.gls
  case hp => exact passes_of rfl
  case exc =>
    intro x hx
    obtain ⟨C, bmB, B, newId, initId, e1, e2, e3, e4, e5, e6⟩ := T.exc x hx
    exact ⟨C, bmB, B, newId, initId, e1, e2, e3, e4, raises_own e5 e6⟩
theorem defs_ok {P : Program} {w : World} {K : PySem.W.Frag} {mg : Str → Option Value} {base : Heap} {gl : Str → Option PyData} {exs : List Str} (T : TopOk P w K mg base gl exs) (hmg : ∀ x v, PySem.W.nsIn K mainGlobals x = some (some v) → mg x = some v) :
    ∀ ds : List DD, (∀ d ∈ ds, dOk exs d = true) → DefsIn K ds →
      ∀ y run, (genv gl ds).fn y = some run → ∃ n f fd ps, Hq.FnG P w K mg base ds.length f fd ps (spF K mg n run) ∧ mg y = some (.ref f) ∧ PySem.W.keepIn K (.ref f) = true ∧ Binds K fd ps [] ∧ ∀ ts r, run ts = some r → ts.length = n
  | [], _, _, y, run, h => by cases h
  | d :: ds, ho, hi, y, run, h => by
    have ih := defs_ok T hmg ds (fun e he => ho e (List.mem_cons_of_mem _ he)) hi.2
    unfold genv at h
    dsimp only at h
    split at h
    · rename_i e
      subst e
      cases h
      have hd := ho d (List.mem_cons_self ..)
      obtain ⟨⟨f, fd, ns, fu, bd⟩, _⟩ := hi
      refine ⟨d.pn.length, f, fd, d.pn, def_ok T hd fu ih, hmg _ _ ns, fu.kp, .all bd, fun ts r hr => ?_⟩
      unfold dOk at hd
      simp only [Bool.and_eq_true, decide_eq_true_eq] at hd
      rw [run_len hr, hd.1.2]
    · obtain ⟨n, f', fd', ps', F', m', k', b', l'⟩ := ih y run h
      exact ⟨n, f', fd', ps', F'.mono (Nat.le_succ _), m', k', b', l'⟩
end Hw
set_option Elab.async false
set_option linter.all false
set_option maxRecDepth 100000
set_option maxHeartbeats 1000000
/-! the law's end -/
namespace Hw
open PySem PySem.Spec PyProof.Rows L2
def spLaw (K : PySem.W.Frag) : Sp := fun vs H Q E => ∃ (a : Addr) (ns : List Int), vs = [.ref a] ∧ SqL K H a (ns.map V.int) ∧ ns.length ≤ 63 ∧ (∀ z ∈ ns, Builtin.Int.intBits z ≤ 1048576) ∧ ∀ H', Q (.bl true) H'
theorem mn_zero (H : Hp) : mn H (fun _ => 0) = H := by
  funext a
  unfold mn
  simp
theorem law_sp {K : PySem.W.Frag} {mg : Str → Option Value} {run : List Tr → Option FR} (hrun : ∀ ns : List Int, ns.length ≤ 63 → (∀ z ∈ ns, Builtin.Int.intBits z ≤ 1048576) → ∃ os, run [.s ns] = some (.ok (bT true) os)) {vs : List V} {H : Hp} {Q : VK} {E : XK} (h : spLaw K vs H Q E) : spF K mg 1 run vs H Q E := by
  obtain ⟨a, ns, rfl, hS, hl, hb, q⟩ := h
  refine ⟨rfl, [.s ns], fun _ => 0, fun _ => 0, fun _ => 0, ?_, fun _ => Nat.zero_le _, fun a ha => absurd ha (by show ¬ (1 ≤ 0); decide), fun _ => Nat.le_refl _, ?_⟩
  · unfold RepL
    refine ⟨_, [], fun _ => 0, fun _ => 0, rfl, ?_, by unfold RepL; rfl, fun _ => Nat.le_refl _⟩
    unfold Rep
    exact ⟨a, rfl, by rw [mn_zero]; exact hS⟩
  · obtain ⟨os, e⟩ := hrun ns hl hb
    rw [e]
    intro v H' f' s h1 h2 ⟨g, go, rv, ro, l⟩
    rw [bT_val rv]
    exact q H'
structure ExIn (K : PySem.W.Frag) (x : Str) : Prop where
  ex : ∃ C bmB B newId initId, ExcBaseFacts B newId initId bmB ∧ PySem.W.excIn K C bmB newId = true ∧ PySem.W.nsIn K mainGlobals x = some (some (.ref C)) ∧ PySem.W.keepIn K (.ref C) = true ∧ PySem.W.subIn K (.ref C) (.type "BaseException") = some true ∧ PySem.W.typeIn K (.ref C) = some (.type "type")
theorem law_mk {l : PySem.W.OpenLaw} {w : World} {K : PySem.W.Frag} {h : Heap} {mg : Str → Option Value} {fa : Addr} (X : K.In h) (G : h.Ns mainGlobals mg) (hfa : mg "law" = some (.ref fa)) (gl : Str → Option PyData) (exs : List Str) (d : DD) (ds : List DD)
    (hgl : ∀ x y, gl x = some y → ∃ v u, PySem.W.nsIn K mainGlobals x = some (some u) ∧ RelV v u ∧ ∀ K H, Dr K H y v)
    (hok : ∀ e ∈ d :: ds, dOk exs e = true) (hx : d.x = "law") (hpn : d.pn = [("script" : Str)])
    (hrun : ∀ ns : List Int, ns.length ≤ 63 → (∀ z ∈ ns, Builtin.Int.intBits z ≤ 1048576) → ∃ os, runDef (genv gl ds) d.N.length d.ps d.body [.s ns] = some (.ok (bT true) os))
    (D : DefsIn K (d :: ds)) (B : BltsIn K bltNames) (E : ∀ x ∈ exs, ExIn K x) :
    ∃ fd : FuncData, (∀ (s : Shared) (v : Value), BindsTo s fd ⟨[v], []⟩ [("script", v)]) ∧ ∀ base : Heap, K.In base → base.Ns mainGlobals mg → Hq.FnG l.prog w K mg base (ds.length + 1) fa fd ["script"] (spLaw K) := by
  have mgo : ∀ x v, PySem.W.nsIn K mainGlobals x = some (some v) → mg x = some v := fun x v e => PySem.W.mg_of X G e
  have T : ∀ base, TopOk l.prog w K mg base gl exs := fun base => ⟨fun x y e => by
    obtain ⟨v, u, e1, e2, e3⟩ := hgl x y e
    exact ⟨v, u, mgo _ _ e1, e2, e3⟩, fun x hx => PySem.W.mg_none_of X G (B.at x hx), fun x hx => by
    obtain ⟨C, bmB, B, newId, initId, e1, e2, e3, e4, e5, e6⟩ := (E x hx).ex
    exact ⟨C, bmB, B, newId, initId, e1, e2, mgo _ _ e3, e4, e5, e6⟩⟩
  obtain ⟨f, fd, ns, fu, bd⟩ := id D.1
  have ff : f = fa := by
    have := mgo _ _ ns
    rw [hx, hfa] at this
    cases this
    rfl
  subst ff
  refine ⟨fd, fun s v => .of_eq (by have := bd [v] (by rw [hpn]; rfl); rw [hpn] at this; exact this), fun base hb hn => ?_⟩
  have F := def_ok (T base) (hok d (List.mem_cons_self ..)) fu (defs_ok (T base) mgo ds (fun e he => hok e (List.mem_cons_of_mem _ he)) D.2)
  rw [hpn] at F
  exact F.imp fun vs H Q E q => law_sp hrun q
end Hw
set_option Elab.async false
set_option linter.all false
set_option maxRecDepth 100000
set_option maxHeartbeats 400000
/-! steps of the interpreter, for the laws' plain part -/
namespace Hw
open PySem PySem.Spec PyProof.Rows L2
theorem whl_step {c : List Tr → Option TR} {body : List Tr → Option SR} {k : Nat} {Γ Γ1 Γ2 : List Tr} (hc : c Γ = some (.ok true Γ1)) (hb : body Γ1 = some (.nx Γ2)) : whL c body (k + 1) Γ = whL c body k Γ2 := by
  rw [whL, hc]; simp only [hb]
theorem whl_end {c : List Tr → Option TR} {body : List Tr → Option SR} {k : Nat} {Γ Γ1 : List Tr} (hc : c Γ = some (.ok false Γ1)) : whL c body (k + 1) Γ = some (.nx Γ1) := by
  rw [whL, hc]
theorem exB_nx {F : Genv} {s : CS} {ss : List CS} {Γ Γ1 : List Tr} (h : exS F s Γ = some (.nx Γ1)) : exB F (s :: ss) Γ = exB F ss Γ1 := by
  rw [exB, h]
theorem exB_rt {F : Genv} {s : CS} {ss : List CS} {Γ Γ1 : List Tr} {t : Tr} (h : exS F s Γ = some (.rt t Γ1)) : exB F (s :: ss) Γ = some (.rt t Γ1) := by
  rw [exB, h]
theorem forL_inv {body : List Tr → Option SR} {bind : List Tr → PyData → Option (List Tr)} (P : Nat → List Tr → Prop) : ∀ {ds : List PyData} {n : Nat} {Γ : List Tr}, (∀ i d Γ, ds[i]? = some d → P (n + i) Γ → ∃ Γ1 Γ2, bind Γ d = some Γ1 ∧ body Γ1 = some (.nx Γ2) ∧ P (n + i + 1) Γ2) → P n Γ → ∃ Γ', forL body bind ds Γ = some (.nx Γ') ∧ P (n + ds.length) Γ'
  | [], n, Γ, _, p => ⟨Γ, rfl, p⟩
  | d :: ds, n, Γ, h, p => by
    obtain ⟨Γ1, Γ2, h1, h2, h3⟩ := h 0 d Γ rfl p
    obtain ⟨Γ', e, q⟩ := forL_inv P (n := n + 1) (Γ := Γ2) (fun i e Γ he hp => by
      have := h (i + 1) e Γ (by simpa using he) (by rw [show n + (i + 1) = n + 1 + i by omega]; exact hp)
      rw [show n + (i + 1) = n + 1 + i by omega] at this
      exact this) h3
    refine ⟨Γ', ?_, by rw [List.length_cons, show n + (ds.length + 1) = n + 1 + ds.length by omega]; exact q⟩
    rw [forL, h1]
    simp only [h2]
    exact e
theorem run_rt {F : Genv} {n : Nat} {ps : List Bool} {body : List CS} {ts : List Tr} {t : Tr} {Γ : List Tr} (hl : ts.length = ps.length) (hn : ps.length ≤ n) (h : exB F body (ts ++ List.replicate (n - ts.length) .gone) = some (.rt t Γ)) : runDef F n ps body ts = some (.ok t (outsOf ps Γ)) := by
  unfold runDef
  rw [if_pos ⟨hl, hn⟩, h]
theorem lg_lt {n k : Nat} (h : n < 2 ^ k) (hk : 0 < k) : n.log2 < k := by
  by_cases z : n = 0
  · subst z; exact hk
  · exact (Nat.log2_lt z).mpr h
theorem mul_i {i j : Int} (h1 : i.natAbs < 2 ^ 500000) (h2 : j.natAbs < 2 ^ 500000) : mulEv (iT i) (iT j) = some (iT (i * j)) := by
  have a := lg_lt h1 (by decide)
  have b := lg_lt h2 (by decide)
  simp only [mulEv, asInt, iT]
  rw [if_pos (by omega)]
theorem eq_i (i j : Int) : eqEv (.c (.int i)) (.c (.int j)) = some (decide (i = j)) := rfl
theorem eq_b (i j : Bool) : eqEv (.c (.bool i)) (.c (.bool j)) = some (i == j) := rfl
theorem eq_p (a b c d : Int) : eqEv (.c (.tuple [.int a, .int b])) (.c (.tuple [.int c, .int d])) = some (decide (a = c) && decide (b = d)) := by
  show some (PyData.eqv (.tuple [.int a, .int b]) (.tuple [.int c, .int d])) = _
  congr 1
  simp [PyData.eqv, PyData.eqvAll]
  rfl
theorem exS_for {F : Genv} {tg : CTg} {it : CIt} {body : List CS} {Γ Γ1 : List Tr} {ds : List PyData} (h : evIt F it Γ = some (.ok ds Γ1)) : exS F (.for_ tg it body) Γ = forL (fun Γ => exB F body Γ) (fun Γ d => bindTg Γ tg d) ds Γ1 := by
  simp only [exS, h]
end Hw
set_option Elab.async false
set_option linter.all false
set_option maxRecDepth 100000
/-! the facts of the raised classes, of the constants -/
namespace Hw
open PySem PySem.Spec PyProof.Rows L2
def ExsIn (K : PySem.W.Frag) : List Str → Prop
  | [] => True
  | x :: xs => ExIn K x ∧ ExsIn K xs
theorem ExsIn.at {K : PySem.W.Frag} : ∀ {xs : List Str}, ExsIn K xs → ∀ x ∈ xs, ExIn K x
  | [], _, _, h => by cases h
  | y :: xs, h, x, hx => by
    cases hx with
    | head => exact h.1
    | tail _ z => exact ExsIn.at h.2 x z
theorem exIn {K : PySem.W.Frag} {x : Str} {C : Addr} (g : PySem.W.nsIn K mainGlobals x = some (some (.ref C))) (q : PySem.W.excIn K C [.type "ValueError", .type "Exception", .type "BaseException", .type "object"] "ValueError.__new__" = true) (k : PySem.W.keepIn K (.ref C) = true)
    (b : PySem.W.subIn K (.ref C) (.type "BaseException") = some true) (t : PySem.W.typeIn K (.ref C) = some (.type "type")) : ExIn K x :=
  ⟨C, _, _, _, _, PySem.F.excBase_ValueError, q, g, k, b, t⟩
def GlsIn (K : PySem.W.Frag) : List (Str × Int) → Prop
  | [] => True
  | (x, i) :: xs => (∃ t, PySem.W.nsIn K mainGlobals x = some (some (.int i t))) ∧ GlsIn K xs
def glI : List (Str × Int) → Str → Option PyData
  | [], _ => none
  | (y, i) :: xs, x => if x = y then some (.int i) else glI xs x
theorem gls_of {K : PySem.W.Frag} : ∀ {l : List (Str × Int)}, GlsIn K l → ∀ x y, glI l x = some y → ∃ v u, PySem.W.nsIn K mainGlobals x = some (some u) ∧ RelV v u ∧ ∀ K H, Dr K H y v
  | [], _, x, y, h => by cases h
  | (z, i) :: l, g, x, y, h => by
    unfold glI at h
    split at h
    · rename_i e
      subst e
      cases h
      obtain ⟨t, ht⟩ := g.1
      exact ⟨.int i, .int i t, ht, ⟨t, rfl⟩, fun K H => by unfold Dr; rfl⟩
    · exact gls_of g.2 x y h
end Hw
set_option Elab.async false
set_option linter.all false
set_option maxRecDepth 100000
set_option maxHeartbeats 400000
/-! the plain layer: steps, loops, comprehensions -/
namespace Hw
open PySem PySem.Spec PyProof.Rows L2

/-! ### equations -/
@[simp] theorem iT_is (i : Int) : iT i = .c (.int i) := rfl
@[simp] theorem bT_is (b : Bool) : bT b = .c (.bool b) := rfl
@[simp] theorem asInt_c (i : Int) : asInt (.c (.int i)) = some i := rfl
@[simp] theorem asBool_c (b : Bool) : asBool (.c (.bool b)) = some b := rfl
@[simp] theorem asTup_c (ds : List PyData) : asTup (.c (.tuple ds)) = some ds := rfl
@[simp] theorem asList_t (ds : List PyData) : asList (.c (.tuple ds)) = none := rfl
@[simp] theorem asList_c (ds : List PyData) : asList (.c (.list ds)) = some ds := rfl
@[simp] theorem asList_l (xs : List Tr) : asList (.l xs) = stl xs := rfl
@[simp] theorem asSeq_c (ds : List PyData) : asSeq (.c (.tuple ds)) = some ds := rfl
@[simp] theorem asSeq_cl (ds : List PyData) : asSeq (.c (.list ds)) = some ds := rfl
theorem stl_map {α : Type} (h : α → PyData) : ∀ xs : List α, stl (xs.map fun x => .c (h x)) = some (xs.map h)
  | [] => rfl
  | x :: xs => by simp [stl, stl_map h xs]
theorem stl_c : ∀ ds : List PyData, stl (ds.map .c) = some ds
  | [] => rfl
  | d :: ds => by simp [stl, stl_c ds]
theorem frzL_map {α : Type} (h : α → PyData) : ∀ xs : List α, frzL (xs.map fun x => .c (h x)) = some (xs.map h)
  | [] => by simp [frzL]
  | x :: xs => by simp [frzL, frz, frzL_map h xs]
theorem frzL_c : ∀ ds : List PyData, frzL (ds.map .c) = some ds
  | [] => by simp [frzL]
  | d :: ds => by simp [frzL, frz, frzL_c ds]
@[simp] theorem frz_c (d : PyData) : frz (.c d) = some d := by simp [frz]
@[simp] theorem see_c (d : PyData) : see (.c d) = some d := by simp [see]
@[simp] theorem settle_c (d : PyData) : settle (.c d) = some (.c d) := by simp [Hw.settle]
@[simp] theorem settle_s (ns : List Int) : settle (.s ns) = some (.s ns) := by simp [Hw.settle]
theorem asSeq_l {xs : List Tr} {ds : List PyData} (h : stl xs = some ds) : asSeq (.l xs) = some ds := by unfold asSeq; rw [asList_l, h]
theorem intsOf_map {α : Type} (h : α → Int) : ∀ xs : List α, intsOf (xs.map fun x => .int (h x)) = some (xs.map h)
  | [] => rfl
  | x :: xs => by simp [intsOf, intsOf_map h xs]
theorem boolsOf_map {α : Type} (h : α → Bool) : ∀ xs : List α, boolsOf (xs.map fun x => .bool (h x)) = some (xs.map h)
  | [] => rfl
  | x :: xs => by simp [boolsOf, boolsOf_map h xs]
/-- a list of trees that are made of items -/
def mpT {α : Type} (h : α → PyData) (xs : List α) : Tr := .l (xs.map fun x => .c (h x))
@[simp] theorem mpT_stl {α : Type} (h : α → PyData) (xs : List α) : asList (mpT h xs) = some (xs.map h) := stl_map h xs
@[simp] theorem mpT_seq {α : Type} (h : α → PyData) (xs : List α) : asSeq (mpT h xs) = some (xs.map h) := asSeq_l (stl_map h xs)
theorem asTup_l (xs : List Tr) : asTup (.l xs) = none := rfl
@[simp] theorem mpT_frz {α : Type} (h : α → PyData) (xs : List α) : frz (mpT h xs) = some (.list (xs.map h)) := by simp [mpT, frz, frzL_map]
@[simp] theorem mpT_see {α : Type} (h : α → PyData) (xs : List α) : see (mpT h xs) = some (.list (xs.map h)) := by
  have := mpT_frz h xs
  simpa [mpT, see] using this
theorem rg0 (n : Nat) : rgD 0 (n : Nat) = (List.range n).map fun i => PyData.int (i : Nat) := by
  unfold rgD
  simp
theorem rgz (n : Int) : rgD 0 n = (List.range n.toNat).map fun i => PyData.int (i : Nat) := by
  unfold rgD
  simp
@[simp] theorem atI_n {α : Type} (xs : List α) (n : Nat) : atI xs (n : Int) = xs[n]? := by
  unfold atI
  by_cases h : n < xs.length
  · have : ixN xs.length (n : Int) = some n := by unfold ixN; rw [if_pos (by omega), if_pos (by omega)]; rfl
    rw [this]; rfl
  · have : ixN xs.length (n : Int) = none := by
      unfold ixN
      rw [if_pos (by omega), if_neg (by omega)]
    rw [this, List.getElem?_eq_none (by omega)]; rfl
theorem atI_0 {α : Type} (xs : List α) : atI xs 0 = xs[0]? := atI_n xs 0
theorem atI_1 {α : Type} (xs : List α) : atI xs 1 = xs[1]? := atI_n xs 1
theorem atI_2 {α : Type} (xs : List α) : atI xs 2 = xs[2]? := atI_n xs 2
theorem atI_3 {α : Type} (xs : List α) : atI xs 3 = xs[3]? := atI_n xs 3

/-! ### blocks -/
def Run (F : Genv) (ss : List CS) (Γ : List Tr) (Q : SR → Prop) : Prop := ∃ r, exB F ss Γ = some r ∧ Q r
section
variable {F : Genv} {s : CS} {ss : List CS} {Γ Γ1 : List Tr} {Q Q' : SR → Prop} {t : Tr} {x : Str}
theorem Run.nx (h : exS F s Γ = some (.nx Γ1)) (k : Run F ss Γ1 Q) : Run F (s :: ss) Γ Q := by
  obtain ⟨r, e, q⟩ := k
  exact ⟨r, by rw [exB_nx h]; exact e, q⟩
theorem Run.rt (h : exS F s Γ = some (.rt t Γ1)) (k : Q (.rt t Γ1)) : Run F (s :: ss) Γ Q := ⟨_, exB_rt h, k⟩
theorem Run.ex (h : exS F s Γ = some (.ex x Γ1)) (k : Q (.ex x Γ1)) : Run F (s :: ss) Γ Q := ⟨_, by rw [exB, h], k⟩
theorem Run.bk (h : exS F s Γ = some (.bk Γ1)) (k : Q (.bk Γ1)) : Run F (s :: ss) Γ Q := ⟨_, by rw [exB, h], k⟩
theorem Run.nil (k : Q (.nx Γ)) : Run F [] Γ Q := ⟨_, by rw [exB], k⟩
theorem Run.imp (h : Run F ss Γ Q) (k : ∀ r, Q r → Q' r) : Run F ss Γ Q' := let ⟨r, e, q⟩ := h; ⟨r, e, k r q⟩
/-- behind a block -/
def Aft (F : Genv) (ss : List CS) (Q : SR → Prop) : SR → Prop
  | .nx Γ => Run F ss Γ Q
  | r => Q r
theorem Run.ite {c : CT} {a b : List CS} {k : Bool} (h : evT F c Γ = some (.ok k Γ1)) (h1 : k = true → Run F a Γ1 (Aft F ss Q)) (h2 : k = false → Run F b Γ1 (Aft F ss Q)) : Run F (.ite c a b :: ss) Γ Q := by
  have go : ∀ d, exS F (.ite c a b) Γ = exB F d Γ1 → Run F d Γ1 (Aft F ss Q) → Run F (.ite c a b :: ss) Γ Q := by
    intro d e ⟨r, e1, q⟩
    rw [e1] at e
    cases r with
    | nx Γ2 =>
      obtain ⟨r2, e2, q2⟩ := (show Run F ss Γ2 Q from q)
      exact ⟨r2, by rw [exB_nx e]; exact e2, q2⟩
    | rt t Γ2 => exact ⟨_, exB_rt e, q⟩
    | bk Γ2 => exact ⟨_, by rw [exB, e], q⟩
    | ct Γ2 => exact ⟨_, by rw [exB, e], q⟩
    | ex x Γ2 => exact ⟨_, by rw [exB, e], q⟩
  cases k with
  | true => exact go a (by simp only [exS, h]) (h1 rfl)
  | false => exact go b (by simp only [exS, h]) (h2 rfl)
theorem Run.iteF {c : CT} {a b : List CS} (h : evT F c Γ = some (.ok false Γ1)) (k : Run F b Γ1 (Aft F ss Q)) : Run F (.ite c a b :: ss) Γ Q := Run.ite h (fun z => by cases z) fun _ => k
theorem Run.iteT {c : CT} {a b : List CS} (h : evT F c Γ = some (.ok true Γ1)) (k : Run F a Γ1 (Aft F ss Q)) : Run F (.ite c a b :: ss) Γ Q := Run.ite h (fun _ => k) fun z => by cases z
/-- a test that falls through -/
theorem Run.skip {c : CT} {a : List CS} (h : evT F c Γ = some (.ok false Γ1)) (k : Run F ss Γ1 Q) : Run F (.ite c a [] :: ss) Γ Q := Run.iteF h (Run.nil k)
def Turn (P : List Tr → Prop) (B : List Tr → Prop) (Q : SR → Prop) : SR → Prop
  | .nx Γ => P Γ
  | .ct Γ => P Γ
  | .bk Γ => B Γ
  | r => Q r
theorem forL_run {body : List CS} {bind : List Tr → PyData → Option (List Tr)} (P : Nat → List Tr → Prop) (B : List Tr → Prop) : ∀ {ds : List PyData} {n : Nat} {Γ : List Tr},
    (∀ i d Γ, ds[i]? = some d → P (n + i) Γ → ∃ Γ1, bind Γ d = some Γ1 ∧ Run F body Γ1 (Turn (P (n + i + 1)) B Q)) → P n Γ → (∀ Γ, P (n + ds.length) Γ → Run F ss Γ Q) → (∀ Γ, B Γ → Run F ss Γ Q) →
      ∃ r, forL (fun Γ => exB F body Γ) bind ds Γ = some r ∧ Aft F ss Q r
  | [], n, Γ, _, p, k, _ => ⟨_, rfl, k Γ p⟩
  | d :: ds, n, Γ, h, p, k, kb => by
    obtain ⟨Γ1, e1, r, e2, q⟩ := h 0 d Γ rfl p
    have more := fun Γ2 (p2 : P (n + 0 + 1) Γ2) => forL_run P B (ds := ds) (n := n + 1) (Γ := Γ2) (fun i d Γ e pi => by
      have := h (i + 1) d Γ (by simpa using e) (by rw [show n + (i + 1) = n + 1 + i by omega]; exact pi)
      rw [show n + (i + 1) + 1 = n + 1 + i + 1 by omega] at this
      exact this) p2 (fun Γ p => k Γ (by rw [List.length_cons, show n + (ds.length + 1) = n + 1 + ds.length by omega]; exact p)) kb
    rw [forL, e1]
    cases r with
    | nx Γ2 => simp only [e2]; exact more Γ2 q
    | ct Γ2 => simp only [e2]; exact more Γ2 q
    | bk Γ2 => simp only [e2]; exact ⟨_, rfl, kb Γ2 q⟩
    | rt t Γ2 => simp only [e2]; exact ⟨_, rfl, q⟩
    | ex x Γ2 => simp only [e2]; exact ⟨_, rfl, q⟩
/-- a for loop, by what holds ahead of each turn -/
theorem Run.forB {tg : CTg} {it : CIt} {body : List CS} {ds : List PyData} (P : Nat → List Tr → Prop) (B : List Tr → Prop) (hit : evIt F it Γ = some (.ok ds Γ1)) (h0 : P 0 Γ1)
    (step : ∀ i d Γ, ds[i]? = some d → P i Γ → ∃ Γ1, bindTg Γ tg d = some Γ1 ∧ Run F body Γ1 (Turn (P (i + 1)) B Q)) (k : ∀ Γ, P ds.length Γ → Run F ss Γ Q) (kb : ∀ Γ, B Γ → Run F ss Γ Q) : Run F (.for_ tg it body :: ss) Γ Q := by
  obtain ⟨r, e, q⟩ := forL_run (F := F) (ss := ss) (Q := Q) (body := body) (bind := fun Γ d => bindTg Γ tg d) P B (ds := ds) (n := 0) (Γ := Γ1) (fun i d Γ e p => by
    have := step i d Γ e (by rw [Nat.zero_add] at p; exact p)
    rw [Nat.zero_add]; exact this) h0 (fun Γ p => k Γ (by rw [Nat.zero_add] at p; exact p)) kb
  have e' := (exS_for (F := F) (tg := tg) (body := body) hit).trans e
  cases r with
  | nx Γ2 =>
    obtain ⟨r2, e2, q2⟩ := (show Run F ss Γ2 Q from q)
    exact ⟨r2, by rw [exB_nx e']; exact e2, q2⟩
  | rt t Γ2 => exact ⟨_, exB_rt e', q⟩
  | bk Γ2 => exact ⟨_, by rw [exB, e'], q⟩
  | ct Γ2 => exact ⟨_, by rw [exB, e'], q⟩
  | ex x Γ2 => exact ⟨_, by rw [exB, e'], q⟩
theorem Run.for {tg : CTg} {it : CIt} {body : List CS} {ds : List PyData} (P : Nat → List Tr → Prop) (hit : evIt F it Γ = some (.ok ds Γ1)) (h0 : P 0 Γ1)
    (step : ∀ i d Γ, ds[i]? = some d → P i Γ → ∃ Γ1, bindTg Γ tg d = some Γ1 ∧ Run F body Γ1 (Turn (P (i + 1)) (fun _ => False) Q)) (k : ∀ Γ, P ds.length Γ → Run F ss Γ Q) : Run F (.for_ tg it body :: ss) Γ Q :=
  Run.forB P (fun _ => False) hit h0 step k fun _ z => z.elim
/-- .. over items -/
theorem Run.forM {α : Type} {c : α → PyData} {xs : List α} {tg : CTg} {it : CIt} {body : List CS} (P : Nat → List Tr → Prop) (hit : evIt F it Γ = some (.ok (xs.map c) Γ1)) (h0 : P 0 Γ1)
    (step : ∀ i x Γ, xs[i]? = some x → P i Γ → ∃ Γ1, bindTg Γ tg (c x) = some Γ1 ∧ Run F body Γ1 (Turn (P (i + 1)) (fun _ => False) Q)) (k : ∀ Γ, P xs.length Γ → Run F ss Γ Q) : Run F (.for_ tg it body :: ss) Γ Q :=
  Run.for P hit h0 (fun i d Γ e p => by
    rw [List.getElem?_map] at e
    obtain ⟨x, e1, rfl⟩ := Option.map_eq_some_iff.mp e
    exact step i x Γ e1 p) fun Γ p => k Γ (by rw [List.length_map] at p; exact p)
end
/-- a def's call -/
theorem run_of {F : Genv} {n : Nat} {ps : List Bool} {body : List CS} {ts : List Tr} {Q : FR → Prop} (hl : ts.length = ps.length) (hn : ps.length ≤ n)
    (h : Run F body (ts ++ List.replicate (n - ts.length) .gone) (fun r => match r with
      | .nx Γ => Q (.ok (.c .none) (outsOf ps Γ))
      | .rt t Γ => Q (.ok t (outsOf ps Γ))
      | .ex x _ => Q (.ex x)
      | _ => False)) : ∃ r, runDef F n ps body ts = some r ∧ Q r := by
  obtain ⟨r, e, q⟩ := h
  unfold runDef
  rw [if_pos ⟨hl, hn⟩, e]
  cases r with
  | nx Γ => exact ⟨_, rfl, q⟩
  | rt t Γ => exact ⟨_, rfl, q⟩
  | ex x Γ => exact ⟨_, rfl, q⟩
  | bk Γ => exact q.elim
  | ct Γ => exact q.elim
theorem run_ret {F : Genv} {n : Nat} {ps : List Bool} {body : List CS} {ts : List Tr} {t : Tr} {os : List Tr} (hl : ts.length = ps.length) (hn : ps.length ≤ n)
    (h : Run F body (ts ++ List.replicate (n - ts.length) .gone) (fun r => ∃ Γ, r = .rt t Γ ∧ outsOf ps Γ = os)) : runDef F n ps body ts = some (.ok t os) := by
  obtain ⟨r, e, q⟩ := run_of (Q := fun r => r = .ok t os) hl hn (h.imp fun r q => by obtain ⟨Γ, rfl, rfl⟩ := q; rfl)
  rw [e, q]
theorem run_none {F : Genv} {n : Nat} {ps : List Bool} {body : List CS} {ts : List Tr} {os : List Tr} (hl : ts.length = ps.length) (hn : ps.length ≤ n)
    (h : Run F body (ts ++ List.replicate (n - ts.length) .gone) (fun r => ∃ Γ, r = .nx Γ ∧ outsOf ps Γ = os)) : runDef F n ps body ts = some (.ok (.c .none) os) := by
  obtain ⟨r, e, q⟩ := run_of (Q := fun r => r = .ok (.c .none) os) hl hn (h.imp fun r q => by obtain ⟨Γ, rfl, rfl⟩ := q; rfl)
  rw [e, q]
/-- the function x, by what it does -/
def Fn (F : Genv) (x : Str) (S : (List Tr → Option FR) → Prop) : Prop := ∃ run, F.fn x = some run ∧ S run

/-! ### comprehensions -/
section
variable {F : Genv} {own : List Nat} {tg : CTg} {it : CIt} {elt : CE} {cond : List CT} {Γ Γ0 Γ1 : List Tr}
theorem lcL_map {α : Type} {c : α → PyData} {g : α → Tr} : ∀ {xs : List α} {acc : List Tr}, (∀ x ∈ xs, ∃ Γ1 Γ2, bindTg Γ0 tg (c x) = some Γ1 ∧ ev F elt Γ1 = some (.ok (g x) Γ2) ∧ wipeT Γ2 own = Γ0) → acc.length + xs.length ≤ sizeLine →
    lcL (fun _ Γ => ev F elt Γ) (fun Γ => evC F [] Γ) own (fun Γ d => bindTg Γ tg d) (xs.map c) Γ0 acc = some (.ok (.l (acc ++ xs.map g)) Γ0)
  | [], acc, _, _ => by simp [lcL]
  | x :: xs, acc, h, l => by
    obtain ⟨Γ1, Γ2, h1, h2, h3⟩ := h x List.mem_cons_self
    rw [List.length_cons] at l
    rw [List.map_cons, lcL, h1]
    have hc : evC F [] Γ1 = some (.ok true Γ1) := by rw [evC]
    simp only [hc, h2, h3, show acc.length < sizeLine by omega, if_true]
    rw [lcL_map (g := g) (fun y hy => h y (List.mem_cons_of_mem _ hy)) (by rw [List.length_append]; simp; omega)]
    simp
/-- [elt for tg in it], the state as it was -/
theorem lc_map {α : Type} {c : α → PyData} {xs : List α} (g : α → Tr) (hit : evIt F it Γ = some (.ok (xs.map c) Γ1)) (hw : wipeT Γ1 own = Γ0)
    (h : ∀ x ∈ xs, ∃ Γ1 Γ2, bindTg Γ0 tg (c x) = some Γ1 ∧ ev F elt Γ1 = some (.ok (g x) Γ2) ∧ wipeT Γ2 own = Γ0) (hl : xs.length ≤ sizeLine) : ev F (.lc own tg it [] elt) Γ = some (.ok (.l (xs.map g)) Γ0) := by
  simp only [ev, hit, hw]
  rw [lcL_map (g := g) h (by simpa using hl)]
  simp
theorem lcL_fil {α : Type} {c : α → PyData} {p : α → Bool} {t : CT} {g : α → Tr} : ∀ {xs : List α} {acc : List Tr}, (∀ x ∈ xs, ∃ Γ1 Γ2, bindTg Γ0 tg (c x) = some Γ1 ∧ evT F t Γ1 = some (.ok (p x) Γ2) ∧ wipeT Γ2 own = Γ0 ∧ (p x = true → ∃ Γ3, ev F elt Γ2 = some (.ok (g x) Γ3) ∧ wipeT Γ3 own = Γ0)) → acc.length + xs.length ≤ sizeLine →
    lcL (fun _ Γ => ev F elt Γ) (fun Γ => evC F [t] Γ) own (fun Γ d => bindTg Γ tg d) (xs.map c) Γ0 acc = some (.ok (.l (acc ++ (xs.filter p).map g)) Γ0)
  | [], acc, _, _ => by simp [lcL]
  | x :: xs, acc, h, l => by
    obtain ⟨Γ1, Γ2, h1, h2, h3, h4⟩ := h x List.mem_cons_self
    rw [List.length_cons] at l
    rw [List.map_cons, lcL, h1]
    cases q : p x with
    | true =>
      obtain ⟨Γ3, h5, h6⟩ := h4 q
      rw [q] at h2
      have hc : evC F [t] Γ1 = some (.ok true Γ2) := by rw [evC]; exact h2
      simp only [hc, h5, h6, show acc.length < sizeLine by omega, if_true]
      rw [lcL_fil (p := p) (g := g) (fun y hy => h y (List.mem_cons_of_mem _ hy)) (by rw [List.length_append]; simp; omega)]
      simp [List.filter_cons, q]
    | false =>
      rw [q] at h2
      have hc : evC F [t] Γ1 = some (.ok false Γ2) := by rw [evC]; exact h2
      simp only [hc, h3]
      rw [lcL_fil (p := p) (g := g) (fun y hy => h y (List.mem_cons_of_mem _ hy)) (by omega)]
      simp [List.filter_cons, q]
theorem lc_fil {α : Type} {c : α → PyData} {xs : List α} {t : CT} (p : α → Bool) (g : α → Tr) (hit : evIt F it Γ = some (.ok (xs.map c) Γ1)) (hw : wipeT Γ1 own = Γ0)
    (h : ∀ x ∈ xs, ∃ Γ1 Γ2, bindTg Γ0 tg (c x) = some Γ1 ∧ evT F t Γ1 = some (.ok (p x) Γ2) ∧ wipeT Γ2 own = Γ0 ∧ (p x = true → ∃ Γ3, ev F elt Γ2 = some (.ok (g x) Γ3) ∧ wipeT Γ3 own = Γ0)) (hl : xs.length ≤ sizeLine) :
    ev F (.lc own tg it [t] elt) Γ = some (.ok (.l ((xs.filter p).map g)) Γ0) := by
  simp only [ev, hit, hw]
  rw [lcL_fil (p := p) (g := g) h (by simpa using hl)]
  simp
/-- a comprehension that changes the state, by what holds of the state and of what is made -/
theorem lcL_inv {c : List Tr → Option TR} (P : Nat → List Tr → List Tr → Prop) : ∀ {ds : List PyData} {n : Nat} {Γ : List Tr} {acc : List Tr}, (∀ i d Γ acc, ds[i]? = some d → P (n + i) Γ acc → ∃ Γ1, bindTg Γ tg d = some Γ1 ∧
      ((∃ Γ2 Γ3 t, c Γ1 = some (.ok true Γ2) ∧ ev F elt Γ2 = some (.ok t Γ3) ∧ P (n + i + 1) (wipeT Γ3 own) (acc ++ [t])) ∨ ∃ Γ2, c Γ1 = some (.ok false Γ2) ∧ P (n + i + 1) (wipeT Γ2 own) acc)) →
    P n Γ acc → acc.length + ds.length ≤ sizeLine → ∃ Γ' r, lcL (fun _ Γ => ev F elt Γ) c own (fun Γ d => bindTg Γ tg d) ds Γ acc = some (.ok (.l r) Γ') ∧ P (n + ds.length) Γ' r
  | [], n, Γ, acc, _, p, _ => ⟨Γ, acc, rfl, p⟩
  | d :: ds, n, Γ, acc, h, p, l => by
    obtain ⟨Γ1, h1, h2⟩ := h 0 d Γ acc rfl p
    rw [List.length_cons] at l
    have more := fun Γ2 acc2 (p2 : P (n + 0 + 1) Γ2 acc2) (l2 : acc2.length + ds.length ≤ sizeLine) => lcL_inv (c := c) P (ds := ds) (n := n + 1) (Γ := Γ2) (acc := acc2) (fun i d Γ acc e pi => by
      have := h (i + 1) d Γ acc (by simpa using e) (by rw [show n + (i + 1) = n + 1 + i by omega]; exact pi)
      rw [show n + (i + 1) + 1 = n + 1 + i + 1 by omega] at this
      exact this) p2 l2
    rw [show n + (d :: ds).length = n + 1 + ds.length by rw [List.length_cons]; omega]
    rw [lcL, h1]
    rcases h2 with ⟨Γ2, Γ3, t, h2, h3, h4⟩ | ⟨Γ2, h2, h4⟩
    · simp only [h2, h3, show acc.length < sizeLine by omega, if_true]
      exact more _ _ h4 (by rw [List.length_append]; simp; omega)
    · simp only [h2]
      exact more _ _ h4 (by omega)
theorem lc_inv {ds : List PyData} (P : Nat → List Tr → List Tr → Prop) (hit : evIt F it Γ = some (.ok ds Γ1)) (h0 : P 0 (wipeT Γ1 own) [])
    (step : ∀ i d Γ acc, ds[i]? = some d → P i Γ acc → ∃ Γ1, bindTg Γ tg d = some Γ1 ∧ ((∃ Γ2 Γ3 t, evC F cond Γ1 = some (.ok true Γ2) ∧ ev F elt Γ2 = some (.ok t Γ3) ∧ P (i + 1) (wipeT Γ3 own) (acc ++ [t])) ∨ ∃ Γ2, evC F cond Γ1 = some (.ok false Γ2) ∧ P (i + 1) (wipeT Γ2 own) acc))
    (hl : ds.length ≤ sizeLine) : ∃ Γ' r, ev F (.lc own tg it cond elt) Γ = some (.ok (.l r) Γ') ∧ P ds.length Γ' r := by
  obtain ⟨Γ', r, e, p⟩ := lcL_inv (F := F) (own := own) (tg := tg) (elt := elt) (c := fun Γ => evC F cond Γ) P (ds := ds) (n := 0) (Γ := wipeT Γ1 own) (acc := []) (fun i d Γ acc e p => by
    have := step i d Γ acc e (by rw [Nat.zero_add] at p; exact p)
    rw [Nat.zero_add]; exact this) h0 (by simpa using hl)
  refine ⟨Γ', r, ?_, by rw [Nat.zero_add] at p; exact p⟩
  simp only [ev, hit]
  exact e
end
end Hw
set_option Elab.async false
set_option linter.all false
set_option maxRecDepth 100000
namespace Hp
open PySem PySem.Spec PyProof.Rows L2 Hw
def b_is_number : List CS :=
  [.ret (.and_ (.prim (.isi "int") [.pk 0]) (.and_ (.not_ (.prim (.isi "bool") [.pk 0])) (.chain .LtE .LtE [.pk 1, .pk 0] (.var 2))))]
def r_is_number (F : Genv) : List Tr → Option FR := runDef F 3 [false, false, false] b_is_number
def b_is_tie : List CS :=
  [.ite (.or_ (.not_ (.e (.prim (.isi "tuple") [.pk 1]))) (.e (.prim (.cmp .NotEq) [.e (.prim (.bi .len) [.pk 1]), .e (.lit (.int 3))])))
    [.ret (.lit (.bool false))]
    [],
  .ite (.or_ (.not_ (.e (.call ("is_number" : Str) [.e (.pth 1 [.lit (.int 0)]), .e (.lit (.int 0)), .e (.prim .sub [.pk 0, .e (.lit (.int 1))])]))) (.not_ (.e (.call ("is_number" : Str) [.e (.pth 1 [.lit (.int 1)]), .e (.lit (.int 0)), .e (.prim .sub [.pk 0, .e (.lit (.int 1))])]))))
    [.ret (.lit (.bool false))]
    [],
  .ret (.and_ (.prim (.cmp .NotEq) [.e (.pth 1 [.lit (.int 0)]), .e (.pth 1 [.lit (.int 1)])]) (.call ("is_number" : Str) [.e (.pth 1 [.lit (.int 2)]), .e (.lit (.int 1)), .e (.glb ("MOST_OVER" : Str))]))]
def r_is_tie (F : Genv) : List Tr → Option FR := runDef F 2 [false, false] b_is_tie
def b_are_ends : List CS :=
  [.ite (.or_ (.not_ (.e (.prim (.isi "tuple") [.pk 1]))) (.not_ (.e (.chain .LtE .LtE [.e (.lit (.int 1)), .e (.prim (.bi .len) [.pk 1])] (.glb ("MOST_KINDS" : Str))))))
    [.ret (.lit (.bool false))]
    [],
  .ret (.prim (.bi .all) [.e (.lc [2] (.nm 2) (.sq (.var 1)) [] (.call ("is_number" : Str) [.e (.var 2), .e (.lit (.int 0)), .e (.prim .sub [.pk 0, .e (.lit (.int 1))])]))])]
def r_are_ends (F : Genv) : List Tr → Option FR := runDef F 3 [false, false] b_are_ends
def b_are_ties : List CS :=
  [.ite (.or_ (.not_ (.e (.prim (.isi "tuple") [.pk 1]))) (.not_ (.e (.prim (.bi .all) [.e (.lc [3] (.nm 3) (.sq (.var 1)) [] (.call ("is_tie" : Str) [.e (.var 0), .e (.var 3)]))]))))
    [.ret (.lit (.bool false))]
    [],
  .ret (.prim (.bi .all) [.e (.lc [2] (.nm 2) (.rng1 (.prim .sub [.e (.prim (.bi .len) [.pk 1]), .e (.lit (.int 1))])) [] (.prim (.cmp .Lt) [.e (.prim (.sl false true) [.e (.pth 1 [.var 2]), .e (.lit (.int 2))]), .e (.prim (.sl false true) [.e (.pth 1 [.prim .add [.pk 2, .e (.lit (.int 1))]]), .e (.lit (.int 2))])]))])]
def r_are_ties (F : Genv) : List Tr → Option FR := runDef F 4 [false, false] b_are_ties
def b_is_net : List CS :=
  [.ite (.or_ (.not_ (.e (.prim (.isi "tuple") [.pk 0]))) (.or_ (.e (.prim (.cmp .NotEq) [.e (.prim (.bi .len) [.pk 0]), .e (.lit (.int 3))])) (.not_ (.e (.call ("is_number" : Str) [.e (.pth 0 [.lit (.int 0)]), .e (.lit (.int 1)), .e (.glb ("MOST_PLACES" : Str))])))))
    [.ret (.lit (.bool false))]
    [],
  .ret (.and_ (.call ("are_ends" : Str) [.e (.pth 0 [.lit (.int 0)]), .e (.pth 0 [.lit (.int 1)])]) (.call ("are_ties" : Str) [.e (.pth 0 [.lit (.int 0)]), .e (.pth 0 [.lit (.int 2)])]))]
def r_is_net (F : Genv) : List Tr → Option FR := runDef F 1 [false] b_is_net
def b_need_net : List CS :=
  [.ite (.not_ (.e (.call ("is_net" : Str) [.e (.var 0)])))
    [.rais ("NoNet" : Str)]
    []]
def r_need_net (F : Genv) : List Tr → Option FR := runDef F 1 [false] b_need_net
def b_is_line : List CS :=
  [.ite (.or_ (.not_ (.e (.prim (.isi "tuple") [.pk 2]))) (.or_ (.e (.prim (.cmp .NotEq) [.e (.prim (.bi .len) [.pk 2]), .pk 0])) (.not_ (.e (.prim (.bi .all) [.e (.lc [4] (.nm 4) (.sq (.var 2)) [] (.call ("is_number" : Str) [.e (.var 4), .e (.lit (.int 0)), .e (.var 3)]))])))))
    [.ret (.lit (.bool false))]
    [],
  .ret (.prim (.cmp .Eq) [.e (.pth 2 [.var 1]), .e (.lit (.int 0))])]
def r_is_line (F : Genv) : List Tr → Option FR := runDef F 5 [false, false, false, false] b_is_line
def b_are_lines : List CS :=
  [.ite (.or_ (.not_ (.e (.prim (.isi "tuple") [.pk 1]))) (.e (.prim (.cmp .NotEq) [.e (.prim (.bi .len) [.pk 1]), .e (.prim (.bi .len) [.e (.pth 0 [.lit (.int 1)])])])))
    [.ret (.lit (.bool false))]
    [],
  .ret (.prim (.bi .all) [.e (.lc [3, 4] (.tp [3, 4]) (.zip [.e (.pth 0 [.lit (.int 1)]), .e (.var 1)]) [] (.call ("is_line" : Str) [.e (.pth 0 [.lit (.int 0)]), .e (.var 3), .e (.var 4), .e (.var 2)]))])]
def r_are_lines (F : Genv) : List Tr → Option FR := runDef F 5 [false, false, false] b_are_lines
def b_need_heaps : List CS :=
  [.ite (.not_ (.e (.call ("are_lines" : Str) [.e (.var 0), .e (.var 1), .e (.glb ("MOST_HEAP" : Str))])))
    [.rais ("NoHeaps" : Str)]
    []]
def r_need_heaps (F : Genv) : List Tr → Option FR := runDef F 2 [false, false] b_need_heaps
def b_fall_along : List CS :=
  [.ret (.prim .sub [.e (.pth 0 [.var 1, .pth 2 [.lit (.int 0)]]), .e (.pth 0 [.var 1, .pth 2 [.lit (.int 1)]])])]
def r_fall_along (F : Genv) : List Tr → Option FR := runDef F 3 [false, false, false] b_fall_along
def b_fall : List CS :=
  [.ex (.call ("need_net" : Str) [.e (.var 0)]),
  .ex (.call ("need_heaps" : Str) [.e (.var 0), .e (.var 1)]),
  .ite (.not_ (.e (.call ("is_number" : Str) [.e (.var 2), .e (.lit (.int 0)), .e (.prim .sub [.e (.prim (.bi .len) [.e (.pth 0 [.lit (.int 1)])]), .e (.lit (.int 1))])])))
    [.rais ("NoKind" : Str)]
    [],
  .ite (.not_ (.e (.call ("is_number" : Str) [.e (.var 3), .e (.lit (.int 0)), .e (.prim .sub [.e (.prim (.bi .len) [.e (.pth 0 [.lit (.int 2)])]), .e (.lit (.int 1))])])))
    [.rais ("NoTie" : Str)]
    [],
  .ret (.call ("fall_along" : Str) [.e (.var 1), .e (.var 2), .e (.pth 0 [.lit (.int 2), .var 3])])]
def r_fall (F : Genv) : List Tr → Option FR := runDef F 4 [false, false, false, false] b_fall
def b_offer_along : List CS :=
  [.set 2 (.lit .none),
  .for_ (.nm 3) (.rng1 (.prim (.bi .len) [.pk 0]))
    [.set 4 (.call ("fall_along" : Str) [.e (.var 0), .e (.var 3), .e (.var 1)]),
    .ite (.and_ (.e (.prim (.cmp .Gt) [.pk 4, .e (.lit (.int 0))])) (.or_ (.e (.prim (.cmp .Is) [.pk 2, .e (.lit .none)])) (.e (.prim (.cmp .Gt) [.pk 4, .e (.call ("fall_along" : Str) [.e (.var 0), .e (.var 2), .e (.var 1)])]))))
      [.set 2 (.var 3)]
      []],
  .ret (.mv 2)]
def r_offer_along (F : Genv) : List Tr → Option FR := runDef F 5 [false, false] b_offer_along
def b_all_ties : List CS :=
  [.ret (.prim (.trg false) [.e (.prim (.bi .len) [.e (.pth 0 [.lit (.int 2)])])])]
def r_all_ties (F : Genv) : List Tr → Option FR := runDef F 1 [false] b_all_ties
def b_offer_over : List CS :=
  [.set 3 (.lst []),
  .for_ (.tp [4, 5]) (.enm (.pth 0 [.lit (.int 2)]))
    [.ite (.e (.prim (.cmp .In) [.pk 4, .pk 2]))
      [.app 3 [] (.call ("offer_along" : Str) [.e (.var 1), .e (.var 5)])]
      [.app 3 [] (.lit .none)]],
  .ret (.mv 3)]
def r_offer_over (F : Genv) : List Tr → Option FR := runDef F 6 [false, false, false] b_offer_over
def b_offer : List CS :=
  [.ex (.call ("need_net" : Str) [.e (.var 0)]),
  .ex (.call ("need_heaps" : Str) [.e (.var 0), .e (.var 1)]),
  .ret (.call ("offer_over" : Str) [.e (.var 0), .e (.var 1), .e (.call ("all_ties" : Str) [.e (.var 0)])])]
def r_offer (F : Genv) : List Tr → Option FR := runDef F 2 [false, false] b_offer
def b_law_b_mixed : List CS :=
  [.ite (.e (.prim (.cmp .GtE) [.pk 0, .e (.prim .pow [.e (.lit (.int 10)), .e (.lit (.int 18))])]))
    [.ret (.mv 0)]
    [],
  .set 2 (.prim .mod [.e (.prim .add [.e (.prim .add [.e (.prim .mul [.e (.prim .mod [.pk 0, .e (.lit (.int 2147483543))]), .e (.lit (.int 40961))]), .e (.prim .mul [.pk 1, .e (.lit (.int 9013))])]), .e (.lit (.int 577))]), .e (.lit (.int 2147483497))]),
  .set 3 (.prim .mod [.e (.prim .add [.e (.prim .add [.e (.prim .mul [.pk 2, .pk 2]), .e (.prim .mul [.e (.lit (.int 911)), .pk 1])]), .e (.lit (.int 67))]), .e (.lit (.int 2147483489))]),
  .set 4 (.prim .mod [.e (.prim .add [.e (.prim .add [.e (.prim .mul [.pk 3, .pk 3]), .e (.prim .mul [.e (.lit (.int 733)), .pk 2])]), .pk 1]), .e (.lit (.int 2147483477))]),
  .ret (.prim .add [.e (.prim .mul [.pk 3, .e (.lit (.int 2147483477))]), .pk 4])]
def r_law_b_mixed (F : Genv) : List Tr → Option FR := runDef F 5 [false, false] b_law_b_mixed
def b_law_b_take : List CS :=
  [.ite (.e (.prim (.cmp .Lt) [.e (.pth 0 [.lit (.int 2)]), .pk 1]))
    [.set 3 (.pth 0 [.lit (.int 1)]),
    .set 4 (.prim .add [.e (.prim .mul [.e (.lit (.int 19)), .pk 3]), .e (.lit (.int 8))]),
    .ite (.e (.prim (.cmp .Lt) [.pk 3, .e (.prim (.bi .len) [.e (.pth 0 [.lit (.int 0)])])]))
      [.set 4 (.pth 0 [.lit (.int 0), .var 3])]
      [.ite (.e (.prim (.cmp .NotEq) [.e (.pth 0 [.lit (.int 0)]), .e (.lst [])]))
        [.set 4 (.prim .add [.e (.prim .mod [.e (.pth 0 [.lit (.int 0), .prim .mod [.e (.prim .mul [.pk 3, .e (.lit (.int 13))]), .e (.prim (.bi .len) [.e (.pth 0 [.lit (.int 0)])])]]), .e (.lit (.int 1000037))]), .e (.prim .mul [.pk 3, .e (.lit (.int 1000117))])])]
        []],
    .setp 0 [] (.lit (.int 1)) (.prim .add [.pk 3, .e (.lit (.int 1))]),
    .setp 0 [] (.lit (.int 2)) (.call ("_law_b_mixed" : Str) [.e (.var 4), .e (.var 3)])]
    [],
  .set 2 (.prim .mod [.e (.pth 0 [.lit (.int 2)]), .pk 1]),
  .setp 0 [] (.lit (.int 2)) (.prim .fdiv [.e (.pth 0 [.lit (.int 2)]), .pk 1]),
  .ret (.mv 2)]
def r_law_b_take (F : Genv) : List Tr → Option FR := runDef F 5 [true, false] b_law_b_take
def b_law_b_net : List CS :=
  [.set 3 (.prim .add [.e (.lit (.int 1)), .e (.call ("_law_b_take" : Str) [.io 0, .e (.var 1)])]),
  .set 4 (.prim (.bi .tuple) [.e (.lc [10] (.nm 10) (.rng1 (.prim .add [.e (.lit (.int 1)), .e (.call ("_law_b_take" : Str) [.io 0, .e (.var 2)])])) [] (.call ("_law_b_take" : Str) [.io 0, .e (.var 3)]))]),
  .set 5 (.prim .add [.e (.lit (.int 1)), .e (.call ("_law_b_take" : Str) [.io 0, .e (.lit (.int 5))])]),
  .set 6 (.call ("_law_b_take" : Str) [.io 0, .e (.lit (.int 3))]),
  .set 7 (.lst []),
  .for_ (.nm 8) (.rng1 (.var 3))
    [.for_ (.nm 9) (.sq (.lc [11] (.nm 11) (.rng1 (.var 3)) [.and_ (.e (.prim (.cmp .NotEq) [.pk 11, .pk 8])) (.e (.prim (.cmp .Lt) [.e (.call ("_law_b_take" : Str) [.io 0, .e (.lit (.int 5))]), .pk 5]))] (.var 11)))
      [.app 7 [] (.tup [.e (.var 8), .e (.var 9), .e (.prim .ix [.e (.lst [.e (.lit (.int 1)), .e (.lit (.int 9)), .e (.prim .add [.e (.lit (.int 1)), .e (.call ("_law_b_take" : Str) [.io 0, .e (.lit (.int 9))])])]), .pk 6])])]],
  .ret (.tup [.e (.var 3), .e (.var 4), .e (.prim (.bi .tuple) [.pk 7])])]
def r_law_b_net (F : Genv) : List Tr → Option FR := runDef F 12 [true, false, false] b_law_b_net
def b_law_b_lines : List CS :=
  [.set 3 (.lst []),
  .for_ (.nm 4) (.sq (.pth 1 [.lit (.int 1)]))
    [.app 3 [] (.prim (.bi .tuple) [.e (.lc [5] (.nm 5) (.rng1 (.pth 1 [.lit (.int 0)])) [] (.prim .mul [.e (.call ("_law_b_take" : Str) [.io 0, .e (.var 2)]), .e (.prim (.bi .int) [.e (.prim (.cmp .NotEq) [.pk 5, .pk 4])])]))])],
  .ret (.prim (.bi .tuple) [.pk 3])]
def r_law_b_lines (F : Genv) : List Tr → Option FR := runDef F 6 [true, false, false] b_law_b_lines
def b_law_b_heaps : List CS :=
  [.ret (.call ("_law_b_lines" : Str) [.io 0, .e (.var 1), .e (.prim .ix [.e (.lst [.e (.lit (.int 2)), .e (.lit (.int 4)), .e (.lit (.int 12)), .e (.lit (.int 60)), .e (.prim .add [.e (.prim .pow [.e (.lit (.int 10)), .e (.lit (.int 9))]), .e (.lit (.int 1))])]), .e (.call ("_law_b_take" : Str) [.io 0, .e (.lit (.int 5))])])])]
def r_law_b_heaps (F : Genv) : List Tr → Option FR := runDef F 2 [true, false] b_law_b_heaps
def b_law_b_comers : List CS :=
  [.ret (.call ("_law_b_lines" : Str) [.io 0, .e (.var 1), .e (.prim .ix [.e (.lst [.e (.lit (.int 1)), .e (.lit (.int 2)), .e (.lit (.int 4)), .e (.lit (.int 10))]), .e (.call ("_law_b_take" : Str) [.io 0, .e (.lit (.int 4))])])])]
def r_law_b_comers (F : Genv) : List Tr → Option FR := runDef F 2 [true, false] b_law_b_comers
def b_law_b_offer : List CS :=
  [.set 2 (.lst []),
  .for_ (.nm 3) (.sq (.pth 0 [.lit (.int 2)]))
    [.set 4 (.lc [5] (.nm 5) (.sq (.var 1)) [] (.prim .sub [.e (.pth 5 [.pth 3 [.lit (.int 0)]]), .e (.pth 5 [.pth 3 [.lit (.int 1)]])])),
    .app 2 [] (.ife (.e (.prim (.cmp .Gt) [.e (.prim (.bi .max1) [.pk 4]), .e (.lit (.int 0))])) (.idx 4 (.prim (.bi .max1) [.pk 4])) (.lit .none))],
  .ret (.mv 2)]
def r_law_b_offer (F : Genv) : List Tr → Option FR := runDef F 6 [false, false] b_law_b_offer
def b_law_b_same : List CS :=
  [.ret (.prim (.cmp .Eq) [.e (.prim .rpr [.pk 0]), .e (.prim .rpr [.pk 1])])]
def r_law_b_same (F : Genv) : List Tr → Option FR := runDef F 2 [true, false] b_law_b_same
def b_law_b_falls_right : List CS :=
  [.for_ (.nm 3) (.rng1 (.prim .mul [.e (.lit (.int 4)), .e (.prim (.bi .int) [.e (.prim (.cmp .NotEq) [.e (.pth 1 [.lit (.int 2)]), .e (.tup [])])])]))
    [.set 4 (.call ("_law_b_take" : Str) [.io 0, .e (.prim (.bi .len) [.e (.pth 1 [.lit (.int 1)])])]),
    .set 5 (.call ("_law_b_take" : Str) [.io 0, .e (.prim (.bi .len) [.e (.pth 1 [.lit (.int 2)])])]),
    .setT [6, 7, 8] (.pth 1 [.lit (.int 2), .var 5]),
    .ite (.not_ (.e (.call ("_law_b_same" : Str) [.e (.call ("fall" : Str) [.e (.var 1), .e (.var 2), .e (.var 4), .e (.var 5)]), .e (.prim .sub [.e (.pth 2 [.var 4, .var 6]), .e (.pth 2 [.var 4, .var 7])])])))
      [.ret (.lit (.bool false))]
      []],
  .ret (.lit (.bool true))]
def r_law_b_falls_right (F : Genv) : List Tr → Option FR := runDef F 9 [true, false, false] b_law_b_falls_right
def b_squares_of : List CS :=
  [.ret (.prim (.bi .sum) [.e (.lc [1] (.nm 1) (.sq (.var 0)) [] (.prim (.bi .sum) [.e (.lc [2] (.nm 2) (.sq (.var 1)) [] (.prim .mul [.pk 2, .pk 2]))]))])]
def r_squares_of (F : Genv) : List Tr → Option FR := runDef F 3 [false] b_squares_of
def b_squares : List CS :=
  [.ex (.call ("need_net" : Str) [.e (.var 0)]),
  .ex (.call ("need_heaps" : Str) [.e (.var 0), .e (.var 1)]),
  .ret (.call ("squares_of" : Str) [.e (.var 1)])]
def r_squares (F : Genv) : List Tr → Option FR := runDef F 2 [false, false] b_squares
def b_is_offer : List CS :=
  [.ite (.or_ (.not_ (.e (.prim (.isi "list") [.pk 1]))) (.e (.prim (.cmp .NotEq) [.e (.prim (.bi .len) [.pk 1]), .e (.prim (.bi .len) [.e (.pth 0 [.lit (.int 2)])])])))
    [.ret (.lit (.bool false))]
    [],
  .ret (.prim (.bi .all) [.e (.lc [2] (.nm 2) (.sq (.var 1)) [] (.or_ (.prim (.cmp .Is) [.pk 2, .e (.lit .none)]) (.call ("is_number" : Str) [.e (.var 2), .e (.lit (.int 0)), .e (.prim .sub [.e (.prim (.bi .len) [.e (.pth 0 [.lit (.int 1)])]), .e (.lit (.int 1))])])))])]
def r_is_offer (F : Genv) : List Tr → Option FR := runDef F 3 [false, false] b_is_offer
def b_weight_of : List CS :=
  [.set 3 (.lit (.int 0)),
  .for_ (.tp [4, 5]) (.zip [.e (.pth 0 [.lit (.int 2)]), .e (.var 2)])
    [.ite (.e (.prim (.cmp .IsNot) [.pk 5, .e (.lit .none)]))
      [.set 3 (.prim .add [.pk 3, .e (.prim .mul [.e (.pth 4 [.lit (.int 2)]), .e (.call ("fall_along" : Str) [.e (.var 1), .e (.var 5), .e (.var 4)])])])]
      []],
  .ret (.mv 3)]
def r_weight_of (F : Genv) : List Tr → Option FR := runDef F 6 [false, false, false] b_weight_of
def b_weight : List CS :=
  [.ex (.call ("need_net" : Str) [.e (.var 0)]),
  .ex (.call ("need_heaps" : Str) [.e (.var 0), .e (.var 1)]),
  .ite (.not_ (.e (.call ("is_offer" : Str) [.e (.var 0), .e (.var 2)])))
    [.rais ("NoOffer" : Str)]
    [],
  .ret (.call ("weight_of" : Str) [.e (.var 0), .e (.var 1), .e (.var 2)])]
def r_weight (F : Genv) : List Tr → Option FR := runDef F 3 [false, false, false] b_weight
def b_law_b_squares : List CS :=
  [.set 1 (.lit (.int 0)),
  .for_ (.nm 2) (.sq (.var 0))
    [.for_ (.nm 3) (.sq (.var 2))
      [.set 1 (.prim .add [.pk 1, .e (.prim .mul [.pk 3, .pk 3])])]],
  .ret (.mv 1)]
def r_law_b_squares (F : Genv) : List Tr → Option FR := runDef F 4 [false] b_law_b_squares
def b_law_b_weight : List CS :=
  [.set 3 (.lit (.int 0)),
  .for_ (.tp [4, 5]) (.zip [.e (.pth 0 [.lit (.int 2)]), .e (.var 2)])
    [.ite (.e (.prim (.cmp .IsNot) [.pk 5, .e (.lit .none)]))
      [.set 6 (.pth 1 [.var 5]),
      .set 3 (.prim .add [.pk 3, .e (.prim .mul [.e (.pth 4 [.lit (.int 2)]), .e (.prim .sub [.e (.pth 6 [.pth 4 [.lit (.int 0)]]), .e (.pth 6 [.pth 4 [.lit (.int 1)]])])])])]
      []],
  .ret (.mv 3)]
def r_law_b_weight (F : Genv) : List Tr → Option FR := runDef F 7 [false, false, false] b_law_b_weight
def b_need_comers : List CS :=
  [.ite (.not_ (.e (.call ("are_lines" : Str) [.e (.var 0), .e (.var 1), .e (.glb ("MOST_COMING" : Str))])))
    [.rais ("NoComers" : Str)]
    []]
def r_need_comers (F : Genv) : List Tr → Option FR := runDef F 2 [false, false] b_need_comers
def b_offered_at : List CS :=
  [.ret (.prim (.bi .sum) [.e (.lc [5, 6] (.tp [5, 6]) (.zip [.e (.pth 0 [.lit (.int 2)]), .e (.var 1)]) [.and_ (.e (.prim (.cmp .Eq) [.e (.pth 5 [.var 4]), .pk 3])) (.e (.prim (.cmp .Eq) [.pk 6, .pk 2]))] (.pth 5 [.lit (.int 2)]))])]
def r_offered_at (F : Genv) : List Tr → Option FR := runDef F 7 [false, false, false, false, false] b_offered_at
def b_much_of : List CS :=
  [.set 3 (.lit (.int 0)),
  .for_ (.tp [4, 5]) (.enm (.pth 0 [.lit (.int 1)]))
    [.for_ (.nm 6) (.sq (.lc [9] (.nm 9) (.rng1 (.pth 0 [.lit (.int 0)])) [.e (.prim (.cmp .NotEq) [.pk 9, .pk 5])] (.var 9)))
      [.set 7 (.call ("offered_at" : Str) [.e (.var 0), .e (.var 2), .e (.var 4), .e (.var 6), .e (.lit (.int 0))]),
      .set 8 (.prim .add [.e (.call ("offered_at" : Str) [.e (.var 0), .e (.var 2), .e (.var 4), .e (.var 6), .e (.lit (.int 1))]), .e (.pth 1 [.var 4, .var 6])]),
      .set 3 (.prim .add [.e (.prim .add [.pk 3, .e (.prim .mul [.pk 7, .pk 7])]), .e (.prim .mul [.pk 8, .pk 8])])]],
  .ret (.mv 3)]
def r_much_of (F : Genv) : List Tr → Option FR := runDef F 10 [false, false, false] b_much_of
def b_heaped_of : List CS :=
  [.ret (.prim (.bi .sum) [.e (.lc [2, 3] (.tp [2, 3]) (.zip [.e (.var 0), .e (.var 1)]) [] (.prim (.bi .sum) [.e (.lc [4, 5] (.tp [4, 5]) (.zip [.e (.var 2), .e (.var 3)]) [] (.prim .mul [.pk 4, .pk 5]))]))])]
def r_heaped_of (F : Genv) : List Tr → Option FR := runDef F 6 [false, false] b_heaped_of
def b_rise : List CS :=
  [.ex (.call ("need_net" : Str) [.e (.var 0)]),
  .ex (.call ("need_heaps" : Str) [.e (.var 0), .e (.var 1)]),
  .ex (.call ("need_comers" : Str) [.e (.var 0), .e (.var 2)]),
  .set 3 (.call ("offer_over" : Str) [.e (.var 0), .e (.var 1), .e (.call ("all_ties" : Str) [.e (.var 0)])]),
  .ret (.tup [.e (.call ("much_of" : Str) [.e (.var 0), .e (.var 2), .e (.var 3)]), .e (.call ("heaped_of" : Str) [.e (.var 1), .e (.var 2)])])]
def r_rise (F : Genv) : List Tr → Option FR := runDef F 4 [false, false, false] b_rise
def b_law_b_much : List CS :=
  [.set 3 (.lit (.int 0)),
  .for_ (.tp [4, 5]) (.enm (.pth 0 [.lit (.int 1)]))
    [.set 6 (.prim .mul [.e (.lst [.e (.lit (.int 0))]), .e (.pth 0 [.lit (.int 0)])]),
    .set 7 (.prim (.bi .list) [.e (.pth 1 [.var 4])]),
    .for_ (.tp [9, 10]) (.zip [.e (.pth 0 [.lit (.int 2)]), .e (.var 2)])
      [.ite (.and_ (.e (.prim (.cmp .Eq) [.pk 10, .pk 4])) (.e (.prim (.cmp .IsNot) [.pk 10, .e (.lit .none)])))
        [.setp 6 [] (.pth 9 [.lit (.int 0)]) (.prim .add [.e (.pth 6 [.pth 9 [.lit (.int 0)]]), .e (.pth 9 [.lit (.int 2)])]),
        .setp 7 [] (.pth 9 [.lit (.int 1)]) (.prim .add [.e (.pth 7 [.pth 9 [.lit (.int 1)]]), .e (.pth 9 [.lit (.int 2)])])]
        []],
    .for_ (.nm 8) (.sq (.lc [10] (.nm 10) (.rng1 (.pth 0 [.lit (.int 0)])) [.e (.prim (.cmp .NotEq) [.pk 10, .pk 5])] (.var 10)))
      [.set 3 (.prim .add [.pk 3, .e (.prim .mul [.e (.pth 6 [.var 8]), .e (.pth 6 [.var 8])])]),
      .set 3 (.prim .add [.pk 3, .e (.prim .mul [.e (.pth 7 [.var 8]), .e (.pth 7 [.var 8])])])]],
  .ret (.mv 3)]
def r_law_b_much (F : Genv) : List Tr → Option FR := runDef F 11 [false, false, false] b_law_b_much
def b_greatest_in : List CS :=
  [.set 2 (.lit (.int 0)),
  .for_ (.nm 3) (.sq (.pth 0 [.lit (.int 1)]))
    [.for_ (.nm 4) (.sq (.lc [7] (.nm 7) (.rng1 (.pth 0 [.lit (.int 0)])) [.e (.prim (.cmp .NotEq) [.pk 7, .pk 3])] (.var 7)))
      [.set 5 (.prim (.bi .sum) [.e (.lc [8] (.nm 8) (.sq (.pth 0 [.lit (.int 2)])) [.e (.prim (.cmp .Eq) [.e (.pth 8 [.lit (.int 0)]), .pk 4])] (.pth 8 [.lit (.int 2)]))]),
      .set 6 (.prim .add [.e (.prim (.bi .sum) [.e (.lc [8] (.nm 8) (.sq (.pth 0 [.lit (.int 2)])) [.e (.prim (.cmp .Eq) [.e (.pth 8 [.lit (.int 1)]), .pk 4])] (.pth 8 [.lit (.int 2)]))]), .pk 1]),
      .set 2 (.prim .add [.e (.prim .add [.pk 2, .e (.prim .mul [.pk 5, .pk 5])]), .e (.prim .mul [.pk 6, .pk 6])])]],
  .ret (.mv 2)]
def r_greatest_in (F : Genv) : List Tr → Option FR := runDef F 9 [false, false] b_greatest_in
def b_greatest : List CS :=
  [.ex (.call ("need_net" : Str) [.e (.var 0)]),
  .ite (.not_ (.e (.call ("is_number" : Str) [.e (.var 1), .e (.lit (.int 0)), .e (.glb ("MOST_COMING" : Str))])))
    [.rais ("NoNumber" : Str)]
    [],
  .ret (.call ("greatest_in" : Str) [.e (.var 0), .e (.var 1)])]
def r_greatest (F : Genv) : List Tr → Option FR := runDef F 2 [false, false] b_greatest
def b_law_b_greatest : List CS :=
  [.set 2 (.lit (.int 0)),
  .for_ (.nm 3) (.sq (.pth 0 [.lit (.int 1)]))
    [.for_ (.nm 4) (.sq (.lc [7] (.nm 7) (.rng1 (.pth 0 [.lit (.int 0)])) [.e (.prim (.cmp .NotEq) [.pk 7, .pk 3])] (.var 7)))
      [.set 5 (.lit (.int 0)),
      .set 6 (.var 1),
      .for_ (.tp [8, 9, 10]) (.sq (.pth 0 [.lit (.int 2)]))
        [.set 5 (.prim .add [.pk 5, .e (.prim .mul [.pk 10, .e (.prim (.bi .int) [.e (.prim (.cmp .Eq) [.pk 8, .pk 4])])])]),
        .set 6 (.prim .add [.pk 6, .e (.prim .mul [.pk 10, .e (.prim (.bi .int) [.e (.prim (.cmp .Eq) [.pk 9, .pk 4])])])])],
      .set 2 (.prim .add [.e (.prim .add [.pk 2, .e (.prim .mul [.pk 5, .pk 5])]), .e (.prim .mul [.pk 6, .pk 6])])]],
  .ret (.mv 2)]
def r_law_b_greatest (F : Genv) : List Tr → Option FR := runDef F 11 [false, false] b_law_b_greatest
def b_are_worths : List CS :=
  [.ex (.call ("need_net" : Str) [.e (.var 0)]),
  .ite (.or_ (.not_ (.e (.prim (.isi "tuple") [.pk 1]))) (.e (.prim (.cmp .NotEq) [.e (.prim (.bi .len) [.pk 1]), .e (.prim (.bi .len) [.e (.pth 0 [.lit (.int 1)])])])))
    [.ret (.lit (.bool false))]
    [],
  .ret (.prim (.bi .all) [.e (.lc [2] (.nm 2) (.sq (.var 1)) [] (.call ("is_number" : Str) [.e (.var 2), .e (.lit (.int 1)), .e (.glb ("MOST_WORTH" : Str))]))])]
def r_are_worths (F : Genv) : List Tr → Option FR := runDef F 3 [false, false] b_are_worths
def b_need_worths : List CS :=
  [.ite (.not_ (.e (.call ("are_worths" : Str) [.e (.var 0), .e (.var 1)])))
    [.rais ("NoWorths" : Str)]
    []]
def r_need_worths (F : Genv) : List Tr → Option FR := runDef F 2 [false, false] b_need_worths
def b_worthy_along : List CS :=
  [.set 3 (.lit .none),
  .for_ (.nm 4) (.rng1 (.prim (.bi .len) [.pk 1]))
    [.set 5 (.prim .mul [.e (.pth 0 [.var 4]), .e (.call ("fall_along" : Str) [.e (.var 1), .e (.var 4), .e (.var 2)])]),
    .ite (.and_ (.e (.prim (.cmp .Gt) [.pk 5, .e (.lit (.int 0))])) (.or_ (.e (.prim (.cmp .Is) [.pk 3, .e (.lit .none)])) (.e (.prim (.cmp .Gt) [.pk 5, .e (.prim .mul [.e (.pth 0 [.var 3]), .e (.call ("fall_along" : Str) [.e (.var 1), .e (.var 3), .e (.var 2)])])]))))
      [.set 3 (.var 4)]
      []],
  .ret (.mv 3)]
def r_worthy_along (F : Genv) : List Tr → Option FR := runDef F 6 [false, false, false] b_worthy_along
def b_offer_worthy : List CS :=
  [.ret (.lc [3] (.nm 3) (.sq (.pth 0 [.lit (.int 2)])) [] (.call ("worthy_along" : Str) [.e (.var 1), .e (.var 2), .e (.var 3)]))]
def r_offer_worthy (F : Genv) : List Tr → Option FR := runDef F 4 [false, false, false] b_offer_worthy
def b_offer_by : List CS :=
  [.ex (.call ("need_worths" : Str) [.e (.var 0), .e (.var 1)]),
  .ex (.call ("need_heaps" : Str) [.e (.var 0), .e (.var 2)]),
  .ret (.call ("offer_worthy" : Str) [.e (.var 0), .e (.var 1), .e (.var 2)])]
def r_offer_by (F : Genv) : List Tr → Option FR := runDef F 3 [false, false, false] b_offer_by
def b_squares_by : List CS :=
  [.ex (.call ("need_worths" : Str) [.e (.var 0), .e (.var 1)]),
  .ex (.call ("need_heaps" : Str) [.e (.var 0), .e (.var 2)]),
  .ret (.prim (.bi .sum) [.e (.lc [3, 4] (.tp [3, 4]) (.zip [.e (.var 1), .e (.var 2)]) [] (.prim .mul [.pk 3, .e (.prim (.bi .sum) [.e (.lc [5] (.nm 5) (.sq (.var 4)) [] (.prim .mul [.pk 5, .pk 5]))])]))])]
def r_squares_by (F : Genv) : List Tr → Option FR := runDef F 6 [false, false, false] b_squares_by
def b_law_b_worths : List CS :=
  [.set 2 (.call ("_law_b_take" : Str) [.io 0, .e (.lit (.int 4))]),
  .set 3 (.prim .add [.e (.lit (.int 1)), .e (.call ("_law_b_take" : Str) [.io 0, .e (.lit (.int 99))])]),
  .set 4 (.lc [5] (.nm 5) (.sq (.pth 1 [.lit (.int 1)])) [] (.prim .ix [.e (.lst [.e (.var 3), .e (.prim .add [.e (.lit (.int 1)), .e (.call ("_law_b_take" : Str) [.io 0, .e (.lit (.int 99))])]), .e (.prim .add [.e (.lit (.int 1)), .e (.call ("_law_b_take" : Str) [.io 0, .e (.lit (.int 3))])]), .e (.lit (.int 99))]), .pk 2])),
  .ret (.prim (.bi .tuple) [.pk 4])]
def r_law_b_worths (F : Genv) : List Tr → Option FR := runDef F 6 [true, false] b_law_b_worths
def b_law_b_worthy : List CS :=
  [.set 3 (.lst []),
  .for_ (.nm 4) (.sq (.pth 0 [.lit (.int 2)]))
    [.set 5 (.lc [6, 7] (.tp [6, 7]) (.zip [.e (.var 1), .e (.var 2)]) [] (.prim .mul [.pk 6, .e (.prim .sub [.e (.pth 7 [.pth 4 [.lit (.int 0)]]), .e (.pth 7 [.pth 4 [.lit (.int 1)]])])])),
    .app 3 [] (.ife (.e (.prim (.cmp .Gt) [.e (.prim (.bi .max1) [.pk 5]), .e (.lit (.int 0))])) (.idx 5 (.prim (.bi .max1) [.pk 5])) (.lit .none))],
  .ret (.mv 3)]
def r_law_b_worthy (F : Genv) : List Tr → Option FR := runDef F 8 [false, false, false] b_law_b_worthy
def b_moves_of : List CS :=
  [.set 3 (.lc [8] (.nm 8) (.sq (.var 1)) [] (.prim (.bi .list) [.pk 8])),
  .set 4 (.lst []),
  .for_ (.tp [5, 6]) (.zip [.e (.pth 0 [.lit (.int 2)]), .e (.var 2)])
    [.set 7 (.lit (.int 0)),
    .ite (.e (.prim (.cmp .IsNot) [.pk 6, .e (.lit .none)]))
      [.set 7 (.prim (.bi .min2) [.e (.pth 5 [.lit (.int 2)]), .e (.pth 3 [.var 6, .pth 5 [.lit (.int 0)]])]),
      .setp 3 [.var 6] (.pth 5 [.lit (.int 0)]) (.prim .sub [.e (.pth 3 [.var 6, .pth 5 [.lit (.int 0)]]), .pk 7])]
      [],
    .app 4 [] (.ife (.e (.prim (.cmp .Gt) [.pk 7, .e (.lit (.int 0))])) (.tup [.e (.var 6), .e (.var 7)]) (.lit .none))],
  .ret (.mv 4)]
def r_moves_of (F : Genv) : List Tr → Option FR := runDef F 9 [false, false, false] b_moves_of
def b_moves_over : List CS :=
  [.ret (.call ("moves_of" : Str) [.e (.var 0), .e (.var 1), .e (.call ("offer_over" : Str) [.e (.var 0), .e (.var 1), .e (.var 2)])])]
def r_moves_over (F : Genv) : List Tr → Option FR := runDef F 3 [false, false, false] b_moves_over
def b_gone_by : List CS :=
  [.set 3 (.lc [7] (.nm 7) (.sq (.var 1)) [] (.prim (.bi .list) [.pk 7])),
  .set 4 (.prim .mul [.e (.lst [.e (.lit (.int 0))]), .e (.prim (.bi .len) [.pk 1])]),
  .for_ (.tp [5, 6]) (.zip [.e (.pth 0 [.lit (.int 2)]), .e (.var 2)])
    [.ite (.e (.prim (.cmp .IsNot) [.pk 6, .e (.lit .none)]))
      [.setT [8, 9] (.var 6),
      .setp 3 [.var 8] (.pth 5 [.lit (.int 0)]) (.prim .sub [.e (.pth 3 [.var 8, .pth 5 [.lit (.int 0)]]), .pk 9]),
      .ite (.e (.prim (.cmp .Eq) [.e (.pth 5 [.lit (.int 1)]), .e (.pth 0 [.lit (.int 1), .var 8])]))
        [.setp 4 [] (.var 8) (.prim .add [.e (.pth 4 [.var 8]), .pk 9])]
        [.setp 3 [.var 8] (.pth 5 [.lit (.int 1)]) (.prim .add [.e (.pth 3 [.var 8, .pth 5 [.lit (.int 1)]]), .pk 9])]]
      []],
  .ret (.tup [.e (.prim (.bi .tuple) [.e (.lc [7] (.nm 7) (.sq (.var 3)) [] (.prim (.bi .tuple) [.pk 7]))]), .e (.prim (.bi .tuple) [.pk 4])])]
def r_gone_by (F : Genv) : List Tr → Option FR := runDef F 10 [false, false, false] b_gone_by
def b_with_comers : List CS :=
  [.set 2 (.lst []),
  .for_ (.tp [3, 4]) (.zip [.e (.var 0), .e (.var 1)])
    [.app 2 [] (.prim (.bi .tuple) [.e (.lc [5, 6] (.tp [5, 6]) (.zip [.e (.var 3), .e (.var 4)]) [] (.prim .add [.pk 5, .pk 6]))])],
  .ret (.prim (.bi .tuple) [.pk 2])]
def r_with_comers (F : Genv) : List Tr → Option FR := runDef F 7 [false, false] b_with_comers
def b_beat_over : List CS :=
  [.setT [4, 5] (.call ("gone_by" : Str) [.e (.var 0), .e (.var 1), .e (.call ("moves_over" : Str) [.e (.var 0), .e (.var 1), .e (.var 3)])]),
  .ret (.tup [.e (.call ("with_comers" : Str) [.e (.var 4), .e (.var 2)]), .e (.var 5)])]
def r_beat_over (F : Genv) : List Tr → Option FR := runDef F 6 [false, false, false, false] b_beat_over
def b_beat : List CS :=
  [.ex (.call ("need_net" : Str) [.e (.var 0)]),
  .ex (.call ("need_heaps" : Str) [.e (.var 0), .e (.var 1)]),
  .ex (.call ("need_comers" : Str) [.e (.var 0), .e (.var 2)]),
  .ret (.call ("beat_over" : Str) [.e (.var 0), .e (.var 1), .e (.var 2), .e (.call ("all_ties" : Str) [.e (.var 0)])])]
def r_beat (F : Genv) : List Tr → Option FR := runDef F 3 [false, false, false] b_beat
def b_run_in : List CS :=
  [.set 3 (.lst [.e (.var 1)]),
  .set 4 (.prim .mul [.e (.lst [.e (.lit (.int 0))]), .e (.prim (.bi .len) [.pk 1])]),
  .for_ (.nm 5) (.sq (.var 2))
    [.setT [6, 7] (.call ("beat_over" : Str) [.e (.var 0), .e (.pth 3 [.prim .neg [.e (.lit (.int 1))]]), .e (.var 5), .e (.call ("all_ties" : Str) [.e (.var 0)])]),
    .app 3 [] (.var 6),
    .set 4 (.lc [8, 9] (.tp [8, 9]) (.zip [.e (.var 4), .e (.var 7)]) [] (.prim .add [.pk 8, .pk 9]))],
  .ret (.tup [.e (.var 3), .e (.prim (.bi .tuple) [.pk 4])])]
def r_run_in (F : Genv) : List Tr → Option FR := runDef F 10 [false, false, false] b_run_in
def b_need_rows : List CS :=
  [.ite (.not_ (.e (.prim (.isi "list") [.pk 1])))
    [.rais ("NoComers" : Str)]
    [],
  .ite (.e (.prim (.cmp .Gt) [.e (.prim (.bi .len) [.pk 1]), .e (.glb ("MOST_BEATS" : Str))]))
    [.rais ("TooMany" : Str)]
    [],
  .for_ (.nm 2) (.sq (.var 1))
    [.ex (.call ("need_comers" : Str) [.e (.var 0), .e (.var 2)])]]
def r_need_rows (F : Genv) : List Tr → Option FR := runDef F 3 [false, false] b_need_rows
def b_run : List CS :=
  [.ex (.call ("need_net" : Str) [.e (.var 0)]),
  .ex (.call ("need_heaps" : Str) [.e (.var 0), .e (.var 1)]),
  .ex (.call ("need_rows" : Str) [.e (.var 0), .e (.var 2)]),
  .ret (.call ("run_in" : Str) [.e (.var 0), .e (.var 1), .e (.var 2)])]
def r_run (F : Genv) : List Tr → Option FR := runDef F 3 [false, false, false] b_run
def b_law_b_some : List CS :=
  [.ret (.pth 1 [.call ("_law_b_take" : Str) [.io 0, .e (.prim (.bi .len) [.pk 1])]])]
def r_law_b_some (F : Genv) : List Tr → Option FR := runDef F 2 [true, false] b_law_b_some
def b_law_b_kept : List CS :=
  [.for_ (.nm 4) (.rng1 (.prim (.bi .len) [.e (.pth 0 [.lit (.int 1)])]))
    [.set 5 (.prim (.bi .sum) [.e (.lc [6] (.nm 6) (.sq (.var 1)) [] (.prim (.bi .sum) [.e (.pth 6 [.var 4])]))]),
    .ite (.e (.prim (.cmp .NotEq) [.e (.prim .add [.e (.prim (.bi .sum) [.e (.pth 2 [.lit (.int 0), .var 4])]), .pk 5]), .e (.prim .add [.e (.prim (.bi .sum) [.e (.pth 2 [.prim .neg [.e (.lit (.int 1))], .var 4])]), .e (.pth 3 [.var 4])])]))
      [.ret (.lit (.bool false))]
      []],
  .ret (.lit (.bool true))]
def r_law_b_kept (F : Genv) : List Tr → Option FR := runDef F 7 [false, false, false, false] b_law_b_kept
def b_law_b_parted : List CS :=
  [.setT [4, 5] (.call ("run" : Str) [.e (.var 0), .e (.var 1), .e (.var 2)]),
  .setT [6, 7] (.call ("run" : Str) [.e (.var 0), .e (.var 1), .e (.prim (.sl false true) [.pk 2, .pk 3])]),
  .ite (.or_ (.e (.prim (.cmp .NotEq) [.pk 6, .e (.prim (.sl false true) [.pk 4, .e (.prim .add [.pk 3, .e (.lit (.int 1))])])])) (.or_ (.e (.prim (.cmp .NotEq) [.e (.prim (.bi .len) [.pk 4]), .e (.prim .add [.e (.prim (.bi .len) [.pk 2]), .e (.lit (.int 1))])])) (.e (.prim (.cmp .NotEq) [.e (.pth 4 [.lit (.int 0)]), .pk 1]))))
    [.ret (.lit (.bool false))]
    [],
  .ite (.e (.prim (.cmp .Gt) [.e (.prim (.bi .max1) [.e (.lc [10] (.nm 10) (.sq (.pth 6 [.prim .neg [.e (.lit (.int 1))]])) [] (.prim (.bi .max1) [.pk 10]))]), .e (.prim .pow [.e (.lit (.int 10)), .e (.lit (.int 9))])]))
    [.ret (.lit (.bool true))]
    [],
  .setT [8, 9] (.call ("run" : Str) [.e (.var 0), .e (.pth 6 [.prim .neg [.e (.lit (.int 1))]]), .e (.prim (.sl true false) [.pk 2, .pk 3])]),
  .ite (.or_ (.e (.prim (.cmp .NotEq) [.pk 8, .e (.prim (.sl true false) [.pk 4, .pk 3])])) (.e (.prim (.cmp .NotEq) [.e (.prim (.bi .tuple) [.e (.lc [11, 12] (.tp [11, 12]) (.zip [.e (.var 7), .e (.var 9)]) [] (.prim .add [.pk 11, .pk 12]))]), .pk 5])))
    [.ret (.lit (.bool false))]
    [],
  .ite (.and_ (.e (.prim (.cmp .Lt) [.pk 3, .e (.prim (.bi .len) [.pk 2])])) (.e (.prim (.cmp .NotEq) [.e (.prim .ix [.e (.call ("beat" : Str) [.e (.var 0), .e (.pth 6 [.prim .neg [.e (.lit (.int 1))]]), .e (.pth 2 [.var 3])]), .e (.lit (.int 0))]), .e (.pth 4 [.prim .add [.pk 3, .e (.lit (.int 1))]])])))
    [.ret (.lit (.bool false))]
    [],
  .ret (.call ("_law_b_kept" : Str) [.e (.var 0), .e (.var 2), .e (.var 4), .e (.var 5)])]
def r_law_b_parted (F : Genv) : List Tr → Option FR := runDef F 13 [false, false, false, false] b_law_b_parted
def b_bare_in : List CS :=
  [.ret (.prim (.bi .tuple) [.e (.lc [1] (.nm 1) (.sq (.pth 0 [.lit (.int 1)])) [] (.prim .mul [.e (.tup [.e (.lit (.int 0))]), .e (.pth 0 [.lit (.int 0)])]))])]
def r_bare_in (F : Genv) : List Tr → Option FR := runDef F 2 [false] b_bare_in
def b_bare : List CS :=
  [.ex (.call ("need_net" : Str) [.e (.var 0)]),
  .ret (.call ("bare_in" : Str) [.e (.var 0)])]
def r_bare (F : Genv) : List Tr → Option FR := runDef F 1 [false] b_bare
def b_moves : List CS :=
  [.ex (.call ("need_net" : Str) [.e (.var 0)]),
  .ex (.call ("need_heaps" : Str) [.e (.var 0), .e (.var 1)]),
  .ret (.call ("moves_over" : Str) [.e (.var 0), .e (.var 1), .e (.call ("all_ties" : Str) [.e (.var 0)])])]
def r_moves (F : Genv) : List Tr → Option FR := runDef F 2 [false, false] b_moves
def b_law_b_otherwise_right : List CS :=
  [.set 4 (.call ("weight" : Str) [.e (.var 0), .e (.var 1), .e (.var 2)]),
  .set 5 (.pth 0 [.lit (.int 2), .var 3, .lit (.int 2)]),
  .set 6 (.lit (.int 0)),
  .ite (.e (.prim (.cmp .IsNot) [.e (.pth 2 [.var 3]), .e (.lit .none)]))
    [.set 6 (.prim .mul [.pk 5, .e (.call ("fall" : Str) [.e (.var 0), .e (.var 1), .e (.pth 2 [.var 3]), .e (.var 3)])])]
    [],
  .ite (.e (.prim (.cmp .NotEq) [.e (.call ("weight" : Str) [.e (.var 0), .e (.var 1), .e (.prim .add [.e (.prim .add [.e (.prim (.sl false true) [.pk 2, .pk 3]), .e (.lst [.e (.lit .none)])]), .e (.prim (.sl true false) [.pk 2, .e (.prim .add [.pk 3, .e (.lit (.int 1))])])])]), .e (.prim .sub [.pk 4, .pk 6])]))
    [.ret (.lit (.bool false))]
    [],
  .for_ (.nm 7) (.rng1 (.prim (.bi .len) [.e (.pth 0 [.lit (.int 1)])]))
    [.set 8 (.call ("weight" : Str) [.e (.var 0), .e (.var 1), .e (.prim .add [.e (.prim .add [.e (.prim (.sl false true) [.pk 2, .pk 3]), .e (.lst [.e (.var 7)])]), .e (.prim (.sl true false) [.pk 2, .e (.prim .add [.pk 3, .e (.lit (.int 1))])])])]),
    .ite (.or_ (.e (.prim (.cmp .NotEq) [.pk 8, .e (.prim .add [.e (.prim .sub [.pk 4, .pk 6]), .e (.prim .mul [.pk 5, .e (.call ("fall" : Str) [.e (.var 0), .e (.var 1), .e (.var 7), .e (.var 3)])])])])) (.e (.prim (.cmp .Gt) [.pk 8, .pk 4])))
      [.ret (.lit (.bool false))]
      []],
  .ret (.lit (.bool true))]
def r_law_b_otherwise_right (F : Genv) : List Tr → Option FR := runDef F 9 [false, false, false, false] b_law_b_otherwise_right
def b_law_b_kind_more : List CS :=
  [.set 4 (.prim .mul [.e (.tup [.e (.lit (.int 0))]), .e (.pth 0 [.lit (.int 0)])]),
  .ite (.pk 2)
    [.ret (.tup [.e (.tup [.e (.pth 0 [.lit (.int 0)]), .e (.prim .add [.e (.tup [.e (.var 3)]), .e (.pth 0 [.lit (.int 1)])]), .e (.pth 0 [.lit (.int 2)])]), .e (.prim .add [.e (.tup [.e (.var 4)]), .pk 1])])]
    [],
  .ret (.tup [.e (.tup [.e (.pth 0 [.lit (.int 0)]), .e (.prim .add [.e (.pth 0 [.lit (.int 1)]), .e (.tup [.e (.var 3)])]), .e (.pth 0 [.lit (.int 2)])]), .e (.prim .add [.pk 1, .e (.tup [.e (.var 4)])])])]
def r_law_b_kind_more (F : Genv) : List Tr → Option FR := runDef F 5 [false, false, false, false] b_law_b_kind_more
def b_law_b_kind_right : List CS :=
  [.setT [8, 9] (.call ("_law_b_kind_more" : Str) [.e (.var 0), .e (.var 1), .e (.var 3), .e (.var 4)]),
  .set 5 (.prim .ix [.e (.call ("_law_b_kind_more" : Str) [.e (.var 0), .e (.var 2), .e (.var 3), .e (.var 4)]), .e (.lit (.int 1))]),
  .set 6 (.call ("offer" : Str) [.e (.var 0), .e (.var 1)]),
  .set 7 (.lc [14] (.nm 14) (.sq (.var 6)) [] (.ife (.e (.prim (.cmp .Is) [.pk 14, .e (.lit .none)])) (.lit .none) (.prim .add [.pk 14, .e (.prim (.bi .int) [.pk 3])]))),
  .ite (.or_ (.e (.prim (.cmp .NotEq) [.e (.call ("offer" : Str) [.e (.var 8), .e (.var 9)]), .pk 7])) (.e (.prim (.cmp .NotEq) [.e (.call ("weight" : Str) [.e (.var 8), .e (.var 9), .e (.var 7)]), .e (.call ("weight" : Str) [.e (.var 0), .e (.var 1), .e (.var 6)])])))
    [.ret (.lit (.bool false))]
    [],
  .setT [10, 11] (.call ("beat" : Str) [.e (.var 8), .e (.var 9), .e (.var 5)]),
  .setT [12, 13] (.call ("beat" : Str) [.e (.var 0), .e (.var 1), .e (.var 2)]),
  .ite (.or_ (.e (.prim (.cmp .NotEq) [.pk 10, .e (.prim .ix [.e (.call ("_law_b_kind_more" : Str) [.e (.var 0), .e (.var 12), .e (.var 3), .e (.var 4)]), .e (.lit (.int 1))])])) (.e (.prim (.cmp .NotEq) [.e (.call ("squares" : Str) [.e (.var 8), .e (.var 9)]), .e (.call ("squares" : Str) [.e (.var 0), .e (.var 1)])])))
    [.ret (.lit (.bool false))]
    [],
  .ret (.prim (.cmp .Eq) [.pk 11, .e (.prim .ix [.e (.lst [.e (.prim .add [.pk 13, .e (.tup [.e (.lit (.int 0))])]), .e (.prim .add [.e (.tup [.e (.lit (.int 0))]), .pk 13])]), .e (.prim (.bi .int) [.pk 3])])])]
def r_law_b_kind_right (F : Genv) : List Tr → Option FR := runDef F 15 [false, false, false, false, false] b_law_b_kind_right
def b_law_b_place_right : List CS :=
  [.set 3 (.tup [.e (.prim .add [.e (.pth 0 [.lit (.int 0)]), .e (.lit (.int 1))]), .e (.pth 0 [.lit (.int 1)]), .e (.pth 0 [.lit (.int 2)])]),
  .set 4 (.prim (.bi .tuple) [.e (.lc [13] (.nm 13) (.sq (.var 1)) [] (.prim .add [.pk 13, .e (.tup [.e (.lit (.int 0))])]))]),
  .set 5 (.lc [11] (.nm 11) (.sq (.var 2)) [] (.prim (.bi .tuple) [.e (.lc [13] (.nm 13) (.sq (.var 11)) [] (.prim .add [.pk 13, .e (.tup [.e (.lit (.int 0))])]))])),
  .setT [7, 8] (.call ("run" : Str) [.e (.var 3), .e (.var 4), .e (.var 5)]),
  .setT [9, 10] (.call ("run" : Str) [.e (.var 0), .e (.var 1), .e (.var 2)]),
  .ite (.or_ (.e (.prim (.cmp .NotEq) [.pk 8, .pk 10])) (.e (.prim (.cmp .NotEq) [.e (.lc [12] (.nm 12) (.sq (.var 7)) [] (.prim (.bi .tuple) [.e (.lc [13] (.nm 13) (.sq (.var 12)) [] (.prim (.sl false true) [.pk 13, .e (.prim .neg [.e (.lit (.int 1))])]))])), .pk 9])))
    [.ret (.lit (.bool false))]
    [],
  .set 6 (.lc [12] (.nm 12) (.sq (.var 7)) [] (.prim (.bi .max1) [.e (.lc [13] (.nm 13) (.sq (.var 12)) [] (.pth 13 [.prim .neg [.e (.lit (.int 1))]]))])),
  .ret (.and_ (.prim (.cmp .Eq) [.e (.call ("greatest" : Str) [.e (.var 3), .e (.lit (.int 0))]), .e (.call ("greatest" : Str) [.e (.var 0), .e (.lit (.int 0))])]) (.prim (.cmp .Eq) [.e (.prim (.bi .max1) [.pk 6]), .e (.lit (.int 0))]))]
def r_law_b_place_right (F : Genv) : List Tr → Option FR := runDef F 14 [false, false, false] b_law_b_place_right
def b_law_b_lifted_right : List CS :=
  [.set 3 (.lst []),
  .for_ (.tp [6, 7]) (.zip [.e (.var 1), .e (.pth 0 [.lit (.int 1)])])
    [.app 3 [] (.prim (.bi .tuple) [.e (.lc [9, 11] (.tp [11, 9]) (.enm (.var 6)) [] (.prim .add [.pk 9, .e (.prim .mul [.pk 2, .e (.prim (.bi .int) [.e (.prim (.cmp .NotEq) [.pk 11, .pk 7])])])]))])],
  .set 4 (.call ("offer" : Str) [.e (.var 0), .e (.var 1)]),
  .set 5 (.call ("offer" : Str) [.e (.var 0), .e (.prim (.bi .tuple) [.pk 3])]),
  .for_ (.tp [8, 9, 10]) (.zip [.e (.pth 0 [.lit (.int 2)]), .e (.var 4), .e (.var 5)])
    [.ite (.and_ (.e (.prim (.cmp .NotIn) [.e (.pth 8 [.lit (.int 0)]), .e (.pth 0 [.lit (.int 1)])])) (.and_ (.e (.prim (.cmp .NotIn) [.e (.pth 8 [.lit (.int 1)]), .e (.pth 0 [.lit (.int 1)])])) (.e (.prim (.cmp .NotEq) [.pk 9, .pk 10]))))
      [.ret (.lit (.bool false))]
      []],
  .ret (.lit (.bool true))]
def r_law_b_lifted_right (F : Genv) : List Tr → Option FR := runDef F 12 [false, false, false] b_law_b_lifted_right
def b_are_heaps : List CS :=
  [.ex (.call ("need_net" : Str) [.e (.var 0)]),
  .ret (.call ("are_lines" : Str) [.e (.var 0), .e (.var 1), .e (.glb ("MOST_HEAP" : Str))])]
def r_are_heaps (F : Genv) : List Tr → Option FR := runDef F 2 [false, false] b_are_heaps
def b_run_worthy : List CS :=
  [.ex (.call ("need_worths" : Str) [.e (.var 0), .e (.var 1)]),
  .ex (.call ("need_heaps" : Str) [.e (.var 0), .e (.var 2)]),
  .ex (.call ("need_rows" : Str) [.e (.var 0), .e (.var 3)]),
  .set 4 (.lst [.e (.var 2)]),
  .set 5 (.prim .mul [.e (.lst [.e (.lit (.int 0))]), .e (.prim (.bi .len) [.pk 2])]),
  .for_ (.nm 6) (.sq (.var 3))
    [.set 7 (.call ("moves_of" : Str) [.e (.var 0), .e (.pth 4 [.prim .neg [.e (.lit (.int 1))]]), .e (.call ("offer_worthy" : Str) [.e (.var 0), .e (.var 1), .e (.pth 4 [.prim .neg [.e (.lit (.int 1))]])])]),
    .setT [8, 9] (.call ("gone_by" : Str) [.e (.var 0), .e (.pth 4 [.prim .neg [.e (.lit (.int 1))]]), .e (.var 7)]),
    .app 4 [] (.call ("with_comers" : Str) [.e (.var 8), .e (.var 6)]),
    .set 5 (.lc [10, 11] (.tp [10, 11]) (.zip [.e (.var 5), .e (.var 9)]) [] (.prim .add [.pk 10, .pk 11]))],
  .ret (.tup [.e (.var 4), .e (.prim (.bi .tuple) [.pk 5])])]
def r_run_worthy (F : Genv) : List Tr → Option FR := runDef F 12 [false, false, false, false] b_run_worthy
def b_law_b_rise : List CS :=
  [.set 5 (.lit (.int 0)),
  .for_ (.tp [6, 7]) (.enm (.pth 0 [.lit (.int 1)]))
    [.set 8 (.lit (.int 0)),
    .for_ (.nm 9) (.sq (.lc [11] (.nm 11) (.rng1 (.pth 0 [.lit (.int 0)])) [.e (.prim (.cmp .NotEq) [.pk 11, .pk 7])] (.var 11)))
      [.set 12 (.lit (.int 0)),
      .set 13 (.pth 3 [.var 6, .var 9]),
      .for_ (.tp [15, 11]) (.zip [.e (.pth 0 [.lit (.int 2)]), .e (.var 4)])
        [.ite (.and_ (.e (.prim (.cmp .IsNot) [.pk 11, .e (.lit .none)])) (.e (.prim (.cmp .Eq) [.pk 11, .pk 6])))
          [.set 12 (.prim .add [.pk 12, .e (.prim .mul [.e (.pth 15 [.lit (.int 2)]), .e (.prim (.bi .int) [.e (.prim (.cmp .Eq) [.e (.pth 15 [.lit (.int 0)]), .pk 9])])])]),
          .set 13 (.prim .add [.pk 13, .e (.prim .mul [.e (.pth 15 [.lit (.int 2)]), .e (.prim (.bi .int) [.e (.prim (.cmp .Eq) [.e (.pth 15 [.lit (.int 1)]), .pk 9])])])])]
          []],
      .set 8 (.prim .add [.e (.prim .add [.pk 8, .e (.prim .mul [.pk 12, .pk 12])]), .e (.prim .mul [.pk 13, .pk 13])]),
      .set 8 (.prim .add [.pk 8, .e (.prim .mul [.e (.prim .mul [.e (.lit (.int 2)), .e (.pth 2 [.var 6, .var 9])]), .e (.pth 3 [.var 6, .var 9])])])],
    .set 5 (.prim .add [.pk 5, .e (.prim .mul [.e (.pth 1 [.var 6]), .pk 8])])],
  .for_ (.tp [10, 11]) (.enm (.var 4))
    [.ite (.e (.prim (.cmp .IsNot) [.pk 11, .e (.lit .none)]))
      [.set 14 (.prim .mul [.e (.prim .mul [.e (.lit (.int 2)), .e (.pth 0 [.lit (.int 2), .var 10, .lit (.int 2)])]), .e (.pth 1 [.var 11])]),
      .set 5 (.prim .sub [.pk 5, .e (.prim .mul [.pk 14, .e (.call ("fall" : Str) [.e (.var 0), .e (.var 2), .e (.var 11), .e (.var 10)])])])]
      []],
  .ret (.mv 5)]
def r_law_b_rise (F : Genv) : List Tr → Option FR := runDef F 16 [false, false, false, false, false] b_law_b_rise
def b_law_b_beats_right : List CS :=
  [.for_ (.tp [4, 5]) (.enm (.var 3))
    [.ite (.e (.prim (.cmp .IsNot) [.e (.call ("are_heaps" : Str) [.e (.var 0), .e (.pth 2 [.prim .add [.pk 4, .e (.lit (.int 1))]])]), .e (.lit (.bool true))]))
      [.ret (.lit (.bool true))]
      [],
    .set 6 (.call ("offer_by" : Str) [.e (.var 0), .e (.var 1), .e (.pth 2 [.var 4])]),
    .set 7 (.call ("_law_b_rise" : Str) [.e (.var 0), .e (.var 1), .e (.pth 2 [.var 4]), .e (.var 5), .e (.var 6)]),
    .set 8 (.call ("squares_by" : Str) [.e (.var 0), .e (.var 1), .e (.pth 2 [.var 4])]),
    .ite (.e (.prim (.cmp .Gt) [.e (.call ("squares_by" : Str) [.e (.var 0), .e (.var 1), .e (.pth 2 [.prim .add [.pk 4, .e (.lit (.int 1))]])]), .e (.prim .add [.pk 8, .pk 7])]))
      [.ret (.lit (.bool false))]
      []],
  .ret (.lit (.bool true))]
def r_law_b_beats_right (F : Genv) : List Tr → Option FR := runDef F 9 [false, false, false, false] b_law_b_beats_right
def b_law_b_alike_right : List CS :=
  [.set 4 (.prim .mul [.e (.tup [.e (.var 3)]), .e (.prim (.bi .len) [.e (.pth 0 [.lit (.int 1)])])]),
  .ite (.e (.prim (.cmp .NotEq) [.e (.call ("offer_by" : Str) [.e (.var 0), .e (.var 4), .e (.var 1)]), .e (.call ("offer" : Str) [.e (.var 0), .e (.var 1)])]))
    [.ret (.lit (.bool false))]
    [],
  .ite (.e (.prim (.cmp .NotEq) [.e (.call ("squares_by" : Str) [.e (.var 0), .e (.var 4), .e (.var 1)]), .e (.prim .mul [.pk 3, .e (.call ("squares" : Str) [.e (.var 0), .e (.var 1)])])]))
    [.ret (.lit (.bool false))]
    [],
  .ret (.prim (.cmp .Eq) [.e (.call ("run_worthy" : Str) [.e (.var 0), .e (.var 4), .e (.var 1), .e (.var 2)]), .e (.call ("run" : Str) [.e (.var 0), .e (.var 1), .e (.var 2)])])]
def r_law_b_alike_right (F : Genv) : List Tr → Option FR := runDef F 5 [false, false, false, false] b_law_b_alike_right
def b_law_b_beat_right : List CS :=
  [.setT [6, 7] (.call ("rise" : Str) [.e (.var 0), .e (.var 1), .e (.var 2)]),
  .set 3 (.prim (.bi .max1) [.e (.lc [8] (.nm 8) (.sq (.var 2)) [] (.prim (.bi .max1) [.pk 8]))]),
  .ite (.or_ (.e (.prim (.cmp .Gt) [.pk 6, .e (.call ("greatest" : Str) [.e (.var 0), .e (.var 3)])])) (.or_ (.e (.prim (.cmp .Lt) [.pk 6, .e (.lit (.int 0))])) (.e (.prim (.cmp .Lt) [.pk 7, .e (.lit (.int 0))]))))
    [.ret (.lit (.bool false))]
    [],
  .set 4 (.prim .ix [.e (.call ("beat" : Str) [.e (.var 0), .e (.var 1), .e (.var 2)]), .e (.lit (.int 0))]),
  .ite (.e (.prim (.cmp .IsNot) [.e (.call ("are_heaps" : Str) [.e (.var 0), .e (.var 4)]), .e (.lit (.bool true))]))
    [.ret (.lit (.bool true))]
    [],
  .set 5 (.prim .sub [.e (.prim .add [.e (.prim .add [.e (.call ("squares" : Str) [.e (.var 0), .e (.var 1)]), .pk 6]), .e (.prim .mul [.e (.lit (.int 2)), .pk 7])]), .e (.prim .mul [.e (.lit (.int 2)), .e (.call ("weight" : Str) [.e (.var 0), .e (.var 1), .e (.call ("offer" : Str) [.e (.var 0), .e (.var 1)])])])]),
  .ret (.prim (.cmp .LtE) [.e (.call ("squares" : Str) [.e (.var 0), .e (.var 4)]), .pk 5])]
def r_law_b_beat_right (F : Genv) : List Tr → Option FR := runDef F 9 [false, false, false] b_law_b_beat_right
def b_is_move : List CS :=
  [.ite (.e (.prim (.cmp .Is) [.pk 2, .e (.lit .none)]))
    [.ret (.lit (.bool true))]
    [],
  .ite (.or_ (.not_ (.e (.prim (.isi "tuple") [.pk 2]))) (.e (.prim (.cmp .NotEq) [.e (.prim (.bi .len) [.pk 2]), .e (.lit (.int 2))])))
    [.ret (.lit (.bool false))]
    [],
  .ret (.and_ (.call ("is_number" : Str) [.e (.pth 2 [.lit (.int 0)]), .e (.lit (.int 0)), .e (.prim .sub [.e (.prim (.bi .len) [.e (.pth 0 [.lit (.int 1)])]), .e (.lit (.int 1))])]) (.call ("is_number" : Str) [.e (.pth 2 [.lit (.int 1)]), .e (.lit (.int 1)), .e (.pth 1 [.lit (.int 2)])]))]
def r_is_move (F : Genv) : List Tr → Option FR := runDef F 3 [false, false, false] b_is_move
def b_do_hold_in : List CS :=
  [.ite (.or_ (.not_ (.e (.prim (.isi "list") [.pk 2]))) (.e (.prim (.cmp .NotEq) [.e (.prim (.bi .len) [.pk 2]), .e (.prim (.bi .len) [.e (.pth 0 [.lit (.int 2)])])])))
    [.ret (.lit (.bool false))]
    [],
  .ite (.not_ (.e (.prim (.bi .all) [.e (.lc [4, 5] (.tp [4, 5]) (.zip [.e (.pth 0 [.lit (.int 2)]), .e (.var 2)]) [] (.call ("is_move" : Str) [.e (.var 0), .e (.var 4), .e (.var 5)]))])))
    [.ret (.lit (.bool false))]
    [],
  .set 3 (.lc [6] (.nm 6) (.sq (.call ("bare_in" : Str) [.e (.var 0)])) [] (.prim (.bi .list) [.pk 6])),
  .for_ (.tp [4, 5]) (.zip [.e (.pth 0 [.lit (.int 2)]), .e (.var 2)])
    [.ite (.e (.prim (.cmp .IsNot) [.pk 5, .e (.lit .none)]))
      [.setp 3 [.pth 5 [.lit (.int 0)]] (.pth 4 [.lit (.int 0)]) (.prim .add [.e (.pth 3 [.pth 5 [.lit (.int 0)], .pth 4 [.lit (.int 0)]]), .e (.pth 5 [.lit (.int 1)])])]
      []],
  .for_ (.tp [6, 7]) (.zip [.e (.var 1), .e (.var 3)])
    [.ite (.e (.prim (.bi .any) [.e (.lc [5, 8] (.tp [5, 8]) (.zip [.e (.var 6), .e (.var 7)]) [] (.prim (.cmp .Gt) [.pk 8, .pk 5]))]))
      [.ret (.lit (.bool false))]
      []],
  .ret (.lit (.bool true))]
def r_do_hold_in (F : Genv) : List Tr → Option FR := runDef F 9 [false, false, false] b_do_hold_in
def b_do_hold : List CS :=
  [.ex (.call ("need_net" : Str) [.e (.var 0)]),
  .ex (.call ("need_heaps" : Str) [.e (.var 0), .e (.var 1)]),
  .ret (.call ("do_hold_in" : Str) [.e (.var 0), .e (.var 1), .e (.var 2)])]
def r_do_hold (F : Genv) : List Tr → Option FR := runDef F 3 [false, false, false] b_do_hold
def b_moved : List CS :=
  [.ite (.not_ (.e (.call ("do_hold" : Str) [.e (.var 0), .e (.var 1), .e (.var 2)])))
    [.rais ("NoMoves" : Str)]
    [],
  .ret (.call ("gone_by" : Str) [.e (.var 0), .e (.var 1), .e (.var 2)])]
def r_moved (F : Genv) : List Tr → Option FR := runDef F 3 [false, false, false] b_moved
def b_law_b_offers_right : List CS :=
  [.set 2 (.call ("offer" : Str) [.e (.var 0), .e (.var 1)]),
  .for_ (.nm 3) (.rng1 (.prim (.bi .len) [.e (.pth 0 [.lit (.int 2)])]))
    [.set 4 (.lc [5] (.nm 5) (.rng1 (.prim (.bi .len) [.e (.pth 0 [.lit (.int 1)])])) [] (.call ("fall" : Str) [.e (.var 0), .e (.var 1), .e (.var 5), .e (.var 3)])),
    .ite (.and_ (.e (.prim (.cmp .Is) [.e (.pth 2 [.var 3]), .e (.lit .none)])) (.e (.prim (.cmp .Gt) [.e (.prim (.bi .max1) [.pk 4]), .e (.lit (.int 0))])))
      [.ret (.lit (.bool false))]
      [],
    .ite (.and_ (.e (.prim (.cmp .IsNot) [.e (.pth 2 [.var 3]), .e (.lit .none)])) (.or_ (.e (.prim (.cmp .NotEq) [.e (.pth 4 [.pth 2 [.var 3]]), .e (.prim (.bi .max1) [.pk 4])])) (.e (.prim (.cmp .Lt) [.e (.prim (.bi .max1) [.pk 4]), .e (.lit (.int 1))]))))
      [.ret (.lit (.bool false))]
      []],
  .ret (.lit (.bool true))]
def r_law_b_offers_right (F : Genv) : List Tr → Option FR := runDef F 6 [false, false] b_law_b_offers_right
def b_law_b_moves_right : List CS :=
  [.set 3 (.call ("offer" : Str) [.e (.var 0), .e (.var 1)]),
  .ite (.or_ (.e (.prim (.cmp .IsNot) [.e (.call ("do_hold" : Str) [.e (.var 0), .e (.var 1), .e (.var 2)]), .e (.lit (.bool true))])) (.e (.prim (.cmp .NotEq) [.e (.prim (.bi .len) [.pk 3]), .e (.prim (.bi .len) [.pk 2])])))
    [.ret (.lit (.bool false))]
    [],
  .for_ (.tp [4, 5]) (.zip [.e (.var 2), .e (.var 3)])
    [.ite (.and_ (.e (.prim (.cmp .IsNot) [.pk 4, .e (.lit .none)])) (.e (.prim (.cmp .NotEq) [.e (.pth 4 [.lit (.int 0)]), .pk 5])))
      [.ret (.lit (.bool false))]
      []],
  .ret (.lit (.bool true))]
def r_law_b_moves_right (F : Genv) : List Tr → Option FR := runDef F 6 [false, false, false] b_law_b_moves_right
def b_law_b_beat_right_v2 : List CS :=
  [.setT [4, 5] (.call ("beat" : Str) [.e (.var 0), .e (.var 1), .e (.var 2)]),
  .setT [6, 7] (.call ("moved" : Str) [.e (.var 0), .e (.var 1), .e (.call ("moves" : Str) [.e (.var 0), .e (.var 1)])]),
  .ite (.e (.prim (.cmp .NotEq) [.pk 5, .pk 7]))
    [.ret (.lit (.bool false))]
    [],
  .for_ (.nm 3) (.rng1 (.prim (.bi .len) [.e (.pth 0 [.lit (.int 1)])]))
    [.set 8 (.prim .add [.e (.prim (.bi .sum) [.e (.pth 1 [.var 3])]), .e (.prim (.bi .sum) [.e (.pth 2 [.var 3])])]),
    .ite (.e (.prim (.cmp .NotEq) [.pk 8, .e (.prim .add [.e (.prim (.bi .sum) [.e (.pth 4 [.var 3])]), .e (.pth 5 [.var 3])])]))
      [.ret (.lit (.bool false))]
      [],
    .set 9 (.lc [10, 11] (.tp [10, 11]) (.zip [.e (.pth 4 [.var 3]), .e (.pth 2 [.var 3])]) [] (.prim .sub [.pk 10, .pk 11])),
    .ite (.e (.prim (.cmp .NotEq) [.pk 9, .e (.prim (.bi .list) [.e (.pth 6 [.var 3])])]))
      [.ret (.lit (.bool false))]
      []],
  .ret (.or_ (.prim (.cmp .Is) [.e (.call ("are_heaps" : Str) [.e (.var 0), .e (.var 4)]), .e (.lit (.bool true))]) (.prim (.cmp .Gt) [.e (.prim (.bi .max1) [.e (.lc [12] (.nm 12) (.sq (.var 4)) [] (.prim (.bi .max1) [.pk 12]))]), .e (.prim .pow [.e (.lit (.int 10)), .e (.lit (.int 9))])]))]
def r_law_b_beat_right_v2 (F : Genv) : List Tr → Option FR := runDef F 13 [false, false, false] b_law_b_beat_right_v2
def b_law_b_behind : List CS :=
  [.set 3 (.lc [9] (.nm 9) (.sq (.var 1)) [] (.prim (.bi .list) [.pk 9])),
  .set 4 (.prim .mul [.e (.lst [.e (.lit (.int 0))]), .e (.prim (.bi .len) [.pk 1])]),
  .for_ (.tp [5, 6]) (.zip [.e (.pth 0 [.lit (.int 2)]), .e (.var 2)])
    [.ite (.e (.prim (.cmp .IsNot) [.pk 6, .e (.lit .none)]))
      [.set 9 (.pth 3 [.pth 6 [.lit (.int 0)]]),
      .setp 9 [] (.pth 5 [.lit (.int 0)]) (.prim .sub [.e (.pth 9 [.pth 5 [.lit (.int 0)]]), .e (.pth 6 [.lit (.int 1)])]),
      .setp 9 [] (.pth 5 [.lit (.int 1)]) (.prim .add [.e (.pth 9 [.pth 5 [.lit (.int 1)]]), .e (.pth 6 [.lit (.int 1)])])]
      []],
  .for_ (.tp [7, 8]) (.enm (.pth 0 [.lit (.int 1)]))
    [.setp 4 [] (.var 7) (.pth 3 [.var 7, .var 8]),
    .setp 3 [.var 7] (.var 8) (.lit (.int 0))],
  .ret (.tup [.e (.prim (.bi .tuple) [.e (.lc [9] (.nm 9) (.sq (.var 3)) [] (.prim (.bi .tuple) [.pk 9]))]), .e (.prim (.bi .tuple) [.pk 4])])]
def r_law_b_behind (F : Genv) : List Tr → Option FR := runDef F 10 [false, false, false] b_law_b_behind
def b_law_b_beat : List CS :=
  [.setT [4, 5] (.call ("_law_b_behind" : Str) [.e (.var 0), .e (.var 1), .e (.call ("_law_b_moves" : Str) [.e (.var 0), .e (.var 1)])]),
  .set 3 (.lst []),
  .for_ (.tp [6, 7]) (.zip [.e (.var 4), .e (.var 2)])
    [.app 3 [] (.prim (.bi .tuple) [.e (.lc [8] (.nm 8) (.rng1 (.pth 0 [.lit (.int 0)])) [] (.prim .add [.e (.pth 6 [.var 8]), .e (.pth 7 [.var 8])]))])],
  .ret (.tup [.e (.prim (.bi .tuple) [.pk 3]), .e (.var 5)])]
def r_law_b_beat (F : Genv) : List Tr → Option FR := runDef F 9 [false, false, false] b_law_b_beat
def b_law_b_run : List CS :=
  [.set 3 (.lst [.e (.var 1)]),
  .set 4 (.prim .mul [.e (.tup [.e (.lit (.int 0))]), .e (.prim (.bi .len) [.e (.pth 0 [.lit (.int 1)])])]),
  .for_ (.nm 5) (.sq (.var 2))
    [.setT [6, 7] (.call ("_law_b_beat" : Str) [.e (.var 0), .e (.pth 3 [.prim .neg [.e (.lit (.int 1))]]), .e (.var 5)]),
    .app 3 [] (.var 6),
    .set 4 (.prim (.bi .tuple) [.e (.lc [8, 9] (.tp [8, 9]) (.zip [.e (.var 4), .e (.var 7)]) [] (.prim .add [.pk 8, .pk 9]))])],
  .ret (.tup [.e (.var 3), .e (.var 4)])]
def r_law_b_run (F : Genv) : List Tr → Option FR := runDef F 10 [false, false, false] b_law_b_run
def b_law_b_run_v2 : List CS :=
  [.set 4 (.lst [.e (.var 2)]),
  .set 5 (.prim .mul [.e (.tup [.e (.lit (.int 0))]), .e (.prim (.bi .len) [.e (.pth 0 [.lit (.int 1)])])]),
  .for_ (.nm 6) (.sq (.var 3))
    [.set 7 (.call ("_law_b_worthy" : Str) [.e (.var 0), .e (.var 1), .e (.pth 4 [.prim .neg [.e (.lit (.int 1))]])]),
    .set 8 (.call ("_law_b_moves_of" : Str) [.e (.var 0), .e (.pth 4 [.prim .neg [.e (.lit (.int 1))]]), .e (.var 7)]),
    .setT [10, 11] (.call ("_law_b_behind" : Str) [.e (.var 0), .e (.pth 4 [.prim .neg [.e (.lit (.int 1))]]), .e (.var 8)]),
    .set 9 (.lst []),
    .for_ (.tp [12, 13]) (.zip [.e (.var 10), .e (.var 6)])
      [.app 9 [] (.prim (.bi .tuple) [.e (.lc [16] (.nm 16) (.rng1 (.pth 0 [.lit (.int 0)])) [] (.prim .add [.e (.pth 12 [.var 16]), .e (.pth 13 [.var 16])]))])],
    .app 4 [] (.prim (.bi .tuple) [.pk 9]),
    .set 5 (.prim (.bi .tuple) [.e (.lc [14, 15] (.tp [14, 15]) (.zip [.e (.var 5), .e (.var 11)]) [] (.prim .add [.pk 14, .pk 15]))])],
  .ret (.tup [.e (.var 4), .e (.var 5)])]
def r_law_b_run_v2 (F : Genv) : List Tr → Option FR := runDef F 17 [false, false, false, false] b_law_b_run_v2
def b_law_b_kinds : List CS :=
  [.set 1 (.lst [.e (.prim (.isi "NoNet") [.pk 0]), .e (.prim (.isi "NoHeaps") [.pk 0]), .e (.prim (.isi "NoComers") [.pk 0]), .e (.prim (.isi "NoMoves") [.pk 0])]),
  .set 1 (.prim .add [.pk 1, .e (.lst [.e (.prim (.isi "NoOffer") [.pk 0]), .e (.prim (.isi "NoNumber") [.pk 0]), .e (.prim (.isi "NoKind") [.pk 0]), .e (.prim (.isi "NoTie") [.pk 0])])]),
  .set 1 (.prim .add [.pk 1, .e (.lst [.e (.prim (.isi "TooMany") [.pk 0]), .e (.prim (.isi "NoPlan") [.pk 0]), .e (.prim (.isi "NoPlaces") [.pk 0]), .e (.prim (.isi "NoWays") [.pk 0])])]),
  .set 1 (.prim .add [.pk 1, .e (.lst [.e (.prim (.isi "NoRowOf") [.pk 0]), .e (.prim (.isi "NoPlace") [.pk 0]), .e (.prim (.isi "NoBeat") [.pk 0]), .e (.prim (.isi "NoText") [.pk 0])])]),
  .ret (.prim .add [.pk 1, .e (.lst [.e (.prim (.isi "NoRow") [.pk 0]), .e (.prim (.isi "NoWorths") [.pk 0])])])]
def r_law_b_kinds (F : Genv) : List Tr → Option FR := runDef F 2 [false] b_law_b_kinds
def b_law_b_shared : List CS :=
  [.setT [5, 6, 7] (.pth 0 [.lit (.int 2), .var 2]),
  .set 4 (.lst []),
  .for_ (.tp [8, 9]) (.enm (.pth 0 [.lit (.int 2)]))
    [.set 10 (.prim (.bi .min2) [.pk 7, .e (.pth 1 [.var 3, .var 5])]),
    .set 11 (.prim .sub [.e (.prim .add [.e (.pth 1 [.var 3, .var 5]), .e (.lit (.int 1))]), .pk 10]),
    .ite (.and_ (.e (.prim (.cmp .Eq) [.e (.pth 9 [.lit (.int 0)]), .pk 5])) (.and_ (.e (.prim (.cmp .NotEq) [.pk 8, .pk 2])) (.and_ (.e (.prim (.cmp .Gt) [.pk 10, .e (.lit (.int 0))])) (.e (.prim (.cmp .LtE) [.pk 11, .e (.pth 9 [.lit (.int 2)])])))))
      [.set 12 (.prim .mul [.e (.lst [.e (.lit .none)]), .e (.prim (.bi .len) [.e (.pth 0 [.lit (.int 2)])])]),
      .setp 12 [] (.var 2) (.tup [.e (.var 3), .e (.var 10)]),
      .setp 12 [] (.var 8) (.tup [.e (.var 3), .e (.var 11)]),
      .app 4 [] (.var 12)]
      []],
  .ret (.mv 4)]
def r_law_b_shared (F : Genv) : List Tr → Option FR := runDef F 13 [false, false, false, false] b_law_b_shared
end Hp
set_option Elab.async false
set_option linter.all false
set_option maxRecDepth 100000
set_option maxHeartbeats 400000
/-! nets, heaps, comers: typed; what the program's functions of the stages 1 to 4 do with them -/
namespace Hp
open PySem PySem.Spec PyProof.Rows L2 Hw
structure Tie where
  i : Nat
  j : Nat
  m : Int
structure Net where
  n : Nat
  ends : List Nat
  ties : List Tie
def tieD (t : Tie) : PyData := .tuple [.int t.i, .int t.j, .int t.m]
def nD (n : Nat) : PyData := .int n
def netD (N : Net) : PyData := .tuple [.int N.n, .tuple (N.ends.map nD), .tuple (N.ties.map tieD)]
def iD (i : Int) : PyData := .int i
def lnD (l : List Int) : PyData := .tuple (l.map iD)
def hD (h : List (List Int)) : PyData := .tuple (h.map lnD)
def kD (k : Option Nat) : PyData := match k with
  | none => .none
  | some k => .int k
def tLt (a b : Tie) : Prop := a.i < b.i ∨ (a.i = b.i ∧ a.j < b.j)
instance (a b : Tie) : Decidable (tLt a b) := by unfold tLt; infer_instance
structure OkT (n : Nat) (t : Tie) : Prop where
  i : t.i < n
  j : t.j < n
  ne : t.i ≠ t.j
  lo : 1 ≤ t.m
  hi : t.m ≤ 9
structure OkN (N : Net) : Prop where
  n1 : 1 ≤ N.n
  n8 : N.n ≤ 8
  e1 : 1 ≤ N.ends.length
  e4 : N.ends.length ≤ 4
  e : ∀ x ∈ N.ends, x < N.n
  t : ∀ x ∈ N.ties, OkT N.n x
  s : N.ties.Pairwise tLt
structure OkL (high : Int) (n e : Nat) (l : List Int) : Prop where
  len : l.length = n
  b : ∀ x ∈ l, 0 ≤ x ∧ x ≤ high
  z : l[e]? = some 0
structure OkH (high : Int) (N : Net) (h : List (List Int)) : Prop where
  len : h.length = N.ends.length
  l : ∀ (k e : Nat) (l : List Int), N.ends[k]? = some e → h[k]? = some l → OkL high N.n e l
theorem code_lt {n : Nat} {a b : Tie} (ha : OkT n a) (hb : OkT n b) (h : tLt a b) : a.i * n + a.j < b.i * n + b.j := by
  have h1 := ha.j; have h2 := hb.j
  rcases h with h | ⟨h, h'⟩
  · have : (a.i + 1) * n ≤ b.i * n := Nat.mul_le_mul_right n h
    rw [Nat.succ_mul] at this
    omega
  · rw [h]; omega
theorem ties_len' {n : Nat} : ∀ {l : List Tie}, (∀ t ∈ l, OkT n t) → l.Pairwise tLt → ∀ k, (∀ t ∈ l, k ≤ t.i * n + t.j) → l.length + k ≤ n * n ∨ l = []
  | [], _, _, _, _ => .inr rfl
  | t :: l, h, p, k, hk => by
    left
    have ht := h t List.mem_cons_self
    have hc : t.i * n + t.j < n * n := by
      have h1 := ht.i; have h2 := ht.j
      have : (t.i + 1) * n ≤ n * n := Nat.mul_le_mul_right n h1
      rw [Nat.succ_mul] at this
      omega
    have p' := List.pairwise_cons.mp p
    have k0 := hk t List.mem_cons_self
    rcases ties_len' (fun x hx => h x (List.mem_cons_of_mem _ hx)) p'.2 (k + 1) (fun x hx => by
      have := code_lt ht (h x (List.mem_cons_of_mem _ hx)) (p'.1 x hx)
      omega) with e | e
    · rw [List.length_cons]; omega
    · subst e; simp; omega
theorem OkN.tlen {N : Net} (o : OkN N) : N.ties.length ≤ 64 := by
  have h := ties_len' o.t o.s 0 (fun _ _ => Nat.zero_le _)
  have h8 := o.n8
  rcases h with h | h
  · have : N.n * N.n ≤ 8 * 8 := Nat.mul_le_mul h8 h8
    omega
  · rw [h]; simp
theorem sz {n : Nat} (h : n ≤ 1000000) : n ≤ sizeLine := Nat.le_trans h (by decide)
end Hp
set_option Elab.async false
set_option linter.all false
set_option maxRecDepth 100000
set_option maxHeartbeats 400000
/-! the interpreter's equations as simp rules -/
namespace Hw
open PySem PySem.Spec PyProof.Rows L2
@[simp] theorem sv1 : type_of% @Hw.ev.eq_1 := @Hw.ev.eq_1
@[simp] theorem sv2 : type_of% @Hw.ev.eq_2 := @Hw.ev.eq_2
@[simp] theorem sv3 : type_of% @Hw.ev.eq_3 := @Hw.ev.eq_3
@[simp] theorem sv4 : type_of% @Hw.ev.eq_4 := @Hw.ev.eq_4
@[simp] theorem sv5 : type_of% @Hw.ev.eq_5 := @Hw.ev.eq_5
@[simp] theorem sv6 : type_of% @Hw.ev.eq_6 := @Hw.ev.eq_6
@[simp] theorem sv7 : type_of% @Hw.ev.eq_7 := @Hw.ev.eq_7
@[simp] theorem sv10 : type_of% @Hw.ev.eq_10 := @Hw.ev.eq_10
@[simp] theorem sv13 : type_of% @Hw.ev.eq_13 := @Hw.ev.eq_13
@[simp] theorem sv15 : type_of% @Hw.ev.eq_15 := @Hw.ev.eq_15
@[simp] theorem sv16 : type_of% @Hw.ev.eq_16 := @Hw.ev.eq_16
@[simp] theorem sv17 : type_of% @Hw.ev.eq_17 := @Hw.ev.eq_17
def andV (r : Option ER) (f : List Tr → Option ER) : Option ER := match r with
  | some (.ok t Γ1) => (match asBool t with
    | some true => f Γ1
    | some false => some (.ok (bT false) Γ1)
    | none => none)
  | r => r
def orV (r : Option ER) (f : List Tr → Option ER) : Option ER := match r with
  | some (.ok t Γ1) => (match asBool t with
    | some true => some (.ok (bT true) Γ1)
    | some false => f Γ1
    | none => none)
  | r => r
@[simp] theorem andV_c (k : Bool) (Γ : List Tr) (f : List Tr → Option ER) : andV (some (.ok (.c (.bool k)) Γ)) f = if k = true then f Γ else some (.ok (.c (.bool false)) Γ) := by cases k <;> rfl
@[simp] theorem orV_c (k : Bool) (Γ : List Tr) (f : List Tr → Option ER) : orV (some (.ok (.c (.bool k)) Γ)) f = if k = true then some (.ok (.c (.bool true)) Γ) else f Γ := by cases k <;> rfl
@[simp] theorem sv8 (F : Genv) (a b : CE) (Γ : List Tr) : ev F (.and_ a b) Γ = andV (ev F a Γ) (ev F b) := by rw [ev]; rfl
@[simp] theorem sv9 (F : Genv) (a b : CE) (Γ : List Tr) : ev F (.or_ a b) Γ = orV (ev F a Γ) (ev F b) := by rw [ev]; rfl
def ifeV (r : Option TR) (f g : List Tr → Option ER) : Option ER := match r with
  | some (.ok true Γ1) => f Γ1
  | some (.ok false Γ1) => g Γ1
  | some (.ex x Γ1) => some (.ex x Γ1)
  | none => none
@[simp] theorem ifeV_c (k : Bool) (Γ : List Tr) (f g : List Tr → Option ER) : ifeV (some (.ok k Γ)) f g = if k = true then f Γ else g Γ := by cases k <;> rfl
@[simp] theorem sv11 (F : Genv) (c : CT) (a b : CE) (Γ : List Tr) : ev F (.ife c a b) Γ = ifeV (evT F c Γ) (ev F a) (ev F b) := by rw [ev]; rfl
def chV2 (o1 o2 : CmpOp) (Γ1 : List Tr) (f : List Tr → Option ER) (ts : List Tr) : Option ER := match ts with
  | [ta, tb] => (cmpEv o1 ta tb).bind fun r => if r = true then ((see tb).bind fun db => if flatD db then (match f Γ1 with
      | some (.ok tc Γ2) => (cmpEv o2 (.c db) tc).map fun r => .ok (bT r) Γ2
      | r => r) else none) else some (.ok (bT false) Γ1)
  | _ => none
@[simp] theorem chV2_c (o1 o2 : CmpOp) (Γ1 : List Tr) (f : List Tr → Option ER) (ta tb : Tr) : chV2 o1 o2 Γ1 f [ta, tb] = (cmpEv o1 ta tb).bind fun r => if r = true then ((see tb).bind fun db => if flatD db then (match f Γ1 with
      | some (.ok tc Γ2) => (cmpEv o2 (.c db) tc).map fun r => .ok (bT r) Γ2
      | r => r) else none) else some (.ok (bT false) Γ1) := rfl
def chV (o1 o2 : CmpOp) (r : Option AR) (f : List Tr → Option ER) : Option ER := match r with
  | some (.ok avs Γ1) => (resolves Γ1 avs).bind (chV2 o1 o2 Γ1 f)
  | some (.ex x Γ1) => some (.ex x Γ1)
  | none => none
@[simp] theorem chV_c (o1 o2 : CmpOp) (avs : List AV) (Γ1 : List Tr) (f : List Tr → Option ER) : chV o1 o2 (some (.ok avs Γ1)) f = (resolves Γ1 avs).bind (chV2 o1 o2 Γ1 f) := rfl
@[simp] theorem sv12 (F : Genv) (o1 o2 : CmpOp) (ab : List CA) (c : CE) (Γ : List Tr) : ev F (.chain o1 o2 ab c) Γ = chV o1 o2 (evAs F ab Γ) (ev F c) := by
  rw [ev]
  unfold chV
  cases evAs F ab Γ with
  | none => rfl
  | some r =>
    cases r with
    | ex x Γ1 => rfl
    | ok avs Γ1 =>
      dsimp only
      cases resolves Γ1 avs with
      | none => rfl
      | some ts =>
        match ts with
        | [] => rfl
        | [_] => rfl
        | _ :: _ :: _ :: _ => rfl
        | [ta, tb] =>
          dsimp only [chV2, Option.bind_some]
          cases cmpEv o1 ta tb with
          | none => rfl
          | some k =>
            cases k with
            | false => rfl
            | true =>
              dsimp only [Option.bind_some]
              cases see tb with
              | none => rfl
              | some db => rfl
def andT (r : Option TR) (f : List Tr → Option TR) : Option TR := match r with
  | some (.ok true Γ1) => f Γ1
  | r => r
def orT (r : Option TR) (f : List Tr → Option TR) : Option TR := match r with
  | some (.ok false Γ1) => f Γ1
  | r => r
def notT (r : Option TR) : Option TR := match r with
  | some (.ok b Γ1) => some (.ok (!b) Γ1)
  | r => r
@[simp] theorem andT_c (k : Bool) (Γ : List Tr) (f : List Tr → Option TR) : andT (some (.ok k Γ)) f = if k = true then f Γ else some (.ok false Γ) := by cases k <;> rfl
@[simp] theorem orT_c (k : Bool) (Γ : List Tr) (f : List Tr → Option TR) : orT (some (.ok k Γ)) f = if k = true then some (.ok true Γ) else f Γ := by cases k <;> rfl
@[simp] theorem notT_c (k : Bool) (Γ : List Tr) : notT (some (.ok k Γ)) = some (.ok (!k) Γ) := rfl
def teT (r : Option ER) : Option TR := match r with
  | some (.ok t Γ1) => (truth t).map fun b => .ok b Γ1
  | some (.ex x Γ1) => some (.ex x Γ1)
  | none => none
@[simp] theorem teT_c (t : Tr) (Γ : List Tr) : teT (some (.ok t Γ)) = (truth t).map fun b => .ok b Γ := rfl
@[simp] theorem teT_ite (p : Prop) [Decidable p] (a b : Option ER) : teT (if p then a else b) = if p then teT a else teT b := apply_ite ..
@[simp] theorem andT_ite (p : Prop) [Decidable p] (a b : Option TR) (f : List Tr → Option TR) : andT (if p then a else b) f = if p then andT a f else andT b f := by split <;> rfl
@[simp] theorem orT_ite (p : Prop) [Decidable p] (a b : Option TR) (f : List Tr → Option TR) : orT (if p then a else b) f = if p then orT a f else orT b f := by split <;> rfl
@[simp] theorem notT_ite (p : Prop) [Decidable p] (a b : Option TR) : notT (if p then a else b) = if p then notT a else notT b := apply_ite ..
@[simp] theorem andV_ite (p : Prop) [Decidable p] (a b : Option ER) (f : List Tr → Option ER) : andV (if p then a else b) f = if p then andV a f else andV b f := by split <;> rfl
@[simp] theorem orV_ite (p : Prop) [Decidable p] (a b : Option ER) (f : List Tr → Option ER) : orV (if p then a else b) f = if p then orV a f else orV b f := by split <;> rfl
@[simp] theorem st5 (F : Genv) (a : CE) (Γ : List Tr) : evT F (.e a) Γ = teT (ev F a Γ) := by rw [evT]; rfl
@[simp] theorem st1 (F : Genv) (a b : CT) (Γ : List Tr) : evT F (.and_ a b) Γ = andT (evT F a Γ) (evT F b) := by rw [evT]; rfl
@[simp] theorem st2 (F : Genv) (a b : CT) (Γ : List Tr) : evT F (.or_ a b) Γ = orT (evT F a Γ) (evT F b) := by rw [evT]; rfl
@[simp] theorem sstl (F : Genv) (a : CE) (Γ : List Tr) : ev F (.stl a) Γ = stlE (ev F a Γ) := by rw [ev]
@[simp] theorem semp (F : Genv) (Γ : List Tr) : ev F .emp Γ = some (.ok (.c (.dict [])) Γ) := by rw [ev]
def sl2X (d : PyData) (i : Int) (r : Option ER) : Option ER := match r with
  | some (.ok tc Γ3) => (match asInt tc with
    | some j => (slEv (.c d) (some i) (some j)).map fun t => .ok t Γ3
    | none => none)
  | some (.ex x Γ3) => some (.ex x Γ3)
  | none => none
def sl2W (d : PyData) (r : Option ER) (g : List Tr → Option ER) : Option ER := match r with
  | some (.ok tb Γ2) => (match asInt tb with
    | some i => sl2X d i (g Γ2)
    | none => none)
  | some (.ex x Γ2) => some (.ex x Γ2)
  | none => none
def sl2V (r : Option ER) (f g : List Tr → Option ER) : Option ER := match r with
  | some (.ok (.c d) Γ1) => sl2W d (f Γ1) g
  | some (.ex x Γ1) => some (.ex x Γ1)
  | _ => none
@[simp] theorem sl2X_c (d : PyData) (i j : Int) (Γ : List Tr) : sl2X d i (some (.ok (.c (.int j)) Γ)) = (slEv (.c d) (some i) (some j)).map fun t => .ok t Γ := rfl
@[simp] theorem sl2W_c (d : PyData) (i : Int) (Γ : List Tr) (g : List Tr → Option ER) : sl2W d (some (.ok (.c (.int i)) Γ)) g = sl2X d i (g Γ) := rfl
@[simp] theorem sl2V_c (d : PyData) (Γ : List Tr) (f g : List Tr → Option ER) : sl2V (some (.ok (.c d) Γ)) f g = sl2W d (f Γ) g := rfl
@[simp] theorem ssl2 (F : Genv) (a b c : CE) (Γ : List Tr) : ev F (.sl2 a b c) Γ = sl2V (ev F a Γ) (ev F b) (ev F c) := by
  rw [ev]
  cases ev F a Γ with
  | none => rfl
  | some r =>
    cases r with
    | ex x Γ1 => rfl
    | ok t Γ1 => cases t <;> rfl
@[simp] theorem stlE_ok (t : Tr) (Γ : List Tr) : stlE (some (.ok t Γ)) = (frz t).map fun d => .ok (.c d) Γ := rfl
@[simp] theorem stlE_ex (x : Str) (Γ : List Tr) : stlE (some (.ex x Γ)) = some (.ex x Γ) := rfl
@[simp] theorem st3 (F : Genv) (a : CT) (Γ : List Tr) : evT F (.not_ a) Γ = notT (evT F a Γ) := by rw [evT]; rfl
@[simp] theorem sas1 : type_of% @Hw.evAs.eq_1 := @Hw.evAs.eq_1
@[simp] theorem sas2 : type_of% @Hw.evAs.eq_2 := @Hw.evAs.eq_2
@[simp] theorem sas3 : type_of% @Hw.evAs.eq_3 := @Hw.evAs.eq_3
@[simp] theorem sas4 : type_of% @Hw.evAs.eq_4 := @Hw.evAs.eq_4
@[simp] theorem st4 : type_of% @Hw.evT.eq_4 := @Hw.evT.eq_4
@[simp] theorem sc1 : type_of% @Hw.evC.eq_1 := @Hw.evC.eq_1
@[simp] theorem sc2 : type_of% @Hw.evC.eq_2 := @Hw.evC.eq_2
@[simp] theorem si1 : type_of% @Hw.evIt.eq_1 := @Hw.evIt.eq_1
theorem si2 (F : Genv) (a : CE) (Γ : List Tr) : evIt F (.rng1 a) Γ = (match ev F a Γ with
    | some (.ok t Γ1) => (asInt t).bind fun j => if okR j = true then some (.ok (rgD 0 j) Γ1) else none
    | some (.ex x Γ1) => some (.ex x Γ1)
    | none => none) := Eq.trans (Hw.evIt.eq_2 ..) (Eq.refl _)
theorem si3 (F : Genv) (ab : List CA) (Γ : List Tr) : evIt F (.rng2 ab) Γ = (match evAs F ab Γ with
    | some (.ok avs Γ1) => (match resolves Γ1 avs with
      | some [ta, tb] => (asInt ta).bind fun i => (asInt tb).bind fun j => if okR i = true ∧ okR j = true then some (.ok (rgD i j) Γ1) else none
      | _ => none)
    | some (.ex x Γ1) => some (.ex x Γ1)
    | none => none) := Eq.trans (Hw.evIt.eq_3 ..) (Eq.refl _)
@[simp] theorem si4 : type_of% @Hw.evIt.eq_4 := @Hw.evIt.eq_4
@[simp] theorem si5 : type_of% @Hw.evIt.eq_5 := @Hw.evIt.eq_5
@[simp] theorem si6 : type_of% @Hw.evIt.eq_6 := @Hw.evIt.eq_6
@[simp] theorem sp1 : type_of% @Hw.evP.eq_1 := @Hw.evP.eq_1
@[simp] theorem sp2 : type_of% @Hw.evP.eq_2 := @Hw.evP.eq_2
@[simp] theorem spt1 : type_of% @Hw.evPt.eq_1 := @Hw.evPt.eq_1
@[simp] theorem spt2 : type_of% @Hw.evPt.eq_2 := @Hw.evPt.eq_2
@[simp] theorem sx1 : type_of% @Hw.exS.eq_1 := @Hw.exS.eq_1
@[simp] theorem sx2 : type_of% @Hw.exS.eq_2 := @Hw.exS.eq_2
@[simp] theorem sx3 : type_of% @Hw.exS.eq_3 := @Hw.exS.eq_3
@[simp] theorem sx4 : type_of% @Hw.exS.eq_4 := @Hw.exS.eq_4
@[simp] theorem sx5 : type_of% @Hw.exS.eq_5 := @Hw.exS.eq_5
@[simp] theorem sx6 : type_of% @Hw.exS.eq_6 := @Hw.exS.eq_6
@[simp] theorem sx7 : type_of% @Hw.exS.eq_7 := @Hw.exS.eq_7
@[simp] theorem sx8 : type_of% @Hw.exS.eq_8 := @Hw.exS.eq_8
@[simp] theorem sx9 : type_of% @Hw.exS.eq_9 := @Hw.exS.eq_9
@[simp] theorem sx10 : type_of% @Hw.exS.eq_10 := @Hw.exS.eq_10
@[simp] theorem sx11 : type_of% @Hw.exS.eq_11 := @Hw.exS.eq_11
@[simp] theorem sxb (F : Genv) (Γ : List Tr) : exS F .brk Γ = some (.bk Γ) := by rw [exS]
@[simp] theorem sxc (F : Genv) (Γ : List Tr) : exS F .cnt Γ = some (.ct Γ) := by rw [exS]
@[simp] theorem sxp (F : Genv) (Γ : List Tr) : exS F .pass Γ = some (.nx Γ) := by rw [exS]
@[simp] theorem sxd (F : Genv) (Γ : List Tr) : exS F .doc Γ = some (.nx Γ) := by rw [exS]
@[simp] theorem sxr (F : Genv) (x : Str) (Γ : List Tr) : exS F (.rais x) Γ = some (.ex x Γ) := by rw [exS]
@[simp] theorem nc_eq (a b : Nat) : ((a : Int) = (b : Int)) = (a = b) := by rw [eq_iff_iff]; omega
@[simp] theorem nc_le (a b : Nat) : ((a : Int) ≤ (b : Int)) = (a ≤ b) := by rw [eq_iff_iff]; omega
@[simp] theorem nc_lt (a b : Nat) : ((a : Int) < (b : Int)) = (a < b) := by rw [eq_iff_iff]; omega
/-! operations -/
@[simp] theorem p_add (a b : Tr) : primEv .add [a, b] = addEv a b := rfl
@[simp] theorem p_sub (a b : Tr) : primEv .sub [a, b] = int2 (fun i j => some (i - j)) a b := rfl
@[simp] theorem p_mul (a b : Tr) : primEv .mul [a, b] = mulEv a b := rfl
@[simp] theorem p_fdiv (a b : Tr) : primEv .fdiv [a, b] = int2 (fun i j => if 0 < j ∧ j.natAbs.log2 < 9000 then some (i / j) else none) a b := rfl
@[simp] theorem p_mod (a b : Tr) : primEv .mod [a, b] = int2 (fun i j => if 0 < j then some (i % j) else none) a b := rfl
@[simp] theorem p_pow (a b : Tr) : primEv .pow [a, b] = int2 (fun i j => if 0 ≤ j ∧ j ≤ 1000000 ∧ i.natAbs < 2 ^ 64 then some (i ^ j.toNat) else none) a b := rfl
@[simp] theorem p_neg (a : Tr) : primEv .neg [a] = (asInt a).map fun i => iT (-i) := rfl
@[simp] theorem p_cmp (o : CmpOp) (a b : Tr) : primEv (.cmp o) [a, b] = (cmpEv o a b).map bT := rfl
@[simp] theorem p_ix (a b : Tr) : primEv .ix [a, b] = ixEv a b := rfl
@[simp] theorem p_bi (b : Bi) (as : List Tr) : primEv (.bi b) as = biEv b as := rfl
@[simp] theorem p_rev (a : Tr) : primEv .rev [a] = (match asList a with | some xs => some (lT xs.reverse) | none => (asTup a).map fun xs => .c (.tuple xs.reverse)) := rfl
@[simp] theorem p_rpr (a : Tr) : primEv .rpr [a] = (see a).bind fun d => if plainR d = true then some (.c (.str (PyData.shown d))) else none := rfl
@[simp] theorem p_sl0 (a : Tr) : primEv (.sl false false) [a] = slEv a none none := rfl
@[simp] theorem p_sl1 (a b : Tr) : primEv (.sl true false) [a, b] = (asInt b).bind fun i => slEv a (some i) none := rfl
@[simp] theorem p_sl2 (a b : Tr) : primEv (.sl false true) [a, b] = (asInt b).bind fun i => slEv a none (some i) := rfl
theorem p_trg (a : Tr) : primEv (.trg false) [a] = (asInt a).bind fun j => if rgOkB 0 j then some (.c (.tuple (rgD 0 j))) else none := Eq.trans (Eq.refl _) (Eq.refl _)
theorem p_lrg (a : Tr) : primEv (.lrg false) [a] = (asInt a).bind fun j => if rgOkB 0 j then some (lT (rgD 0 j)) else none := Eq.trans (Eq.refl _) (Eq.refl _)
@[simp] theorem int2_c (g : Int → Int → Option Int) (i j : Int) : int2 g (.c (.int i)) (.c (.int j)) = (g i j).map iT := rfl
@[simp] theorem add_c (i j : Int) : addEv (.c (.int i)) (.c (.int j)) = some (.c (.int (i + j))) := rfl
@[simp] theorem cmpI_c (p : Int → Int → Bool) (i j : Int) : cmpI p (.c (.int i)) (.c (.int j)) = some (p i j) := rfl
@[simp] theorem lt_c (i j : Int) : cmpEv .Lt (.c (.int i)) (.c (.int j)) = some (decide (i < j)) := rfl
@[simp] theorem le_c (i j : Int) : cmpEv .LtE (.c (.int i)) (.c (.int j)) = some (decide (i ≤ j)) := rfl
@[simp] theorem gt_c (i j : Int) : cmpEv .Gt (.c (.int i)) (.c (.int j)) = some (decide (j < i)) := rfl
@[simp] theorem ge_c (i j : Int) : cmpEv .GtE (.c (.int i)) (.c (.int j)) = some (decide (j ≤ i)) := rfl
@[simp] theorem eq_c (i j : Int) : cmpEv .Eq (.c (.int i)) (.c (.int j)) = some (decide (i = j)) := rfl
@[simp] theorem ne_c (i j : Int) : cmpEv .NotEq (.c (.int i)) (.c (.int j)) = some (!decide (i = j)) := rfl
@[simp] theorem eq_cb (i j : Bool) : cmpEv .Eq (.c (.bool i)) (.c (.bool j)) = some (i == j) := rfl
@[simp] theorem ne_cb (i j : Bool) : cmpEv .NotEq (.c (.bool i)) (.c (.bool j)) = some (!(i == j)) := rfl
@[simp] theorem eq_cs (x y : Str) : cmpEv .Eq (.c (.str x)) (.c (.str y)) = some (decide (x = y)) := rfl
@[simp] theorem ne_cs (x y : Str) : cmpEv .NotEq (.c (.str x)) (.c (.str y)) = some (!decide (x = y)) := rfl
def isNon : PyData → Bool
  | .none => true
  | _ => false
@[simp] theorem isN_c (d : PyData) : cmpEv .Is (.c d) (.c .none) = some (isNon d) := by cases d <;> rfl
@[simp] theorem isnN_c (d : PyData) : cmpEv .IsNot (.c d) (.c .none) = some (!isNon d) := by cases d <;> rfl
@[simp] theorem isb_c (i j : Bool) : cmpEv .Is (.c (.bool i)) (.c (.bool j)) = some (decide (i = j)) := rfl
@[simp] theorem isnb_c (i j : Bool) : cmpEv .IsNot (.c (.bool i)) (.c (.bool j)) = some (!decide (i = j)) := rfl
@[simp] theorem isNon_i (i : Int) : isNon (.int i) = false := rfl
@[simp] theorem isNon_n : isNon .none = true := rfl
@[simp] theorem isNon_t (ds : List PyData) : isNon (.tuple ds) = false := rfl
@[simp] theorem isNon_l (ds : List PyData) : isNon (.list ds) = false := rfl
@[simp] theorem truth_b (b : Bool) : truth (.c (.bool b)) = some b := rfl
@[simp] theorem truth_i (i : Int) : truth (.c (.int i)) = some (i != 0) := rfl
@[simp] theorem len_t (ds : List PyData) : biEv .len [.c (.tuple ds)] = some (.c (.int (ds.length : Nat))) := rfl
@[simp] theorem len_cl (ds : List PyData) : biEv .len [.c (.list ds)] = some (.c (.int (ds.length : Nat))) := rfl
@[simp] theorem len_s (ns : List Int) : biEv .len [.s ns] = some (.c (.int (ns.length : Nat))) := rfl
theorem len_l {xs : List Tr} {ds : List PyData} (h : stl xs = some ds) : biEv .len [.l xs] = some (.c (.int (ds.length : Nat))) := by
  unfold biEv
  simp [asSeq_l h]
theorem all_m {α : Type} (p : α → Bool) (xs : List α) : biEv .all [.l (xs.map fun x => .c (.bool (p x)))] = some (.c (.bool (xs.all p))) := by
  simp only [biEv, asList_l]
  rw [stl_map (fun x => PyData.bool (p x))]
  simp [boolsOf_map, List.all_map]
theorem any_m {α : Type} (p : α → Bool) (xs : List α) : biEv .any [.l (xs.map fun x => .c (.bool (p x)))] = some (.c (.bool (xs.any p))) := by
  simp only [biEv, asList_l]
  rw [stl_map (fun x => PyData.bool (p x))]
  simp [boolsOf_map, List.any_map]
theorem sum_m {α : Type} (p : α → Int) (xs : List α) : biEv .sum [.l (xs.map fun x => .c (.int (p x)))] = some (.c (.int (xs.map p).sum)) := by
  simp only [biEv, asList_l]
  rw [stl_map (fun x => PyData.int (p x))]
  simp [intsOf_map]
theorem tuple_m {α : Type} (p : α → PyData) (xs : List α) : biEv .tuple [.l (xs.map fun x => .c (p x))] = some (.c (.tuple (xs.map p))) := by
  simp only [biEv]
  rw [asSeq_l (stl_map p xs)]
  rfl
@[simp] theorem tuple_ct (ds : List PyData) : biEv .tuple [.c (.tuple ds)] = some (.c (.tuple ds)) := rfl
@[simp] theorem tuple_cl (ds : List PyData) : biEv .tuple [.c (.list ds)] = some (.c (.tuple ds)) := rfl
@[simp] theorem list_ct (ds : List PyData) : biEv .list [.c (.tuple ds)] = some (lT ds) := rfl
@[simp] theorem min2_c (i j : Int) : biEv .min2 [.c (.int i), .c (.int j)] = some (.c (.int (if j < i then j else i))) := rfl
@[simp] theorem min3_c (i j k : Int) : biEv .min3 [.c (.int i), .c (.int j), .c (.int k)] = some (.c (.int (if k < (if j < i then j else i) then k else (if j < i then j else i)))) := rfl
@[simp] theorem max2_c (i j : Int) : biEv .max2 [.c (.int i), .c (.int j)] = some (.c (.int (if j > i then j else i))) := rfl
@[simp] theorem abs_c (i : Int) : biEv .abs [.c (.int i)] = some (.c (.int (if i < 0 then -i else i))) := rfl
@[simp] theorem int_cb (b : Bool) : biEv .int [.c (.bool b)] = some (.c (.int (if b then 1 else 0))) := rfl
/-! small words -/
@[simp] theorem slotOk_0 (d : PyData) (Γ : List Tr) : slotOk (.c d :: Γ) 0 = true := rfl
@[simp] theorem slotOk_0l (d : List Tr) (Γ : List Tr) : slotOk (.l d :: Γ) 0 = true := rfl
@[simp] theorem slotOk_0t (d : List Tr) (Γ : List Tr) : slotOk (.t d :: Γ) 0 = true := rfl
@[simp] theorem slotOk_0s (d : List Int) (Γ : List Tr) : slotOk (.s d :: Γ) 0 = true := rfl
@[simp] theorem slotOk_s (t : Tr) (Γ : List Tr) (i : Nat) : slotOk (t :: Γ) (i + 1) = slotOk Γ i := rfl
@[simp] theorem arc_ok (a : AV) (as : List AV) (Γ : List Tr) : AR.cons a (some (.ok as Γ)) = some (.ok (a :: as) Γ) := rfl
@[simp] theorem arc_ex (a : AV) (x : Str) (Γ : List Tr) : AR.cons a (some (.ex x Γ)) = some (.ex x Γ) := rfl
@[simp] theorem resv0 (Γ : List Tr) : resolves Γ [] = some [] := rfl
@[simp] theorem resv1 (Γ : List Tr) (t : Tr) (as : List AV) : resolves Γ (.tmp t :: as) = (resolves Γ as).map (t :: ·) := by
  simp only [resolves, resolve]; cases resolves Γ as <;> rfl
@[simp] theorem resv2 (Γ : List Tr) (i : Nat) (as : List AV) : resolves Γ (.pk i :: as) = Γ[i]?.bind fun t => (resolves Γ as).map (t :: ·) := by
  simp only [resolves, resolve]; cases Γ[i]? <;> cases resolves Γ as <;> rfl
@[simp] theorem tmps0 : tmps [] = some [] := rfl
@[simp] theorem tmps1 (t : Tr) (as : List AV) : tmps (.tmp t :: as) = (tmps as).map (t :: ·) := rfl
@[simp] theorem argsOf0 (Γ : List Tr) : argsOf Γ [] = some [] := rfl
@[simp] theorem argsOf1 (Γ : List Tr) (t : Tr) (as : List AV) : argsOf Γ (.tmp t :: as) = (Hw.settle t).bind fun t => (argsOf Γ as).map (t :: ·) := by
  simp only [argsOf, argOf]; cases Hw.settle t <;> cases argsOf Γ as <;> rfl
@[simp] theorem argsOf2 (Γ : List Tr) (i : Nat) (as : List AV) : argsOf Γ (.io i :: as) = if slotOk Γ i then Γ[i]?.bind fun t => (argsOf Γ as).map (t :: ·) else none := by
  have e : argOf Γ (.io i) = if slotOk Γ i then Γ[i]? else none := by
    cases h : Γ[i]? with
    | none => simp [argOf, slotOk, h]
    | some t => cases t <;> simp [argOf, slotOk, h]
  rw [argsOf, e]
  by_cases h : slotOk Γ i = true
  · rw [if_pos h, if_pos h]
    cases Γ[i]? <;> cases argsOf Γ as <;> rfl
  · rw [if_neg h, if_neg h]
@[simp] theorem slotsOf0 : slotsOf [] = [] := rfl
@[simp] theorem slotsOf1 (t : Tr) (as : List AV) : slotsOf (.tmp t :: as) = slotsOf as := rfl
@[simp] theorem slotsOf2 (i : Nat) (as : List AV) : slotsOf (.io i :: as) = i :: slotsOf as := rfl
@[simp] theorem hasPk0 : hasPk [] = false := rfl
@[simp] theorem hasPk1 (t : Tr) (as : List AV) : hasPk (.tmp t :: as) = hasPk as := rfl
@[simp] theorem hasPk2 (i : Nat) (as : List AV) : hasPk (.io i :: as) = hasPk as := rfl
@[simp] theorem backs0 (Γ : List Tr) (os : List Tr) : backs Γ [] os = Γ := by cases os <;> rfl
@[simp] theorem backs1 (Γ : List Tr) (t : Tr) (as : List AV) (o : Tr) (os : List Tr) : backs Γ (.tmp t :: as) (o :: os) = backs Γ as os := rfl
@[simp] theorem backs2 (Γ : List Tr) (i : Nat) (as : List AV) (o : Tr) (os : List Tr) : backs Γ (.io i :: as) (o :: os) = backs (Γ.set i o) as os := rfl
@[simp] theorem flat_i (i : Int) : flatD (.int i) = true := rfl
@[simp] theorem flat_n : flatD .none = true := rfl
@[simp] theorem flat_b (b : Bool) : flatD (.bool b) = true := rfl
@[simp] theorem flat_s (b : Str) : flatD (.str b) = true := rfl
@[simp] theorem isStl_c (d : PyData) : isStl (.c d) = true := rfl
@[simp] theorem isStl_s (d : List Int) : isStl (.s d) = true := rfl
@[simp] theorem isStl_l (d : List Tr) : isStl (.l d) = false := rfl
@[simp] theorem isStl_t (d : List Tr) : isStl (.t d) = false := rfl
@[simp] theorem kid_c (d : PyData) (k : Int) : kidT (.c d) k = (kidD d k).map .c := rfl
@[simp] theorem kid_s (ns : List Int) (k : Int) : kidT (.s ns) k = (atI ns k).map iT := rfl
@[simp] theorem kid_l (xs : List Tr) (k : Int) : kidT (.l xs) k = atI xs k := rfl
@[simp] theorem kid_t (xs : List Tr) (k : Int) : kidT (.t xs) k = atI xs k := rfl
@[simp] theorem kidD_t (ds : List PyData) (k : Int) : kidD (.tuple ds) k = atI ds k := rfl
@[simp] theorem kidD_l (ds : List PyData) (k : Int) : kidD (.list ds) k = atI ds k := rfl
@[simp] theorem atI_0' {α : Type} (x : α) (xs : List α) : atI (x :: xs) 0 = some x := atI_n (x :: xs) 0
@[simp] theorem atI_1' {α : Type} (x y : α) (xs : List α) : atI (x :: y :: xs) 1 = some y := atI_n (x :: y :: xs) 1
@[simp] theorem atI_2' {α : Type} (x y z : α) (xs : List α) : atI (x :: y :: z :: xs) 2 = some z := atI_n (x :: y :: z :: xs) 2
@[simp] theorem putIn_ok (i : Nat) (t r : Tr) (Γ : List Tr) : Hw.putIn i t (some (.ok r Γ)) = (match Γ[i]? with
    | some .gone => some (.ok r (Γ.set i t))
    | _ => none) := rfl
@[simp] theorem bindTg_nm (Γ : List Tr) (i : Nat) (d : PyData) : bindTg Γ (.nm i) d = some (Γ.set i (.c d)) := rfl
@[simp] theorem bindTg_tp (Γ : List Tr) (is : List Nat) (ds : List PyData) : bindTg Γ (.tp is) (.tuple ds) = if is.length = ds.length then bindTp Γ is ds else none := rfl
@[simp] theorem bindTp0 (Γ : List Tr) : bindTp Γ [] [] = some Γ := rfl
@[simp] theorem bindTp1 (Γ : List Tr) (i : Nat) (is : List Nat) (d : PyData) (ds : List PyData) : bindTp Γ (i :: is) (d :: ds) = bindTp (Γ.set i (.c d)) is ds := rfl
@[simp] theorem wipe0 (Γ : List Tr) : wipeT Γ [] = Γ := rfl
@[simp] theorem wipe1 (Γ : List Tr) (i : Nat) (is : List Nat) : wipeT Γ (i :: is) = (wipeT Γ is).set i .gone := rfl
@[simp] theorem setAll0 (Γ : List Tr) : setAll Γ [] [] = some Γ := rfl
@[simp] theorem setAll1 (Γ : List Tr) (i : Nat) (is : List Nat) (t : Tr) (ts : List Tr) : setAll Γ (i :: is) (t :: ts) = setAll (Γ.set i t) is ts := rfl
@[simp] theorem partsOf_c (ds : List PyData) : partsOf (.c (.tuple ds)) = some (ds.map .c) := rfl
@[simp] theorem partsOf_t (xs : List Tr) : partsOf (.t xs) = some xs := rfl
@[simp] theorem tupT_0 : tupT [] = .c (.tuple []) := rfl
@[simp] theorem tupT_1 (a : PyData) : tupT [.c a] = .c (.tuple [a]) := rfl
@[simp] theorem tupT_2 (a b : PyData) : tupT [.c a, .c b] = .c (.tuple [a, b]) := rfl
@[simp] theorem tupT_3 (a b c : PyData) : tupT [.c a, .c b, .c c] = .c (.tuple [a, b, c]) := rfl
@[simp] theorem outs0 (xs : List Tr) : outsOf [] xs = [] := by cases xs <;> rfl
@[simp] theorem outs1 (ps : List Bool) (x : Tr) (xs : List Tr) : outsOf (true :: ps) (x :: xs) = x :: outsOf ps xs := rfl
@[simp] theorem outs2 (ps : List Bool) (x : Tr) (xs : List Tr) : outsOf (false :: ps) (x :: xs) = .gone :: outsOf ps xs := rfl
@[simp] theorem sz0 : 0 ≤ sizeLine := by decide
@[simp] theorem sz1 : 1 ≤ sizeLine := by decide
@[simp] theorem sz2 : 2 ≤ sizeLine := by decide
@[simp] theorem sz3 : 3 ≤ sizeLine := by decide
@[simp] theorem sz4 : 4 ≤ sizeLine := by decide
@[simp] theorem sz5 : 5 ≤ sizeLine := by decide
@[simp] theorem sz6 : 6 ≤ sizeLine := by decide
@[simp] theorem idxs0 : idxs [] = some [] := rfl
@[simp] theorem idxs1 (t : Tr) (as : List AV) : idxs (.tmp t :: as) = (asInt t).bind fun k => (idxs as).map (k :: ·) := by
  simp only [idxs]; cases asInt t <;> cases idxs as <;> rfl
@[simp] theorem putP0 (g : List Tr → Option (List Tr)) (xs : List Tr) : putP g [] (.l xs) = (g xs).map Tr.l := by rw [putP]
theorem rgOk {n : Nat} (h : n ≤ 1000000) : rgOkB 0 (n : Int) = true := by
  unfold rgOkB
  rw [Bool.and_eq_true]
  exact ⟨okR_of (by omega) (by omega), okR_of (by omega) (by omega)⟩
theorem trg_n {n : Nat} (h : n ≤ 1000000) : primEv (.trg false) [.c (.int n)] = some (.c (.tuple ((List.range n).map fun i => PyData.int (i : Nat)))) := by
  rw [p_trg, asInt_c, Option.bind_some, if_pos (rgOk h), rg0]
theorem lrg_n {n : Nat} (h : n ≤ 1000000) : primEv (.lrg false) [.c (.int n)] = some (mpT (fun i : Nat => PyData.int (i : Nat)) (List.range n)) := by
  rw [p_lrg, asInt_c, Option.bind_some, if_pos (rgOk h), rg0]
  simp [mpT, lT]
theorem rng1_i {F : Genv} {a : CE} {Γ Γ1 : List Tr} {j : Int} (h : ev F a Γ = some (.ok (.c (.int j)) Γ1)) (h0 : -1000000 ≤ j) (h1 : j ≤ 1000000) : evIt F (.rng1 a) Γ = some (.ok ((List.range j.toNat).map fun i => PyData.int (i : Nat)) Γ1) := by
  have p : okR j = true := okR_of h0 h1
  rw [si2, h]
  dsimp only
  rw [asInt_c, Option.bind_some, if_pos p, rgz]
theorem rng1_n {F : Genv} {a : CE} {Γ Γ1 : List Tr} {n : Nat} (h : ev F a Γ = some (.ok (.c (.int (n : Nat))) Γ1)) (h1 : n ≤ 1000000) : evIt F (.rng1 a) Γ = some (.ok ((List.range n).map fun i => PyData.int (i : Nat)) Γ1) := by
  have := rng1_i h (by omega) (by omega)
  rwa [Int.toNat_natCast] at this
end Hw
set_option Elab.async false
set_option linter.all false
set_option maxRecDepth 100000
set_option maxHeartbeats 400000
namespace Hp
open PySem PySem.Spec PyProof.Rows L2 Hw
def isTup : PyData → Bool
  | .tuple _ => true
  | _ => false
def isLst : PyData → Bool
  | .list _ => true
  | _ => false
def isInt0 : PyData → Bool
  | .int _ => true
  | .bool _ => true
  | _ => false
def isBol : PyData → Bool
  | .bool _ => true
  | _ => false
@[simp] theorem isi_tuple (d : PyData) : primEv (.isi "tuple") [.c d] = some (.c (.bool (isTup d))) := by cases d <;> rfl
@[simp] theorem isi_list (d : PyData) : primEv (.isi "list") [.c d] = some (.c (.bool (isLst d))) := by cases d <;> rfl
@[simp] theorem isi_int (d : PyData) : primEv (.isi "int") [.c d] = some (.c (.bool (isInt0 d))) := by cases d <;> rfl
@[simp] theorem isi_bool (d : PyData) : primEv (.isi "bool") [.c d] = some (.c (.bool (isBol d))) := by cases d <;> rfl
@[simp] theorem isTup_t (ds : List PyData) : isTup (.tuple ds) = true := rfl
theorem isTup_iff {d : PyData} : isTup d = true ↔ ∃ ds, d = .tuple ds := by cases d <;> simp [isTup]
/-- a whole number in bounds -/
def isNum (d : PyData) (lo hi : Int) : Bool := match d with
  | .int i => decide (lo ≤ i) && decide (i ≤ hi)
  | _ => false
theorem isNum_iff {d : PyData} {lo hi : Int} : isNum d lo hi = true ↔ ∃ i, d = .int i ∧ lo ≤ i ∧ i ≤ hi := by
  cases d <;> simp [isNum]
@[simp] theorem isNum_i {i lo hi : Int} : isNum (.int i) lo hi = (decide (lo ≤ i) && decide (i ≤ hi)) := rfl
def S_is_number (run : List Tr → Option FR) : Prop := ∀ d lo hi, run [.c d, .c (.int lo), .c (.int hi)] = some (.ok (.c (.bool (isNum d lo hi))) [.gone, .gone, .gone])
theorem w_is_number (F : Genv) : S_is_number (r_is_number F) := by
  intro d lo hi
  refine run_ret rfl (by decide) ?_
  refine Run.rt (t := .c (.bool (isNum d lo hi))) (Γ1 := [.c d, .c (.int lo), .c (.int hi)]) ?_ ⟨_, rfl, rfl⟩
  cases d with
  | int i => by_cases h : lo ≤ i <;> simp [isInt0, isBol, h]
  | _ => simp [isInt0, isBol, isNum]
def isTieB (n : Nat) (d : PyData) : Bool := match d with
  | .tuple [a, b, c] => isNum a 0 ((n : Int) - 1) && isNum b 0 ((n : Int) - 1) && !(PyData.eqv a b) && isNum c 1 9
  | _ => false
theorem isTieB_iff {n : Nat} {d : PyData} : isTieB n d = true ↔ ∃ t, d = tieD t ∧ OkT n t := by
  constructor
  · intro h
    unfold isTieB at h
    split at h
    · rename_i a b c
      simp only [Bool.and_eq_true, Bool.not_eq_true'] at h
      obtain ⟨⟨⟨h1, h2⟩, h3⟩, h4⟩ := h
      obtain ⟨i, rfl, i0, i1⟩ := isNum_iff.mp h1
      obtain ⟨j, rfl, j0, j1⟩ := isNum_iff.mp h2
      obtain ⟨m, rfl, m0, m1⟩ := isNum_iff.mp h4
      have h3 : decide (i = j) = false := h3
      have h3 := of_decide_eq_false h3
      refine ⟨⟨i.toNat, j.toNat, m⟩, ?_, ?_⟩
      · simp [tieD, Int.toNat_of_nonneg i0, Int.toNat_of_nonneg j0]
      · exact ⟨by show i.toNat < n; omega, by show j.toNat < n; omega, by show i.toNat ≠ j.toNat; omega, m0, m1⟩
    · cases h
  · rintro ⟨t, rfl, o⟩
    have h1 := o.i; have h2 := o.j; have h3 := o.ne; have h4 := o.lo; have h5 := o.hi
    have e : PyData.eqv (.int (t.i : Nat)) (.int (t.j : Nat)) = false := by
      show decide ((t.i : Int) = t.j) = false
      exact decide_eq_false (by omega)
    simp only [isTieB, tieD, isNum_i, e]
    simp [h4, h5]
    omega
def S_is_tie (run : List Tr → Option FR) : Prop := ∀ (n : Nat) d, run [.c (.int n), .c d] = some (.ok (.c (.bool (isTieB n d))) [.gone, .gone])
theorem w_is_tie {F : Genv} (h1 : Fn F "is_number" S_is_number) (g : F.gl "MOST_OVER" = some (.int 9)) : S_is_tie (r_is_tie F) := by
  obtain ⟨rn, fn, hn⟩ := h1
  intro n d
  refine run_ret rfl (by decide) ?_
  by_cases ht : isTup d = true
  · obtain ⟨ds, rfl⟩ := isTup_iff.mp ht
    by_cases hl : ds.length = 3
    · match ds, hl with
      | [a, b, c], _ =>
        refine Run.skip (Γ1 := [.c (.int n), .c (.tuple [a, b, c])]) (by simp) ?_
        refine Run.ite (k := !(isNum a 0 ((n : Int) - 1) && isNum b 0 ((n : Int) - 1))) (Γ1 := [.c (.int n), .c (.tuple [a, b, c])]) ?_ (fun h => ?_) (fun h => ?_)
        · cases ha : isNum a 0 ((n : Int) - 1) <;> simp [fn, hn _ _ _, ha]
        · have : isTieB n (.tuple [a, b, c]) = false := by
            simp only [Bool.not_eq_true'] at h
            simp only [isTieB, h, Bool.false_and]
          exact Run.rt (t := .c (.bool false)) (Γ1 := [.c (.int n), .c (.tuple [a, b, c])]) (by simp) ⟨_, by rw [this], rfl⟩
        · refine Run.nil ?_
          simp only [Bool.not_eq_false', Bool.and_eq_true] at h
          obtain ⟨i, rfl, i0, i1⟩ := isNum_iff.mp h.1
          obtain ⟨j, rfl, j0, j1⟩ := isNum_iff.mp h.2
          refine Run.rt (t := .c (.bool (isTieB n (.tuple [.int i, .int j, c])))) (Γ1 := [.c (.int n), .c (.tuple [.int i, .int j, c])]) ?_ ⟨_, rfl, rfl⟩
          have e : PyData.eqv (.int i) (.int j) = decide (i = j) := rfl
          have e1 := hn c 1 9
          simp only [isTieB, isNum_i, e, i0, i1, j0, j1, decide_true, Bool.true_and]
          by_cases hij : i = j <;> simp [fn, e1, g, hij]
    · refine Run.iteT (Γ1 := [.c (.int n), .c (.tuple ds)]) (by simp; omega) ?_
      have : isTieB n (.tuple ds) = false := by
        unfold isTieB; split
        · rename_i e; cases e; simp at hl
        · rfl
      exact Run.rt (t := .c (.bool false)) (Γ1 := [.c (.int n), .c (.tuple ds)]) (by simp) ⟨_, by rw [this], rfl⟩
  · refine Run.iteT (Γ1 := [.c (.int n), .c d]) (by simp [ht]) ?_
    have : isTieB n d = false := by
      unfold isTieB; split
      · simp at ht
      · rfl
    exact Run.rt (t := .c (.bool false)) (Γ1 := [.c (.int n), .c d]) (by simp) ⟨_, by rw [this], rfl⟩
def areEndsB (n : Nat) (d : PyData) : Bool := match d with
  | .tuple ds => decide (1 ≤ ds.length) && decide (ds.length ≤ 4) && ds.all fun d => isNum d 0 ((n : Int) - 1)
  | _ => false
theorem ends_of {n : Nat} : ∀ {ds : List PyData}, (ds.all fun d => isNum d 0 ((n : Int) - 1)) = true → ∃ es : List Nat, ds = es.map nD ∧ ∀ e ∈ es, e < n
  | [], _ => ⟨[], rfl, fun _ h => nomatch h⟩
  | d :: ds, h => by
    rw [List.all_cons, Bool.and_eq_true] at h
    obtain ⟨i, rfl, i0, i1⟩ := isNum_iff.mp h.1
    obtain ⟨es, rfl, he⟩ := ends_of h.2
    refine ⟨i.toNat :: es, by simp [nD, Int.toNat_of_nonneg i0], fun e m => ?_⟩
    rcases List.mem_cons.mp m with rfl | m
    · omega
    · exact he e m
theorem areEndsB_iff {n : Nat} {d : PyData} : areEndsB n d = true ↔ ∃ es : List Nat, d = .tuple (es.map nD) ∧ 1 ≤ es.length ∧ es.length ≤ 4 ∧ ∀ e ∈ es, e < n := by
  constructor
  · intro h
    unfold areEndsB at h
    split at h
    · simp only [Bool.and_eq_true, decide_eq_true_eq] at h
      obtain ⟨es, rfl, he⟩ := ends_of h.2
      exact ⟨es, rfl, by simpa using h.1.1, by simpa using h.1.2, he⟩
    · cases h
  · rintro ⟨es, rfl, h1, h2, h3⟩
    simp only [areEndsB, List.length_map, h1, h2, decide_true, Bool.true_and, List.all_eq_true, List.mem_map]
    rintro _ ⟨e, he, rfl⟩
    have := h3 e he
    simp [nD]
    omega
def S_are_ends (run : List Tr → Option FR) : Prop := ∀ (n : Nat) d, run [.c (.int n), .c d] = some (.ok (.c (.bool (areEndsB n d))) [.gone, .gone])
theorem w_are_ends {F : Genv} (h1 : Fn F "is_number" S_is_number) (g : F.gl "MOST_KINDS" = some (.int 4)) : S_are_ends (r_are_ends F) := by
  obtain ⟨rn, fn, hn⟩ := h1
  intro n d
  refine run_ret rfl (by decide) ?_
  have no : areEndsB n d = false → Run F [.ret (.lit (.bool false))] [.c (.int n), .c d, .gone] (Aft F [.ret (.prim (.bi .all) [.e (.lc [2] (.nm 2) (.sq (.var 1)) [] (.call ("is_number" : Str) [.e (.var 2), .e (.lit (.int 0)), .e (.prim .sub [.pk 0, .e (.lit (.int 1))])]))])] (fun r => ∃ Γ, r = .rt (.c (.bool (areEndsB n d))) Γ ∧ outsOf [false, false] Γ = [.gone, .gone])) := fun h =>
    Run.rt (t := .c (.bool false)) (Γ1 := [.c (.int n), .c d, .gone]) (by simp) ⟨_, by rw [h], rfl⟩
  by_cases ht : isTup d = true
  · obtain ⟨ds, rfl⟩ := isTup_iff.mp ht
    by_cases hl : 1 ≤ ds.length ∧ ds.length ≤ 4
    · refine Run.skip (Γ1 := [.c (.int n), .c (.tuple ds), .gone]) (by simp [g]; split <;> simp <;> omega) ?_
      have hlc : ev F (.lc [2] (.nm 2) (.sq (.var 1)) [] (.call ("is_number" : Str) [.e (.var 2), .e (.lit (.int 0)), .e (.prim .sub [.pk 0, .e (.lit (.int 1))])])) [.c (.int n), .c (.tuple ds), .gone]
          = some (.ok (.l (ds.map fun d => .c (.bool (isNum d 0 ((n : Int) - 1))))) [.c (.int n), .c (.tuple ds), .gone]) := by
        refine lc_map (c := id) (Γ1 := [.c (.int n), .c (.tuple ds), .gone]) _ (by simp) (by simp) (fun x hx => ?_) (sz (by omega))
        exact ⟨[.c (.int n), .c (.tuple ds), .c x], [.c (.int n), .c (.tuple ds), .c x], by simp, by simp [fn, hn _ _ _], by simp⟩
      refine Run.rt (t := .c (.bool (areEndsB n (.tuple ds)))) (Γ1 := [.c (.int n), .c (.tuple ds), .gone]) ?_ ⟨_, rfl, rfl⟩
      simp [hlc, all_m, areEndsB, hl.1, hl.2]
    · refine Run.iteT (Γ1 := [.c (.int n), .c (.tuple ds), .gone]) ?_ (no ?_)
      · by_cases h1 : 1 ≤ ds.length
        · simp [g]; omega
        · simp [g]; omega
      · simp only [areEndsB]
        by_cases h1 : 1 ≤ ds.length
        · have : ¬ ds.length ≤ 4 := fun z => hl ⟨h1, z⟩
          simp [this]
        · simp [h1]
  · refine Run.iteT (Γ1 := [.c (.int n), .c d, .gone]) (by simp [ht]) (no ?_)
    unfold areEndsB; split
    · simp at ht
    · rfl
end Hp
set_option Elab.async false
set_option linter.all false
set_option maxRecDepth 100000
set_option maxHeartbeats 400000
namespace Hp
open PySem PySem.Spec PyProof.Rows L2 Hw
/-- a claim's truth -/
noncomputable def tr (p : Prop) : Bool := @decide p (Classical.propDecidable p)
theorem tr_t {p : Prop} (h : p) : tr p = true := @decide_eq_true p (Classical.propDecidable p) h
theorem tr_f {p : Prop} (h : ¬ p) : tr p = false := @decide_eq_false p (Classical.propDecidable p) h
theorem tr_iff {p : Prop} : tr p = true ↔ p := ⟨fun h => @of_decide_eq_true p (Classical.propDecidable p) h, tr_t⟩
theorem tr_eq {p : Prop} {b : Bool} (h : b = true ↔ p) : tr p = b := by
  cases b with
  | true => exact tr_t (h.mp rfl)
  | false => exact tr_f fun q => by cases h.mpr q
theorem pair_of {α : Type} {R : α → α → Prop} (tr : ∀ a b c, R a b → R b c → R a c) : ∀ {l : List α}, (∀ (k : Nat) a b, l[k]? = some a → l[k + 1]? = some b → R a b) → l.Pairwise R
  | [], _ => .nil
  | [a], _ => by simp
  | a :: b :: l, h => by
    have ih := pair_of tr (l := b :: l) fun k x y hx hy => h (k + 1) x y (by simpa using hx) (by simpa using hy)
    have hab := h 0 a b rfl rfl
    refine List.pairwise_cons.mpr ⟨fun x hx => ?_, ih⟩
    rcases List.mem_cons.mp hx with rfl | hx
    · exact hab
    · exact tr _ _ _ hab ((List.pairwise_cons.mp ih).1 x hx)
theorem tLt_trans (a b c : Tie) (h1 : tLt a b) (h2 : tLt b c) : tLt a c := by unfold tLt at *; omega
theorem sl2_tie (t : Tie) : slEv (.c (tieD t)) none (some 2) = some (.c (.tuple [.int t.i, .int t.j])) := rfl
theorem lt_pair (a b c d : Nat) : cmpEv .Lt (.c (.tuple [.int a, .int b])) (.c (.tuple [.int c, .int d])) = some (decide (a < c ∨ (a = c ∧ b < d))) := by
  have e : HT.lexLt [(a : Int), b] [(c : Int), d] = decide (a < c ∨ (a = c ∧ b < d)) := by
    rw [Bool.eq_iff_iff]
    by_cases h : a = c
    · subst h; simp [HT.lexLt]; try omega
    · have h2 : ¬ ((a : Int) = c) := by omega
      simp [HT.lexLt, h, h2]
  show some (HT.lexLt [(a : Int), b] [(c : Int), d]) = _
  rw [e]
def TiesP (n : Nat) (d : PyData) : Prop := ∃ ts : List Tie, d = .tuple (ts.map tieD) ∧ (∀ t ∈ ts, OkT n t) ∧ ts.Pairwise tLt
theorem ties_of {n : Nat} : ∀ {ds : List PyData}, ds.all (isTieB n) = true → ∃ ts : List Tie, ds = ts.map tieD ∧ ∀ t ∈ ts, OkT n t
  | [], _ => ⟨[], rfl, fun _ h => nomatch h⟩
  | d :: ds, h => by
    rw [List.all_cons, Bool.and_eq_true] at h
    obtain ⟨t, rfl, ht⟩ := isTieB_iff.mp h.1
    obtain ⟨ts, rfl, hs⟩ := ties_of h.2
    exact ⟨t :: ts, rfl, fun x hx => by
      rcases List.mem_cons.mp hx with rfl | hx
      · exact ht
      · exact hs x hx⟩
def szT : PyData → Prop
  | .tuple ds => ds.length ≤ 1000000
  | _ => True
theorem tieD_inj {a b : Tie} (h : tieD a = tieD b) : a = b := by
  cases a; cases b
  simp only [tieD, PyData.tuple.injEq, List.cons.injEq, PyData.int.injEq, Int.natCast_inj, and_true] at h
  obtain ⟨h1, h2, h3⟩ := h
  subst h1 h2 h3; rfl
theorem map_inj {α β : Type} {f : α → β} (hf : ∀ a b, f a = f b → a = b) : ∀ {xs ys : List α}, xs.map f = ys.map f → xs = ys
  | [], [], _ => rfl
  | [], _ :: _, h => by simp at h
  | _ :: _, [], h => by simp at h
  | x :: xs, y :: ys, h => by
    simp only [List.map_cons, List.cons.injEq] at h
    rw [hf _ _ h.1, map_inj hf h.2]
def S_are_ties (run : List Tr → Option FR) : Prop := ∀ (n : Nat) d, szT d → run [.c (.int n), .c d] = some (.ok (.c (.bool (tr (TiesP n d)))) [.gone, .gone])
theorem w_are_ties {F : Genv} (h1 : Fn F "is_tie" S_is_tie) : S_are_ties (r_are_ties F) := by
  obtain ⟨rn, fn, hn⟩ := h1
  intro n d hz
  refine run_ret rfl (by decide) ?_
  by_cases ht : isTup d = true
  · obtain ⟨ds, rfl⟩ := isTup_iff.mp ht
    have hz : ds.length ≤ 1000000 := hz
    have hlc : ev F (.lc [3] (.nm 3) (.sq (.var 1)) [] (.call ("is_tie" : Str) [.e (.var 0), .e (.var 3)])) [.c (.int n), .c (.tuple ds), .gone, .gone]
        = some (.ok (.l (ds.map fun d => .c (.bool (isTieB n d)))) [.c (.int n), .c (.tuple ds), .gone, .gone]) := by
      refine lc_map (c := id) (Γ1 := [.c (.int n), .c (.tuple ds), .gone, .gone]) _ (by simp) (by simp) (fun x hx => ?_) (sz hz)
      exact ⟨[.c (.int n), .c (.tuple ds), .gone, .c x], [.c (.int n), .c (.tuple ds), .gone, .c x], by simp, by simp [fn, hn _ _], by simp⟩
    refine Run.ite (k := !ds.all (isTieB n)) (Γ1 := [.c (.int n), .c (.tuple ds), .gone, .gone]) (by simp [hlc, all_m]) (fun h => ?_) (fun h => Run.nil ?_)
    · have : tr (TiesP n (.tuple ds)) = false := tr_f fun ⟨ts, e, o, _⟩ => by
        cases e
        have : (ts.map tieD).all (isTieB n) = true := by
          rw [List.all_eq_true]
          intro x hx
          obtain ⟨t, ht, rfl⟩ := List.mem_map.mp hx
          exact isTieB_iff.mpr ⟨t, rfl, o t ht⟩
        rw [this] at h; cases h
      exact Run.rt (t := .c (.bool false)) (Γ1 := [.c (.int n), .c (.tuple ds), .gone, .gone]) (by simp) ⟨_, by rw [this], rfl⟩
    · simp only [Bool.not_eq_false'] at h
      obtain ⟨ts, rfl, ho⟩ := ties_of h
      rw [List.length_map] at hz
      let q : Nat → Bool := fun k => match ts[k]?, ts[k + 1]? with
        | some a, some b => decide (tLt a b)
        | _, _ => true
      have hl2 : ev F (.lc [2] (.nm 2) (.rng1 (.prim .sub [.e (.prim (.bi .len) [.pk 1]), .e (.lit (.int 1))])) [] (.prim (.cmp .Lt) [.e (.prim (.sl false true) [.e (.pth 1 [.var 2]), .e (.lit (.int 2))]), .e (.prim (.sl false true) [.e (.pth 1 [.prim .add [.pk 2, .e (.lit (.int 1))]]), .e (.lit (.int 2))])]))
            [.c (.int n), .c (.tuple (ts.map tieD)), .gone, .gone] = some (.ok (.l ((List.range (ts.length - 1)).map fun k => .c (.bool (q k)))) [.c (.int n), .c (.tuple (ts.map tieD)), .gone, .gone]) := by
        refine lc_map (c := fun k : Nat => PyData.int (k : Nat)) (Γ1 := [.c (.int n), .c (.tuple (ts.map tieD)), .gone, .gone]) _ ?_ (by simp) (fun k hk => ?_) (sz (by simp; omega))
        · have e : ((ts.length : Int) - 1).toNat = ts.length - 1 := by omega
          have := rng1_i (F := F) (a := .prim .sub [.e (.prim (.bi .len) [.pk 1]), .e (.lit (.int 1))]) (Γ := [.c (.int n), .c (.tuple (ts.map tieD)), .gone, .gone]) (Γ1 := [.c (.int n), .c (.tuple (ts.map tieD)), .gone, .gone]) (j := (ts.length : Int) - 1) (by simp) (by omega) (by omega)
          rw [e] at this
          exact this
        · have hk := List.mem_range.mp hk
          have h1 : ts[k]? = some ts[k] := List.getElem?_eq_getElem (by omega)
          have h2 : ts[k + 1]? = some ts[k + 1] := List.getElem?_eq_getElem (by omega)
          have e1 : ((k : Int) + 1) = ((k + 1 : Nat) : Int) := by omega
          refine ⟨[.c (.int n), .c (.tuple (ts.map tieD)), .c (.int k), .gone], [.c (.int n), .c (.tuple (ts.map tieD)), .c (.int k), .gone], by simp, ?_, by simp⟩
          have eq : q k = decide (ts[k].i < ts[k + 1].i ∨ (ts[k].i = ts[k + 1].i ∧ ts[k].j < ts[k + 1].j)) := by
            show (match ts[k]?, ts[k + 1]? with
              | some a, some b => decide (tLt a b)
              | _, _ => true) = _
            rw [h1, h2]
            rfl
          simp [h1, h2, e1, sl2_tie, lt_pair, eq, -Int.natCast_add]
      refine Run.rt (t := .c (.bool ((List.range (ts.length - 1)).all q))) (Γ1 := [.c (.int n), .c (.tuple (ts.map tieD)), .gone, .gone]) (by simp [hl2, all_m]) ⟨_, congrArg (fun b => SR.rt (.c (.bool b)) _) (Eq.symm (?_ : tr (TiesP n (.tuple (ts.map tieD))) = (List.range (ts.length - 1)).all q)), rfl⟩
      refine tr_eq ⟨fun h => ⟨ts, rfl, ho, pair_of tLt_trans fun k a b ha hb => ?_⟩, fun ⟨ts', e, _, p⟩ => ?_⟩
      · rw [List.all_eq_true] at h
        have hb' := (List.getElem?_eq_some_iff.mp hb).1
        have := h k (List.mem_range.mpr (by omega))
        simp only [q, ha, hb] at this
        exact of_decide_eq_true this
      · simp only [PyData.tuple.injEq] at e
        have := map_inj (fun a b => tieD_inj) e
        subst this
        rw [List.all_eq_true]
        intro k hk
        have hk := List.mem_range.mp hk
        have h1 : ts[k]? = some ts[k] := List.getElem?_eq_getElem (by omega)
        have h2 : ts[k + 1]? = some ts[k + 1] := List.getElem?_eq_getElem (by omega)
        simp only [q, h1, h2]
        exact decide_eq_true (List.pairwise_iff_getElem.mp p k (k + 1) (by omega) (by omega) (by omega))
  · have : tr (TiesP n d) = false := tr_f fun ⟨ts, e, _⟩ => by subst e; simp at ht
    refine Run.iteT (Γ1 := [.c (.int n), .c d, .gone, .gone]) (by simp [ht]) ?_
    exact Run.rt (t := .c (.bool false)) (Γ1 := [.c (.int n), .c d, .gone, .gone]) (by simp) ⟨_, by rw [this], rfl⟩
def NetP (d : PyData) : Prop := ∃ N, d = netD N ∧ OkN N
def szN : PyData → Prop
  | .tuple [_, _, d] => szT d
  | _ => True
def S_is_net (run : List Tr → Option FR) : Prop := ∀ d, szN d → run [.c d] = some (.ok (.c (.bool (tr (NetP d)))) [.gone])
theorem w_is_net {F : Genv} (h1 : Fn F "is_number" S_is_number) (h2 : Fn F "are_ends" S_are_ends) (h3 : Fn F "are_ties" S_are_ties) (g : F.gl "MOST_PLACES" = some (.int 8)) : S_is_net (r_is_net F) := by
  obtain ⟨rn, fn, hn⟩ := h1
  obtain ⟨re, fe, he⟩ := h2
  obtain ⟨rt, ft, ht⟩ := h3
  intro d hz
  refine run_ret rfl (by decide) ?_
  have no : tr (NetP d) = false → ∀ ss, Run F [.ret (.lit (.bool false))] [.c d] (Aft F ss (fun r => ∃ Γ, r = .rt (.c (.bool (tr (NetP d)))) Γ ∧ outsOf [false] Γ = [.gone])) := fun h ss =>
    Run.rt (t := .c (.bool false)) (Γ1 := [.c d]) (by simp) ⟨_, by rw [h], rfl⟩
  by_cases hT : isTup d = true
  · obtain ⟨ds, rfl⟩ := isTup_iff.mp hT
    by_cases hl : ds.length = 3
    · match ds, hl with
      | [a, b, c], _ =>
        cases ha : isNum a 1 8 with
        | false =>
          refine Run.iteT (Γ1 := [.c (.tuple [a, b, c])]) (by simp [fn, hn _ _ _, g, ha]) (no (tr_f fun ⟨N, e, o⟩ => ?_) _)
          simp only [netD, PyData.tuple.injEq, List.cons.injEq] at e
          obtain ⟨rfl, _⟩ := e
          have := o.n1; have := o.n8
          simp only [isNum_i, Bool.and_eq_false_iff, decide_eq_false_iff_not] at ha
          omega
        | true =>
          refine Run.skip (Γ1 := [.c (.tuple [a, b, c])]) (by simp [fn, hn _ _ _, g, ha]) ?_
          obtain ⟨i, rfl, i0, i1⟩ := isNum_iff.mp ha
          obtain ⟨n, rfl⟩ : ∃ n : Nat, i = n := ⟨i.toNat, by omega⟩
          have : tr (NetP (.tuple [.int n, b, c])) = (areEndsB n b && tr (TiesP n c)) := by
            refine tr_eq ⟨fun h => ?_, fun ⟨N, e, o⟩ => ?_⟩
            · rw [Bool.and_eq_true] at h
              obtain ⟨es, rfl, e1, e4, ee⟩ := areEndsB_iff.mp h.1
              obtain ⟨ts, rfl, t1, t2⟩ := tr_iff.mp h.2
              exact ⟨⟨n, es, ts⟩, rfl, ⟨by show 1 ≤ n; omega, by show n ≤ 8; omega, e1, e4, ee, t1, t2⟩⟩
            · simp only [netD, PyData.tuple.injEq, List.cons.injEq, PyData.int.injEq, Int.natCast_inj, and_true] at e
              obtain ⟨rfl, rfl, rfl⟩ := e
              rw [Bool.and_eq_true]
              exact ⟨areEndsB_iff.mpr ⟨_, rfl, o.e1, o.e4, o.e⟩, tr_t ⟨_, rfl, o.t, o.s⟩⟩
          have q := ht n c hz
          refine Run.rt (t := .c (.bool (areEndsB n b && tr (TiesP n c)))) (Γ1 := [.c (.tuple [.int n, b, c])]) ?_ ⟨_, by rw [this], rfl⟩
          cases hb : areEndsB n b <;> simp [fe, he _ _, ft, q, hb]
    · refine Run.iteT (Γ1 := [.c (.tuple ds)]) (by simp; omega) (no (tr_f fun ⟨N, e, o⟩ => ?_) _)
      simp only [netD, PyData.tuple.injEq] at e
      subst e; simp at hl
  · exact Run.iteT (Γ1 := [.c d]) (by simp [hT]) (no (tr_f fun ⟨N, e, o⟩ => by subst e; simp [netD] at hT) _)
theorem OkN.szN {N : Net} (o : OkN N) : szN (netD N) := by
  show (N.ties.map tieD).length ≤ 1000000
  have := o.tlen
  rw [List.length_map]; omega
/-- need_net: of a net nothing, else NoNet -/
def S_need_net (run : List Tr → Option FR) : Prop := (∀ N, OkN N → run [.c (netD N)] = some (.ok (.c .none) [.gone])) ∧ ∀ d, szN d → ¬ NetP d → run [.c d] = some (.ex "NoNet")
theorem w_need_net {F : Genv} (h1 : Fn F "is_net" S_is_net) : S_need_net (r_need_net F) := by
  obtain ⟨rn, fn, hn⟩ := h1
  refine ⟨fun N o => run_none rfl (by decide) ?_, fun d hz np => ?_⟩
  · have q := hn _ o.szN
    rw [tr_t ⟨N, rfl, o⟩] at q
    exact Run.skip (Γ1 := [.c (netD N)]) (by simp [fn, q]) (Run.nil ⟨_, rfl, rfl⟩)
  · have q := hn _ hz
    rw [tr_f np] at q
    obtain ⟨r, e, h⟩ := run_of (F := F) (n := 1) (ps := [false]) (body := b_need_net) (ts := [.c d]) (Q := fun r => r = .ex "NoNet") rfl (by decide) (Run.iteT (Γ1 := [.c d]) (by simp [fn, q]) (Run.ex (x := "NoNet") (Γ1 := [.c d]) (by simp) rfl))
    rw [h] at e
    exact e
end Hp
set_option Elab.async false
set_option linter.all false
set_option maxRecDepth 100000
set_option maxHeartbeats 400000
namespace Hp
open PySem PySem.Spec PyProof.Rows L2 Hw
def LineP (n e : Nat) (high : Int) (d : PyData) : Prop := ∃ l, d = lnD l ∧ OkL high n e l
theorem line_of {high : Int} : ∀ {ds : List PyData}, (ds.all fun d => isNum d 0 high) = true → ∃ l : List Int, ds = l.map iD ∧ ∀ x ∈ l, 0 ≤ x ∧ x ≤ high
  | [], _ => ⟨[], rfl, fun _ h => nomatch h⟩
  | d :: ds, h => by
    rw [List.all_cons, Bool.and_eq_true] at h
    obtain ⟨i, rfl, i0, i1⟩ := isNum_iff.mp h.1
    obtain ⟨l, rfl, hl⟩ := line_of h.2
    exact ⟨i :: l, rfl, fun x m => by
      rcases List.mem_cons.mp m with rfl | m
      · exact ⟨i0, i1⟩
      · exact hl x m⟩
theorem iD_inj {a b : Int} (h : iD a = iD b) : a = b := by simpa [iD] using h
theorem nD_inj {a b : Nat} (h : nD a = nD b) : a = b := by simpa [nD] using h
theorem lnD_inj {a b : List Int} (h : lnD a = lnD b) : a = b := by
  simp only [lnD, PyData.tuple.injEq] at h
  exact map_inj (fun a b => iD_inj) h
def S_is_line (run : List Tr → Option FR) : Prop := ∀ (n e : Nat) d (high : Int), n ≤ 8 → e < n → run [.c (.int n), .c (.int e), .c d, .c (.int high)] = some (.ok (.c (.bool (tr (LineP n e high d)))) [.gone, .gone, .gone, .gone])
theorem w_is_line {F : Genv} (h1 : Fn F "is_number" S_is_number) : S_is_line (r_is_line F) := by
  obtain ⟨rn, fn, hn⟩ := h1
  intro n e d high hn8 he
  refine run_ret rfl (by decide) ?_
  have no : tr (LineP n e high d) = false → ∀ ss, Run F [.ret (.lit (.bool false))] [.c (.int n), .c (.int e), .c d, .c (.int high), .gone] (Aft F ss (fun r => ∃ Γ, r = .rt (.c (.bool (tr (LineP n e high d)))) Γ ∧ outsOf [false, false, false, false] Γ = [.gone, .gone, .gone, .gone])) := fun h ss =>
    Run.rt (t := .c (.bool false)) (Γ1 := [.c (.int n), .c (.int e), .c d, .c (.int high), .gone]) (by simp) ⟨_, by rw [h], rfl⟩
  by_cases hT : isTup d = true
  · obtain ⟨ds, rfl⟩ := isTup_iff.mp hT
    by_cases hl : ds.length = n
    · have hlc : ev F (.lc [4] (.nm 4) (.sq (.var 2)) [] (.call ("is_number" : Str) [.e (.var 4), .e (.lit (.int 0)), .e (.var 3)])) [.c (.int n), .c (.int e), .c (.tuple ds), .c (.int high), .gone]
          = some (.ok (.l (ds.map fun d => .c (.bool (isNum d 0 high)))) [.c (.int n), .c (.int e), .c (.tuple ds), .c (.int high), .gone]) := by
        refine lc_map (c := id) (Γ1 := [.c (.int n), .c (.int e), .c (.tuple ds), .c (.int high), .gone]) _ (by simp) (by simp) (fun x hx => ?_) (sz (by omega))
        exact ⟨[.c (.int n), .c (.int e), .c (.tuple ds), .c (.int high), .c x], [.c (.int n), .c (.int e), .c (.tuple ds), .c (.int high), .c x], by simp, by simp [fn, hn _ _ _], by simp⟩
      cases ha : ds.all fun d => isNum d 0 high with
      | false =>
        refine Run.iteT (Γ1 := [.c (.int n), .c (.int e), .c (.tuple ds), .c (.int high), .gone]) (by simp [hl, hlc, all_m, ha]) (no (tr_f fun ⟨l, e1, o⟩ => ?_) _)
        simp only [lnD, PyData.tuple.injEq] at e1
        subst e1
        rw [List.all_eq_false] at ha
        obtain ⟨x, hx, hx2⟩ := ha
        obtain ⟨i, hi, rfl⟩ := List.mem_map.mp hx
        have := o.b i hi
        simp [iD] at hx2
        omega
      | true =>
        refine Run.skip (Γ1 := [.c (.int n), .c (.int e), .c (.tuple ds), .c (.int high), .gone]) (by simp [hl, hlc, all_m, ha]) ?_
        obtain ⟨l, rfl, hb⟩ := line_of ha
        rw [List.length_map] at hl
        have h1 : l[e]? = some l[e] := List.getElem?_eq_getElem (by omega)
        have : tr (LineP n e high (.tuple (l.map iD))) = decide (l[e] = 0) := tr_eq ⟨fun h => ⟨l, rfl, hl, hb, by rw [h1, of_decide_eq_true h]⟩, fun ⟨l', e', o⟩ => by
          have := lnD_inj (a := l) (b := l') e'
          subst this
          have := o.z
          rw [h1] at this
          exact decide_eq_true (by simpa using this)⟩
        exact Run.rt (t := .c (.bool (decide (l[e] = 0)))) (Γ1 := [.c (.int n), .c (.int e), .c (.tuple (l.map iD)), .c (.int high), .gone]) (by simp [h1, iD]) ⟨_, by rw [this], rfl⟩
    · refine Run.iteT (Γ1 := [.c (.int n), .c (.int e), .c (.tuple ds), .c (.int high), .gone]) (by simp [hl]) (no (tr_f fun ⟨l, e1, o⟩ => ?_) _)
      simp only [lnD, PyData.tuple.injEq] at e1
      subst e1
      have := o.len
      simp at hl; omega
  · exact Run.iteT (Γ1 := [.c (.int n), .c (.int e), .c d, .c (.int high), .gone]) (by simp [hT]) (no (tr_f fun ⟨l, e1, o⟩ => by subst e1; simp [lnD] at hT) _)
def LinesP (N : Net) (high : Int) (d : PyData) : Prop := ∃ h, d = hD h ∧ OkH high N h
theorem zip_all {N : Net} {high : Int} : ∀ {es : List Nat} {ds : List PyData}, ds.length = es.length → (((es.map nD).zip ds).all fun p => match p.1 with | .int e => tr (LineP N.n e.toNat high p.2) | _ => false) = true →
    ∃ h : List (List Int), ds = h.map lnD ∧ ∀ (k e : Nat) l, es[k]? = some e → h[k]? = some l → OkL high N.n e l
  | [], [], _, _ => ⟨[], rfl, fun k e l h => by simp at h⟩
  | [], _ :: _, h, _ => by simp at h
  | _ :: _, [], h, _ => by simp at h
  | e :: es, d :: ds, hl, h => by
    simp only [List.map_cons, List.zip_cons_cons, List.all_cons, Bool.and_eq_true, nD, Int.toNat_natCast] at h
    obtain ⟨l, rfl, o⟩ := tr_iff.mp h.1
    obtain ⟨h', rfl, q⟩ := zip_all (N := N) (high := high) (es := es) (ds := ds) (by simpa using hl) h.2
    refine ⟨l :: h', rfl, fun k e' l' h1 h2 => ?_⟩
    cases k with
    | zero => simp at h1 h2; subst h1 h2; exact o
    | succ k => exact q k e' l' (by simpa using h1) (by simpa using h2)
def S_are_lines (run : List Tr → Option FR) : Prop := ∀ N d (high : Int), OkN N → run [.c (netD N), .c d, .c (.int high)] = some (.ok (.c (.bool (tr (LinesP N high d)))) [.gone, .gone, .gone])
theorem w_are_lines {F : Genv} (h1 : Fn F "is_line" S_is_line) : S_are_lines (r_are_lines F) := by
  obtain ⟨rn, fn, hn⟩ := h1
  intro N d high o
  refine run_ret rfl (by decide) ?_
  have no : tr (LinesP N high d) = false → ∀ ss, Run F [.ret (.lit (.bool false))] [.c (netD N), .c d, .c (.int high), .gone, .gone] (Aft F ss (fun r => ∃ Γ, r = .rt (.c (.bool (tr (LinesP N high d)))) Γ ∧ outsOf [false, false, false] Γ = [.gone, .gone, .gone])) := fun h ss =>
    Run.rt (t := .c (.bool false)) (Γ1 := [.c (netD N), .c d, .c (.int high), .gone, .gone]) (by simp) ⟨_, by rw [h], rfl⟩
  by_cases hT : isTup d = true
  · obtain ⟨ds, rfl⟩ := isTup_iff.mp hT
    by_cases hl : ds.length = N.ends.length
    · refine Run.skip (Γ1 := [.c (netD N), .c (.tuple ds), .c (.int high), .gone, .gone]) (by simp [netD, hl]) ?_
      let q : PyData × PyData → Bool := fun p => match p.1 with | .int e => tr (LineP N.n e.toNat high p.2) | _ => false
      have hlc : ev F (.lc [3, 4] (.tp [3, 4]) (.zip [.e (.pth 0 [.lit (.int 1)]), .e (.var 1)]) [] (.call ("is_line" : Str) [.e (.pth 0 [.lit (.int 0)]), .e (.var 3), .e (.var 4), .e (.var 2)])) [.c (netD N), .c (.tuple ds), .c (.int high), .gone, .gone]
          = some (.ok (.l (((N.ends.map nD).zip ds).map fun p => .c (.bool (q p)))) [.c (netD N), .c (.tuple ds), .c (.int high), .gone, .gone]) := by
        refine lc_map (c := fun p : PyData × PyData => .tuple [p.1, p.2]) (Γ1 := [.c (netD N), .c (.tuple ds), .c (.int high), .gone, .gone]) _ (by simp [netD, seqD]) (by simp) (fun p hp => ?_) (sz (by
          have := o.e4
          rw [List.length_zip, List.length_map]; omega))
        have hp1 := (List.of_mem_zip (a := p.1) (b := p.2) hp).1
        obtain ⟨e, he, hp1⟩ := List.mem_map.mp hp1
        refine ⟨[.c (netD N), .c (.tuple ds), .c (.int high), .c p.1, .c p.2], [.c (netD N), .c (.tuple ds), .c (.int high), .c p.1, .c p.2], by simp, ?_, by simp⟩
        have := hn N.n e p.2 high o.n8 (o.e e he)
        have eq : q p = tr (LineP N.n e high p.2) := by
          simp only [q, ← hp1, nD, Int.toNat_natCast]
        rw [eq, ← hp1]
        simp [netD, nD, fn, this]
      have : tr (LinesP N high (.tuple ds)) = ((N.ends.map nD).zip ds).all q := tr_eq ⟨fun h => ?_, fun ⟨h, e, oh⟩ => ?_⟩
      · refine Run.rt (t := .c (.bool (((N.ends.map nD).zip ds).all q))) (Γ1 := [.c (netD N), .c (.tuple ds), .c (.int high), .gone, .gone]) ?_ ⟨_, by rw [this], rfl⟩
        simp [hlc, all_m]
      · obtain ⟨h', e, p⟩ := zip_all hl h
        subst e
        exact ⟨h', rfl, by simpa using hl, p⟩
      · simp only [hD, PyData.tuple.injEq] at e
        subst e
        rw [List.all_eq_true]
        intro p hp
        obtain ⟨k, hk⟩ := List.mem_iff_getElem?.mp hp
        rw [List.getElem?_zip_eq_some, List.getElem?_map, List.getElem?_map] at hk
        obtain ⟨e, h1, h2⟩ := Option.map_eq_some_iff.mp hk.1
        obtain ⟨l, h3, h4⟩ := Option.map_eq_some_iff.mp hk.2
        simp only [q, ← h2, ← h4, nD, Int.toNat_natCast]
        exact tr_t ⟨l, rfl, oh.l k e l h1 h3⟩
    · refine Run.iteT (Γ1 := [.c (netD N), .c (.tuple ds), .c (.int high), .gone, .gone]) (by simp [netD, hl]) (no (tr_f fun ⟨h, e, oh⟩ => ?_) _)
      simp only [hD, PyData.tuple.injEq] at e
      subst e
      have := oh.len
      simp at hl; omega
  · exact Run.iteT (Γ1 := [.c (netD N), .c d, .c (.int high), .gone, .gone]) (by simp [hT]) (no (tr_f fun ⟨l, e1, o⟩ => by subst e1; simp [hD] at hT) _)
/-- need_heaps, need_comers -/
def S_need_lines (high : Int) (x : Str) (run : List Tr → Option FR) : Prop := (∀ N h, OkN N → OkH high N h → run [.c (netD N), .c (hD h)] = some (.ok (.c .none) [.gone, .gone])) ∧ ∀ N d, OkN N → ¬ LinesP N high d → run [.c (netD N), .c d] = some (.ex x)
theorem w_need_heaps {F : Genv} (h1 : Fn F "are_lines" S_are_lines) (g : F.gl "MOST_HEAP" = some (.int 1000000000)) : S_need_lines 1000000000 "NoHeaps" (r_need_heaps F) := by
  obtain ⟨rn, fn, hn⟩ := h1
  refine ⟨fun N h o oh => run_none rfl (by decide) ?_, fun N d o np => ?_⟩
  · have q := hn N (hD h) 1000000000 o
    rw [tr_t ⟨h, rfl, oh⟩] at q
    exact Run.skip (Γ1 := [.c (netD N), .c (hD h)]) (by simp [fn, q, g]) (Run.nil ⟨_, rfl, rfl⟩)
  · have q := hn N d 1000000000 o
    rw [tr_f np] at q
    obtain ⟨r, e, h⟩ := run_of (F := F) (n := 2) (ps := [false, false]) (body := b_need_heaps) (ts := [.c (netD N), .c d]) (Q := fun r => r = .ex "NoHeaps") rfl (by decide) (Run.iteT (Γ1 := [.c (netD N), .c d]) (by simp [fn, q, g]) (Run.ex (x := "NoHeaps") (Γ1 := [.c (netD N), .c d]) (by simp) rfl))
    rw [h] at e
    exact e
theorem w_need_comers {F : Genv} (h1 : Fn F "are_lines" S_are_lines) (g : F.gl "MOST_COMING" = some (.int 9)) : S_need_lines 9 "NoComers" (r_need_comers F) := by
  obtain ⟨rn, fn, hn⟩ := h1
  refine ⟨fun N h o oh => run_none rfl (by decide) ?_, fun N d o np => ?_⟩
  · have q := hn N (hD h) 9 o
    rw [tr_t ⟨h, rfl, oh⟩] at q
    exact Run.skip (Γ1 := [.c (netD N), .c (hD h)]) (by simp [fn, q, g]) (Run.nil ⟨_, rfl, rfl⟩)
  · have q := hn N d 9 o
    rw [tr_f np] at q
    obtain ⟨r, e, h⟩ := run_of (F := F) (n := 2) (ps := [false, false]) (body := b_need_comers) (ts := [.c (netD N), .c d]) (Q := fun r => r = .ex "NoComers") rfl (by decide) (Run.iteT (Γ1 := [.c (netD N), .c d]) (by simp [fn, q, g]) (Run.ex (x := "NoComers") (Γ1 := [.c (netD N), .c d]) (by simp) rfl))
    rw [h] at e
    exact e
end Hp
set_option Elab.async false
set_option linter.all false
set_option maxRecDepth 100000
set_option maxHeartbeats 400000
namespace Hp
open PySem PySem.Spec PyProof.Rows L2 Hw
/-! ### small numbers -/
def sm (i : Int) : Prop := i.natAbs < 2 ^ 200
theorem sm64 {i : Int} (h : i.natAbs < 2 ^ 64) : sm i := Nat.lt_of_lt_of_le h (by decide)
theorem mul_sm {i j : Int} (h : sm i) (k : sm j) : mulEv (.c (.int i)) (.c (.int j)) = some (.c (.int (i * j))) := by
  have a : i.natAbs.log2 < 200 := lg_lt h (by decide)
  have b : j.natAbs.log2 < 200 := lg_lt k (by decide)
  simp only [mulEv, asInt_c]
  rw [if_pos (by omega)]
  rfl
/-! ### lists -/
theorem take_snoc {α : Type} {xs : List α} {i : Nat} {x : α} (h : xs[i]? = some x) : xs.take (i + 1) = xs.take i ++ [x] := by
  rw [List.take_add_one, h]; rfl
theorem take_sum {α : Type} {f : α → Int} {xs : List α} {i : Nat} {x : α} (h : xs[i]? = some x) : ((xs.take (i + 1)).map f).sum = ((xs.take i).map f).sum + f x := by
  rw [take_snoc h]; simp
theorem take_map {α β : Type} {f : α → β} {xs : List α} {i : Nat} {x : α} (h : xs[i]? = some x) : (xs.take (i + 1)).map f = (xs.take i).map f ++ [f x] := by
  rw [take_snoc h]; simp
theorem stl_app {α : Type} (h : α → PyData) (xs : List α) (x : α) : (xs.map fun x => Tr.c (h x)) ++ [.c (h x)] = (xs ++ [x]).map fun x => Tr.c (h x) := by simp
/-! ### shapes, cells -/
structure Sh (N : Net) (h : List (List Int)) : Prop where
  len : h.length = N.ends.length
  l : ∀ l ∈ h, l.length = N.n
theorem OkH.sh {high : Int} {N : Net} {h : List (List Int)} (o : OkH high N h) : Sh N h := ⟨o.len, fun l hl => by
  obtain ⟨k, hk⟩ := List.mem_iff_getElem?.mp hl
  have h1 := (List.getElem?_eq_some_iff.mp hk).1
  have := o.len
  exact (o.l k _ l (List.getElem?_eq_getElem (by omega)) hk).len⟩
theorem OkH.b {high : Int} {N : Net} {h : List (List Int)} (o : OkH high N h) : ∀ l ∈ h, ∀ x ∈ l, 0 ≤ x ∧ x ≤ high := fun l hl => by
  obtain ⟨k, hk⟩ := List.mem_iff_getElem?.mp hl
  have h1 := (List.getElem?_eq_some_iff.mp hk).1
  have := o.len
  exact (o.l k _ l (List.getElem?_eq_getElem (by omega)) hk).b
def cell (h : List (List Int)) (k p : Nat) : Int := ((h[k]?.getD [])[p]?).getD 0
theorem Sh.get {N : Net} {h : List (List Int)} (s : Sh N h) {k p : Nat} (hk : k < N.ends.length) (hp : p < N.n) : ∃ l, h[k]? = some l ∧ l[p]? = some (cell h k p) ∧ l ∈ h := by
  have h1 : k < h.length := by rw [s.len]; exact hk
  have e : h[k]? = some h[k] := List.getElem?_eq_getElem h1
  have h2 := s.l _ (List.getElem_mem h1)
  have h3 : h[k][p]? = some h[k][p] := List.getElem?_eq_getElem (by omega)
  refine ⟨_, e, ?_, List.getElem_mem h1⟩
  unfold cell
  rw [e]
  show h[k][p]? = some ((h[k][p]?).getD 0)
  rw [h3]; rfl
def fallA (h : List (List Int)) (k : Nat) (t : Tie) : Int := cell h k t.i - cell h k t.j
@[simp] theorem kD_s (k : Nat) : kD (some k) = .int (k : Nat) := rfl
@[simp] theorem kD_n : kD none = .none := rfl
def S_fall_along (run : List Tr → Option FR) : Prop := ∀ N h (k : Nat) t, Sh N h → k < N.ends.length → OkT N.n t → run [.c (hD h), .c (.int k), .c (tieD t)] = some (.ok (.c (.int (fallA h k t))) [.gone, .gone, .gone])
theorem w_fall_along (F : Genv) : S_fall_along (r_fall_along F) := by
  intro N h k t s hk o
  refine run_ret rfl (by decide) ?_
  obtain ⟨l, e1, e2, _⟩ := s.get hk o.i
  obtain ⟨l', e3, e4, _⟩ := s.get hk o.j
  rw [e1] at e3; cases e3
  exact Run.rt (t := .c (.int (fallA h k t))) (Γ1 := [.c (hD h), .c (.int k), .c (tieD t)]) (by simp [hD, tieD, lnD, iD, e1, e2, e4, fallA]) ⟨_, rfl, rfl⟩
def betterB (h : List (List Int)) (t : Tie) (best : Option Nat) (k : Nat) : Bool := decide (0 < fallA h k t) && (match best with
  | none => true
  | some b => decide (fallA h b t < fallA h k t))
def stepO (h : List (List Int)) (t : Tie) (best : Option Nat) (k : Nat) : Option Nat := if betterB h t best k = true then some k else best
def offerA (h : List (List Int)) (t : Tie) : Option Nat := (List.range h.length).foldl (stepO h t) none
theorem stepO_lt {h : List (List Int)} {t : Tie} {n k : Nat} {best : Option Nat} (hb : ∀ b, best = some b → b < n) (hk : k < n) : ∀ b, stepO h t best k = some b → b < n := by
  intro b e
  unfold stepO at e
  split at e
  · cases e; exact hk
  · exact hb b e
def S_offer_along (run : List Tr → Option FR) : Prop := ∀ N h t, OkN N → Sh N h → OkT N.n t → run [.c (hD h), .c (tieD t)] = some (.ok (.c (kD (offerA h t))) [.gone, .gone])
theorem w_offer_along {F : Genv} (h1 : Fn F "fall_along" S_fall_along) : S_offer_along (r_offer_along F) := by
  obtain ⟨rf, ff, hf⟩ := h1
  intro N h t o s ot
  refine run_ret rfl (by decide) ?_
  refine Run.nx (Γ1 := [.c (hD h), .c (tieD t), .c .none, .gone, .gone]) (by simp) ?_
  have l4 := o.e4
  have hl := s.len
  refine Run.forM (c := fun k : Nat => PyData.int (k : Nat)) (xs := List.range h.length) (Γ1 := [.c (hD h), .c (tieD t), .c .none, .gone, .gone])
    (fun i Γ => ∃ b j1 j2, Γ = [.c (hD h), .c (tieD t), .c (kD b), j1, j2] ∧ b = ((List.range h.length).take i).foldl (stepO h t) none ∧ ∀ k, b = some k → k < N.ends.length) ?_ ⟨none, _, _, rfl, rfl, fun _ z => nomatch z⟩ ?_ ?_
  · exact rng1_n (by simp [hD]) (by omega)
  · rintro i k Γ hi ⟨b, j1, j2, rfl, eb, hb⟩
    have hk : k < N.ends.length := by have := List.mem_range.mp (List.mem_of_getElem? hi); omega
    refine ⟨[.c (hD h), .c (tieD t), .c (kD b), .c (.int k), j2], by simp, ?_⟩
    refine Run.nx (Γ1 := [.c (hD h), .c (tieD t), .c (kD b), .c (.int k), .c (.int (fallA h k t))]) (by simp [ff, hf N h k t s hk ot]) ?_
    refine Run.ite (k := betterB h t b k) (Γ1 := [.c (hD h), .c (tieD t), .c (kD b), .c (.int k), .c (.int (fallA h k t))]) ?_ (fun z => ?_) (fun z => ?_)
    · cases b with
      | none => by_cases q : 0 < fallA h k t <;> simp [q, betterB]
      | some b =>
        have hb' := hb b rfl
        by_cases q : 0 < fallA h k t <;> simp [q, ff, hf N h b t s hb' ot, betterB]
    · refine Run.nx (Γ1 := [.c (hD h), .c (tieD t), .c (.int k), .c (.int k), .c (.int (fallA h k t))]) (by simp) (Run.nil (Run.nil ⟨some k, _, _, rfl, ?_, fun _ e => by cases e; exact hk⟩))
      rw [take_snoc hi, List.foldl_append, ← eb]
      show some k = stepO h t b k
      unfold stepO
      rw [if_pos z]
    · refine Run.nil (Run.nil ⟨b, _, _, rfl, ?_, hb⟩)
      rw [take_snoc hi, List.foldl_append, ← eb]
      show b = stepO h t b k
      unfold stepO
      rw [if_neg (by rw [z]; exact Bool.false_ne_true)]
  · rintro Γ ⟨b, j1, j2, rfl, eb, hb⟩
    rw [List.take_length] at eb
    have : b = offerA h t := eb
    subst this
    exact Run.rt (t := .c (kD (offerA h t))) (Γ1 := [.c (hD h), .c (tieD t), .gone, j1, j2]) (by simp) ⟨_, rfl, rfl⟩
def S_all_ties (run : List Tr → Option FR) : Prop := ∀ N, OkN N → run [.c (netD N)] = some (.ok (.c (.tuple ((List.range N.ties.length).map nD))) [.gone])
theorem w_all_ties (F : Genv) : S_all_ties (r_all_ties F) := by
  intro N o
  have := o.tlen
  refine run_ret rfl (by decide) (Run.rt (t := .c (.tuple ((List.range N.ties.length).map nD))) (Γ1 := [.c (netD N)]) ?_ ⟨_, rfl, rfl⟩)
  have e := trg_n (n := N.ties.length) (by omega)
  simp [netD, e]
  intro a _; rfl
theorem in_nats (k : Nat) (st : List Nat) : cmpEv .In (.c (.int k)) (.c (.tuple (st.map nD))) = some (decide (k ∈ st)) := by
  have e : ((st.map nD).any fun z => PyData.eqv z (.int (k : Nat))) = decide (k ∈ st) := by
    rw [Bool.eq_iff_iff]
    simp only [List.any_map, List.any_eq_true, decide_eq_true_eq, Function.comp_apply]
    constructor
    · rintro ⟨x, hx, e⟩
      have e : decide ((x : Int) = k) = true := e
      have : x = k := by have := of_decide_eq_true e; omega
      subst this; exact hx
    · intro hk
      exact ⟨k, hk, (decide_eq_true rfl : decide ((k : Int) = k) = true)⟩
  have f : (st.map nD).all flatD = true := by
    rw [List.all_eq_true]
    intro x hx
    obtain ⟨y, _, rfl⟩ := List.mem_map.mp hx
    rfl
  have e0 : cmpEv .In (.c (.int k)) (.c (.tuple (st.map nD))) = inEv (.c (.int k)) (.c (.tuple (st.map nD))) := rfl
  rw [e0]
  simp [inEv, f, e]
def offO (N : Net) (h : List (List Int)) (st : List Nat) : List (Option Nat) := N.ties.zipIdx.map fun p => if p.2 ∈ st then offerA h p.1 else none
theorem offO_all (N : Net) (h : List (List Int)) : offO N h (List.range N.ties.length) = N.ties.map (offerA h) := by
  unfold offO
  apply List.ext_getElem?
  intro i
  simp only [List.getElem?_map, List.getElem?_zipIdx]
  cases e : N.ties[i]? with
  | none => rfl
  | some t =>
    have := (List.getElem?_eq_some_iff.mp e).1
    simp
    intro z
    omega
def S_offer_over (run : List Tr → Option FR) : Prop := ∀ N h st, OkN N → Sh N h → run [.c (netD N), .c (hD h), .c (.tuple (st.map nD))] = some (.ok (mpT kD (offO N h st)) [.gone, .gone, .gone])
theorem mpT_len {α : Type} (h : α → PyData) (xs : List α) : biEv .len [mpT h xs] = some (.c (.int (xs.length : Nat))) := by
  have := len_l (stl_map h xs)
  rw [List.length_map] at this
  exact this
theorem w_offer_over {F : Genv} (h1 : Fn F "offer_along" S_offer_along) : S_offer_over (r_offer_over F) := by
  obtain ⟨rf, ff, hf⟩ := h1
  intro N h st o s
  refine run_ret rfl (by decide) ?_
  refine Run.nx (Γ1 := [.c (netD N), .c (hD h), .c (.tuple (st.map nD)), .l [], .gone, .gone]) (by simp) ?_
  have l64 := o.tlen
  refine Run.forM (c := fun p : Tie × Nat => PyData.tuple [.int (p.2 : Nat), tieD p.1]) (xs := N.ties.zipIdx) (Γ1 := [.c (netD N), .c (hD h), .c (.tuple (st.map nD)), .l [], .gone, .gone])
    (fun i Γ => ∃ j1 j2, Γ = [.c (netD N), .c (hD h), .c (.tuple (st.map nD)), mpT kD ((N.ties.zipIdx.take i).map fun p => if p.2 ∈ st then offerA h p.1 else none), j1, j2]) ?_ ⟨_, _, rfl⟩ ?_ ?_
  · simp [netD, List.zipIdx_map]
  · rintro i p Γ hi ⟨j1, j2, rfl⟩
    have hp : p.1 ∈ N.ties := by
      have := List.mem_of_getElem? hi
      exact (List.mem_zipIdx_iff_getElem? (x := p)).mp this |> List.mem_of_getElem?
    have hl := (List.getElem?_eq_some_iff.mp hi).1
    rw [List.length_zipIdx] at hl
    have hs : i < sizeLine := Nat.lt_of_lt_of_le hl (sz (by omega))
    have hle : i ≤ N.ties.length := by omega
    refine ⟨[.c (netD N), .c (hD h), .c (.tuple (st.map nD)), mpT kD ((N.ties.zipIdx.take i).map fun p => if p.2 ∈ st then offerA h p.1 else none), .c (.int (p.2 : Nat)), .c (tieD p.1)], by simp, ?_⟩
    refine Run.ite (k := decide (p.2 ∈ st)) (Γ1 := [.c (netD N), .c (hD h), .c (.tuple (st.map nD)), mpT kD ((N.ties.zipIdx.take i).map fun p => if p.2 ∈ st then offerA h p.1 else none), .c (.int (p.2 : Nat)), .c (tieD p.1)]) (by simp [in_nats]) (fun z => ?_) (fun z => ?_)
    · have z := of_decide_eq_true z
      refine Run.nx (Γ1 := [.c (netD N), .c (hD h), .c (.tuple (st.map nD)), mpT kD ((N.ties.zipIdx.take (i + 1)).map fun p => if p.2 ∈ st then offerA h p.1 else none), .c (.int (p.2 : Nat)), .c (tieD p.1)]) ?_ (Run.nil (Run.nil ⟨_, _, rfl⟩))
      rw [take_snoc hi]
      simp [mpT, ff, hf N h p.1 o s (o.t _ hp), z, hs, hle, Nat.min_eq_left hle]
    · have z := of_decide_eq_false z
      refine Run.nx (Γ1 := [.c (netD N), .c (hD h), .c (.tuple (st.map nD)), mpT kD ((N.ties.zipIdx.take (i + 1)).map fun p => if p.2 ∈ st then offerA h p.1 else none), .c (.int (p.2 : Nat)), .c (tieD p.1)]) ?_ (Run.nil (Run.nil ⟨_, _, rfl⟩))
      rw [take_snoc hi]
      simp [mpT, z, hs, hle, Nat.min_eq_left hle]
  · rintro Γ ⟨j1, j2, rfl⟩
    rw [List.take_length]
    exact Run.rt (t := mpT kD (offO N h st)) (Γ1 := [.c (netD N), .c (hD h), .c (.tuple (st.map nD)), .gone, j1, j2]) (by simp [mpT, offO]) ⟨_, rfl, rfl⟩
def S_offer (run : List Tr → Option FR) : Prop := ∀ N h, OkN N → OkH 1000000000 N h → run [.c (netD N), .c (hD h)] = some (.ok (mpT kD (N.ties.map (offerA h))) [.gone, .gone])
theorem w_offer {F : Genv} (h1 : Fn F "need_net" S_need_net) (h2 : Fn F "need_heaps" (S_need_lines 1000000000 "NoHeaps")) (h3 : Fn F "offer_over" S_offer_over) (h4 : Fn F "all_ties" S_all_ties) : S_offer (r_offer F) := by
  obtain ⟨r1, f1, q1⟩ := h1
  obtain ⟨r2, f2, q2⟩ := h2
  obtain ⟨r3, f3, q3⟩ := h3
  obtain ⟨r4, f4, q4⟩ := h4
  intro N h o oh
  refine run_ret rfl (by decide) ?_
  refine Run.nx (Γ1 := [.c (netD N), .c (hD h)]) (by simp [f1, q1.1 N o]) ?_
  refine Run.nx (Γ1 := [.c (netD N), .c (hD h)]) (by simp [f2, q2.1 N h o oh]) ?_
  have e := q3 N h (List.range N.ties.length) o oh.sh
  rw [offO_all] at e
  exact Run.rt (t := mpT kD (N.ties.map (offerA h))) (Γ1 := [.c (netD N), .c (hD h)]) (by simp [f3, f4, q4 N o, e]) ⟨_, rfl, rfl⟩
def S_fall (run : List Tr → Option FR) : Prop := ∀ N h (k n : Nat) t, OkN N → OkH 1000000000 N h → k < N.ends.length → N.ties[n]? = some t → run [.c (netD N), .c (hD h), .c (.int k), .c (.int n)] = some (.ok (.c (.int (fallA h k t))) [.gone, .gone, .gone, .gone])
theorem w_fall {F : Genv} (h1 : Fn F "need_net" S_need_net) (h2 : Fn F "need_heaps" (S_need_lines 1000000000 "NoHeaps")) (h3 : Fn F "is_number" S_is_number) (h4 : Fn F "fall_along" S_fall_along) : S_fall (r_fall F) := by
  obtain ⟨r1, f1, q1⟩ := h1
  obtain ⟨r2, f2, q2⟩ := h2
  obtain ⟨r3, f3, q3⟩ := h3
  obtain ⟨r4, f4, q4⟩ := h4
  intro N h k n t o oh hk ht
  have hn := (List.getElem?_eq_some_iff.mp ht).1
  refine run_ret rfl (by decide) ?_
  refine Run.nx (Γ1 := [.c (netD N), .c (hD h), .c (.int k), .c (.int n)]) (by simp [f1, q1.1 N o]) ?_
  refine Run.nx (Γ1 := [.c (netD N), .c (hD h), .c (.int k), .c (.int n)]) (by simp [f2, q2.1 N h o oh]) ?_
  have e1 : isNum (.int (k : Int)) 0 ((N.ends.length : Int) - 1) = true := by simp; omega
  have e2 : isNum (.int (n : Int)) 0 ((N.ties.length : Int) - 1) = true := by simp; omega
  refine Run.skip (Γ1 := [.c (netD N), .c (hD h), .c (.int k), .c (.int n)]) (by simp [netD, f3, q3 _ _ _, e1, -isNum_i]) ?_
  refine Run.skip (Γ1 := [.c (netD N), .c (hD h), .c (.int k), .c (.int n)]) (by simp [netD, f3, q3 _ _ _, e2, -isNum_i]) ?_
  exact Run.rt (t := .c (.int (fallA h k t))) (Γ1 := [.c (netD N), .c (hD h), .c (.int k), .c (.int n)]) (by simp [netD, ht, f4, q4 N h k t oh.sh hk (o.t t (List.mem_of_getElem? ht))]) ⟨_, rfl, rfl⟩
end Hp
set_option Elab.async false
set_option linter.all false
set_option maxRecDepth 100000
set_option maxHeartbeats 400000
/-! data that can be compared and shown -/
namespace Hp
open PySem PySem.Spec PyProof.Rows L2 Hw
/-- comparable, of depth at most k -/
structure CD (k : Nat) (d : PyData) : Prop where
  nd : noDict d = true
  cl : PyData.canLay0 d = true
  dp : PyData.depth d ≤ k
/-- .. and shown in at most s signs -/
structure PD (k s : Nat) (d : PyData) : Prop extends CD k d where
  sh : PyData.showable d = true
  sz : szD d ≤ s
theorem CD.mono {k k' : Nat} {d : PyData} (h : CD k d) (l : k ≤ k') : CD k' d := ⟨h.nd, h.cl, Nat.le_trans h.dp l⟩
theorem PD.mono {k s k' s' : Nat} {d : PyData} (h : PD k s d) (l : k ≤ k') (m : s ≤ s') : PD k' s' d := ⟨h.toCD.mono l, h.sh, Nat.le_trans h.sz m⟩
theorem CD.int {k : Nat} (i : Int) : CD k (.int i) := ⟨rfl, rfl, Nat.zero_le _⟩
theorem CD.none {k : Nat} : CD k .none := ⟨rfl, rfl, Nat.zero_le _⟩
theorem CD.bool {k : Nat} (b : Bool) : CD k (.bool b) := ⟨rfl, rfl, Nat.zero_le _⟩
theorem nd_all : ∀ {ds : List PyData}, (∀ d ∈ ds, noDict d = true) → noDict.noDictL ds = true
  | [], _ => rfl
  | d :: ds, h => by unfold noDict.noDictL; rw [h d List.mem_cons_self, nd_all fun x hx => h x (List.mem_cons_of_mem _ hx)]; rfl
theorem cl_all : ∀ {ds : List PyData}, (∀ d ∈ ds, PyData.canLay0 d = true) → PyData.canLayAll0 ds = true
  | [], _ => by simp [PyData.canLayAll0]
  | d :: ds, h => by simp [PyData.canLayAll0, h d List.mem_cons_self, cl_all fun x hx => h x (List.mem_cons_of_mem _ hx)]
theorem dp_all {k : Nat} : ∀ {ds : List PyData}, (∀ d ∈ ds, PyData.depth d ≤ k) → PyData.depthAll ds ≤ k
  | [], _ => by simp [PyData.depthAll]
  | d :: ds, h => by
    have h1 := h d List.mem_cons_self
    have h2 := dp_all fun x hx => h x (List.mem_cons_of_mem _ hx)
    simp only [PyData.depthAll]
    omega
theorem sh_all : ∀ {ds : List PyData}, (∀ d ∈ ds, PyData.showable d = true) → PyData.showableAll ds = true
  | [], _ => by simp [PyData.showableAll]
  | d :: ds, h => by simp [PyData.showableAll, h d List.mem_cons_self, sh_all fun x hx => h x (List.mem_cons_of_mem _ hx)]
theorem sz_all {s : Nat} : ∀ {ds : List PyData}, (∀ d ∈ ds, szD d ≤ s) → szL ds ≤ ds.length * (s + 2)
  | [], _ => by simp [szL]
  | d :: ds, h => by
    have h1 := h d List.mem_cons_self
    have h2 := sz_all fun x hx => h x (List.mem_cons_of_mem _ hx)
    simp only [szL, List.length_cons, Nat.succ_mul]
    omega
theorem CD.tuple {k : Nat} {ds : List PyData} (h : ∀ d ∈ ds, CD k d) : CD (k + 1) (.tuple ds) :=
  ⟨by unfold noDict; exact nd_all fun d hd => (h d hd).nd, by simp only [PyData.canLay0]; exact cl_all fun d hd => (h d hd).cl, by simp only [PyData.depth]; have := dp_all fun d hd => (h d hd).dp; omega⟩
theorem CD.list {k : Nat} {ds : List PyData} (h : ∀ d ∈ ds, CD k d) : CD (k + 1) (.list ds) :=
  ⟨by unfold noDict; exact nd_all fun d hd => (h d hd).nd, by simp only [PyData.canLay0]; exact cl_all fun d hd => (h d hd).cl, by simp only [PyData.depth]; have := dp_all fun d hd => (h d hd).dp; omega⟩
theorem PD.int {i : Int} (h : i.natAbs < 2 ^ 64) : PD 0 70 (.int i) := by
  have l : i.natAbs.log2 < 64 := lg_lt h (by decide)
  refine ⟨CD.int i, ?_, ?_⟩
  · simp only [PyData.showable, decide_eq_true_eq]; omega
  · simp only [szD]; omega
theorem PD.none : PD 0 70 .none := ⟨CD.none, rfl, by simp [szD]⟩
theorem PD.bool (b : Bool) : PD 0 70 (.bool b) := ⟨CD.bool b, rfl, by simp [szD]⟩
theorem PD.tuple {k s n : Nat} {ds : List PyData} (h : ∀ d ∈ ds, PD k s d) (l : ds.length ≤ n) : PD (k + 1) (3 + n * (s + 2)) (.tuple ds) := by
  refine ⟨CD.tuple fun d hd => (h d hd).toCD, ?_, ?_⟩
  · simp only [PyData.showable]; exact sh_all fun d hd => (h d hd).sh
  · simp only [szD]
    have := sz_all fun d hd => (h d hd).sz
    have := Nat.mul_le_mul_right (s + 2) l
    omega
theorem PD.list {k s n : Nat} {ds : List PyData} (h : ∀ d ∈ ds, PD k s d) (l : ds.length ≤ n) : PD (k + 1) (3 + n * (s + 2)) (.list ds) := by
  refine ⟨CD.list fun d hd => (h d hd).toCD, ?_, ?_⟩
  · simp only [PyData.showable]; exact sh_all fun d hd => (h d hd).sh
  · simp only [szD]
    have := sz_all fun d hd => (h d hd).sz
    have := Nat.mul_le_mul_right (s + 2) l
    omega
theorem CD.plain {k : Nat} {d : PyData} (h : CD k d) (l : k ≤ 64) : plainD d = true := by
  unfold plainD SeqAt.shaped
  have := h.dp
  simp only [Bool.and_eq_true, decide_eq_true_eq]
  exact ⟨h.nd, h.cl, by omega⟩
theorem PD.plainR {k s : Nat} {d : PyData} (h : PD k s d) (l : k ≤ 60) (m : s ≤ 16777216) : plainR d = true := by
  unfold Hw.plainR
  have := h.dp
  have := h.sz
  have e : sizeLine = 16777216 := sizeLine_eq
  simp only [Bool.and_eq_true, decide_eq_true_eq]
  exact ⟨⟨⟨(by rw [h.nd]; rfl), h.sh⟩, by omega⟩, by omega⟩
theorem eq_see {a b : Tr} {d e : PyData} (ha : see a = some d) (hb : see b = some e) (na : asStr a = none) (p : plainD d = true) (q : plainD e = true) : cmpEv .Eq a b = some (PyData.eqv d e) := by
  have e1 : cmpEv .Eq a b = eqEv a b := rfl
  rw [e1]
  unfold eqEv eqEv0
  rw [na, ha, hb]
  simp [p, q]
theorem ne_see {a b : Tr} {d e : PyData} (ha : see a = some d) (hb : see b = some e) (na : asStr a = none) (p : plainD d = true) (q : plainD e = true) : cmpEv .NotEq a b = some (!PyData.eqv d e) := by
  have e1 : cmpEv .NotEq a b = (cmpEv .Eq a b).map (!·) := rfl
  rw [e1, eq_see ha hb na p q]; rfl
theorem ne_script {ns : List Int} (h : ns ≠ []) : cmpEv .NotEq (.s ns) (.l []) = some true := by
  have p1 : plainD (.list (ns.map PyData.int)) = true := (CD.list (k := 0) fun d hd => by obtain ⟨i, _, rfl⟩ := List.mem_map.mp hd; exact CD.int i).plain (by decide)
  rw [ne_see (d := .list (ns.map PyData.int)) (e := .list []) (by simp [see]) (by simp [see, frz, frzL]) rfl p1 rfl]
  cases ns with
  | nil => exact absurd rfl h
  | cons n ns => rfl
/-! ### equal as data -/
mutual
theorem eqv_refl : ∀ d : PyData, noDict d = true → PyData.eqv d d = true
  | .none, _ => by simp [PyData.eqv]
  | .bool b, _ => by simp [PyData.eqv]
  | .int i, _ => by simp [PyData.eqv]
  | .str x, _ => by simp [PyData.eqv]
  | .list xs, h => by simp only [PyData.eqv]; exact eqv_reflL xs (by unfold noDict at h; exact h)
  | .tuple xs, h => by simp only [PyData.eqv]; exact eqv_reflL xs (by unfold noDict at h; exact h)
  | .dict _, h => by unfold noDict at h; cases h
theorem eqv_reflL : ∀ xs : List PyData, noDict.noDictL xs = true → PyData.eqvAll xs xs = true
  | [], _ => by simp [PyData.eqvAll]
  | x :: xs, h => by
    unfold noDict.noDictL at h
    rw [Bool.and_eq_true] at h
    simp [PyData.eqvAll, eqv_refl x h.1, eqv_reflL xs h.2]
end
/-! ### nets and heaps are such -/
theorem PD.tie {n : Nat} {t : Tie} (hn : n ≤ 8) (o : OkT n t) : PD 1 219 (tieD t) := by
  have h1 := o.i; have h2 := o.j; have h3 := o.lo; have h4 := o.hi
  refine (PD.tuple (k := 0) (s := 70) (n := 3) (fun d hd => ?_) (Nat.le_refl _)).mono (Nat.le_refl _) (by decide)
  simp only [List.mem_cons, List.mem_nil_iff, or_false] at hd
  rcases hd with rfl | rfl | rfl <;> exact PD.int (by omega)
theorem PD.net {N : Net} (o : OkN N) : PD 3 43000 (netD N) := by
  have h1 := o.n8; have h2 := o.e4; have h3 := o.tlen
  refine (PD.tuple (k := 2) (s := 14200) (n := 3) (fun d hd => ?_) (Nat.le_refl _)).mono (Nat.le_refl _) (by decide)
  simp only [List.mem_cons, List.mem_nil_iff, or_false] at hd
  rcases hd with rfl | rfl | rfl
  · exact (PD.int (by omega)).mono (by decide) (by decide)
  · refine (PD.tuple (k := 0) (s := 70) (n := 4) (fun d hd => ?_) (by simpa using h2)).mono (by decide) (by decide)
    obtain ⟨e, he, rfl⟩ := List.mem_map.mp hd
    have := o.e e he
    exact PD.int (by omega)
  · refine (PD.tuple (k := 1) (s := 219) (n := 64) (fun d hd => ?_) (by simpa using h3)).mono (by decide) (by decide)
    obtain ⟨t, ht, rfl⟩ := List.mem_map.mp hd
    exact PD.tie h1 (o.t t ht)
theorem PD.heaps {N : Net} {h : List (List Int)} (o : OkN N) (s : Sh N h) (b : ∀ l ∈ h, ∀ x ∈ l, x.natAbs < 2 ^ 64) : PD 2 2400 (hD h) := by
  have h1 := o.n8; have h2 := o.e4
  refine (PD.tuple (k := 1) (s := 579) (n := 4) (fun d hd => ?_) (by rw [List.length_map, s.len]; exact h2)).mono (by decide) (by decide)
  obtain ⟨l, hl, rfl⟩ := List.mem_map.mp hd
  refine (PD.tuple (k := 0) (s := 70) (n := 8) (fun d hd => ?_) (by rw [List.length_map, s.l l hl]; exact h1)).mono (by decide) (by decide)
  obtain ⟨x, hx, rfl⟩ := List.mem_map.mp hd
  exact PD.int (b l hl x hx)
theorem OkH.b64 {high : Int} {N : Net} {h : List (List Int)} (o : OkH high N h) (hh : high ≤ 1000000000) : ∀ l ∈ h, ∀ x ∈ l, x.natAbs < 2 ^ 64 := fun l hl x hx => by
  have := o.b l hl x hx
  omega
end Hp
set_option Elab.async false
set_option linter.all false
set_option maxRecDepth 100000
set_option maxHeartbeats 400000
/-! the tape of the b-laws, what is drawn of it -/
namespace Hp
open PySem PySem.Spec PyProof.Rows L2 Hw
/-- a tape that was asked at most M times -/
def Tp (ns : List Int) (M : Nat) (t : Tr) : Prop := ∃ (a : Nat) (c : Int), t = .l [.s ns, .c (.int a), .c (.int c)] ∧ a ≤ M ∧ 0 ≤ c
theorem Tp.mono {ns : List Int} {M M' : Nat} {t : Tr} (h : Tp ns M t) (l : M ≤ M') : Tp ns M' t := let ⟨a, c, e, h1, h2⟩ := h; ⟨a, c, e, Nat.le_trans h1 l, h2⟩
def S_mixed (run : List Tr → Option FR) : Prop := ∀ (cell : Int) (a : Nat), a < 2 ^ 40 → ∃ c, run [.c (.int cell), .c (.int a)] = some (.ok (.c (.int c)) [.gone, .gone]) ∧ 0 ≤ c
theorem w_mixed (F : Genv) : S_mixed (r_law_b_mixed F) := by
  intro cell a ha
  by_cases hc : (10 : Int) ^ 18 ≤ cell
  · refine ⟨cell, run_ret rfl (by decide) ?_, by omega⟩
    refine Run.iteT (Γ1 := [.c (.int cell), .c (.int a), .gone, .gone, .gone]) ?_ ?_
    · have : (1000000000000000000 : Int) ≤ cell := by omega
      simp [this]
    · exact Run.rt (t := .c (.int cell)) (Γ1 := [.gone, .c (.int a), .gone, .gone, .gone]) (by simp) ⟨_, rfl, rfl⟩
  · have nc : ¬ (1000000000000000000 : Int) ≤ cell := by omega
    have h0 := Int.emod_nonneg cell (show (2147483543 : Int) ≠ 0 by decide)
    have h1 := Int.emod_lt_of_pos cell (show (0 : Int) < 2147483543 by decide)
    generalize e1 : cell % 2147483543 = m1 at h0 h1
    have k0 := Int.emod_nonneg (m1 * 40961 + (a : Int) * 9013 + 577) (show (2147483497 : Int) ≠ 0 by decide)
    have k1 := Int.emod_lt_of_pos (m1 * 40961 + (a : Int) * 9013 + 577) (show (0 : Int) < 2147483497 by decide)
    generalize e2 : (m1 * 40961 + (a : Int) * 9013 + 577) % 2147483497 = one at k0 k1
    have l0 := Int.emod_nonneg (one * one + 911 * (a : Int) + 67) (show (2147483489 : Int) ≠ 0 by decide)
    have l1 := Int.emod_lt_of_pos (one * one + 911 * (a : Int) + 67) (show (0 : Int) < 2147483489 by decide)
    generalize e3 : (one * one + 911 * (a : Int) + 67) % 2147483489 = two at l0 l1
    have m0 := Int.emod_nonneg (two * two + 733 * one + (a : Int)) (show (2147483477 : Int) ≠ 0 by decide)
    have m1' := Int.emod_lt_of_pos (two * two + 733 * one + (a : Int)) (show (0 : Int) < 2147483477 by decide)
    generalize e4 : (two * two + 733 * one + (a : Int)) % 2147483477 = three at m0 m1'
    have sa : sm (a : Int) := sm64 (by omega)
    have s1 : sm m1 := sm64 (by omega)
    have so : sm one := sm64 (by omega)
    have s2 : sm two := sm64 (by omega)
    have mm : ∀ i : Int, i.natAbs < 2 ^ 64 → sm i := fun i h => sm64 h
    refine ⟨two * 2147483477 + three, run_ret rfl (by decide) ?_, by omega⟩
    refine Run.skip (Γ1 := [.c (.int cell), .c (.int a), .gone, .gone, .gone]) (by simp [nc]) ?_
    refine Run.nx (Γ1 := [.c (.int cell), .c (.int a), .c (.int one), .gone, .gone]) (by simp [e1, mul_sm s1 (mm 40961 (by decide)), mul_sm sa (mm 9013 (by decide)), e2]) ?_
    refine Run.nx (Γ1 := [.c (.int cell), .c (.int a), .c (.int one), .c (.int two), .gone]) (by simp [mul_sm so so, mul_sm (mm 911 (by decide)) sa, e3]) ?_
    refine Run.nx (Γ1 := [.c (.int cell), .c (.int a), .c (.int one), .c (.int two), .c (.int three)]) (by simp [mul_sm s2 s2, mul_sm (mm 733 (by decide)) so, e4]) ?_
    exact Run.rt (t := .c (.int (two * 2147483477 + three))) (Γ1 := [.c (.int cell), .c (.int a), .c (.int one), .c (.int two), .c (.int three)]) (by simp [mul_sm s2 (mm 2147483477 (by decide))]) ⟨_, rfl, rfl⟩
/-- a number below many, drawn -/
def S_take (ns : List Int) (run : List Tr → Option FR) : Prop := ∀ M t (m : Int), Tp ns M t → M < 2 ^ 39 → 0 < m → m.natAbs.log2 < 9000 → ∃ (r : Nat) (t' : Tr), run [t, .c (.int m)] = some (.ok (.c (.int (r : Nat))) [t', .gone]) ∧ Tp ns (M + 1) t' ∧ (r : Int) < m
theorem w_take {F : Genv} {ns : List Int} (h1 : Fn F "_law_b_mixed" S_mixed) : S_take ns (r_law_b_take F) := by
  obtain ⟨r1, f1, q1⟩ := h1
  rintro M t m ⟨a, c, rfl, ha, hc⟩ hM hm hl
  have fin : ∀ (a' : Nat) (c' : Int) (x2 x3 x4 : Tr), a' ≤ M + 1 → 0 ≤ c' → ∃ (r : Nat) (t' : Tr), Run F [.set 2 (.prim .mod [.e (.pth 0 [.lit (.int 2)]), .pk 1]), .setp 0 [] (.lit (.int 2)) (.prim .fdiv [.e (.pth 0 [.lit (.int 2)]), .pk 1]), .ret (.mv 2)] [.l [.s ns, .c (.int a'), .c (.int c')], .c (.int m), x2, x3, x4] (fun s => ∃ Γ, s = .rt (.c (.int (r : Nat))) Γ ∧ outsOf [true, false] Γ = [t', .gone]) ∧ Tp ns (M + 1) t' ∧ (r : Int) < m := by
    intro a' c' x2 x3 x4 h1 h2
    have k0 := Int.emod_nonneg c' (show m ≠ 0 by omega)
    have k1 := Int.emod_lt_of_pos c' hm
    have e : ((c' % m).toNat : Int) = c' % m := Int.toNat_of_nonneg k0
    refine ⟨(c' % m).toNat, .l [.s ns, .c (.int a'), .c (.int (c' / m))], ?_, ⟨a', _, rfl, h1, Int.ediv_nonneg h2 (by omega)⟩, by rw [e]; exact k1⟩
    refine Run.nx (Γ1 := [.l [.s ns, .c (.int a'), .c (.int c')], .c (.int m), .c (.int (c' % m)), x3, x4]) (by simp [hm]) ?_
    refine Run.nx (Γ1 := [.l [.s ns, .c (.int a'), .c (.int (c' / m))], .c (.int m), .c (.int (c' % m)), x3, x4]) (by simp [hm, hl, setAt, ixN]) ?_
    exact Run.rt (t := .c (.int ((c' % m).toNat : Nat))) (Γ1 := [.l [.s ns, .c (.int a'), .c (.int (c' / m))], .c (.int m), .gone, x3, x4]) (by simp [e]) ⟨_, rfl, rfl⟩
  by_cases hlt : c < m
  · have sa : sm (a : Int) := sm64 (by omega)
    have mm : ∀ i : Int, i.natAbs < 2 ^ 64 → sm i := fun i h => sm64 h
    have key : ∃ (cl : Int), ∀ (Q : SR → Prop) ss, Run F ss [.l [.s ns, .c (.int a), .c (.int c)], .c (.int m), .gone, .c (.int a), .c (.int cl)] Q → Run F ((.set 3 (.pth 0 [.lit (.int 1)])) :: (.set 4 (.prim .add [.e (.prim .mul [.e (.lit (.int 19)), .pk 3]), .e (.lit (.int 8))])) ::
        (.ite (.e (.prim (.cmp .Lt) [.pk 3, .e (.prim (.bi .len) [.e (.pth 0 [.lit (.int 0)])])])) [.set 4 (.pth 0 [.lit (.int 0), .var 3])]
          [.ite (.e (.prim (.cmp .NotEq) [.e (.pth 0 [.lit (.int 0)]), .e (.lst [])])) [.set 4 (.prim .add [.e (.prim .mod [.e (.pth 0 [.lit (.int 0), .prim .mod [.e (.prim .mul [.pk 3, .e (.lit (.int 13))]), .e (.prim (.bi .len) [.e (.pth 0 [.lit (.int 0)])])]]), .e (.lit (.int 1000037))]), .e (.prim .mul [.pk 3, .e (.lit (.int 1000117))])])] []]) :: ss)
        [.l [.s ns, .c (.int a), .c (.int c)], .c (.int m), .gone, .gone, .gone] Q := by
      have start : ∀ (Q : SR → Prop) ss, Run F ss [.l [.s ns, .c (.int a), .c (.int c)], .c (.int m), .gone, .c (.int a), .c (.int (19 * a + 8))] Q → Run F ((.set 3 (.pth 0 [.lit (.int 1)])) :: (.set 4 (.prim .add [.e (.prim .mul [.e (.lit (.int 19)), .pk 3]), .e (.lit (.int 8))])) :: ss) [.l [.s ns, .c (.int a), .c (.int c)], .c (.int m), .gone, .gone, .gone] Q := by
        intro Q ss k
        refine Run.nx (Γ1 := [.l [.s ns, .c (.int a), .c (.int c)], .c (.int m), .gone, .c (.int a), .gone]) (by simp) ?_
        exact Run.nx (Γ1 := [.l [.s ns, .c (.int a), .c (.int c)], .c (.int m), .gone, .c (.int a), .c (.int (19 * a + 8))]) (by simp [mul_sm (mm 19 (by decide)) sa]) k
      by_cases hn : a < ns.length
      · refine ⟨ns[a], fun Q ss k => start _ _ (Run.iteT (Γ1 := [.l [.s ns, .c (.int a), .c (.int c)], .c (.int m), .gone, .c (.int a), .c (.int (19 * a + 8))]) (by simp [hn]) ?_)⟩
        exact Run.nx (Γ1 := [.l [.s ns, .c (.int a), .c (.int c)], .c (.int m), .gone, .c (.int a), .c (.int ns[a])]) (by simp [hn]) (Run.nil k)
      · by_cases he : ns = []
        · subst he
          refine ⟨19 * a + 8, fun Q ss k => start _ _ (Run.iteF (Γ1 := [.l [.s [], .c (.int a), .c (.int c)], .c (.int m), .gone, .c (.int a), .c (.int (19 * a + 8))]) (by simp) ?_)⟩
          refine Run.skip (Γ1 := [.l [.s [], .c (.int a), .c (.int c)], .c (.int m), .gone, .c (.int a), .c (.int (19 * a + 8))]) ?_ (Run.nil k)
          have : cmpEv .NotEq (.s []) (.l []) = some false := by rfl
          simp [this]
        · have hl0 : 0 < ns.length := List.length_pos_iff.mpr he
          have b0 := Int.emod_nonneg ((a : Int) * 13) (show (ns.length : Int) ≠ 0 by omega)
          have b1 := Int.emod_lt_of_pos ((a : Int) * 13) (show (0 : Int) < ns.length by omega)
          have eb : (((a : Int) * 13 % (ns.length : Int)).toNat : Int) = (a : Int) * 13 % (ns.length : Int) := Int.toNat_of_nonneg b0
          generalize ((a : Int) * 13 % (ns.length : Int)).toNat = ix at eb
          have hix : ix < ns.length := by omega
          refine ⟨ns[ix] % 1000037 + a * 1000117, fun Q ss k => start _ _ (Run.iteF (Γ1 := [.l [.s ns, .c (.int a), .c (.int c)], .c (.int m), .gone, .c (.int a), .c (.int (19 * a + 8))]) (by simp [hn]) ?_)⟩
          refine Run.iteT (Γ1 := [.l [.s ns, .c (.int a), .c (.int c)], .c (.int m), .gone, .c (.int a), .c (.int (19 * a + 8))]) ?_ ?_
          · have : cmpEv .NotEq (.s ns) (.l []) = some true := ne_script he
            simp [this]
          · exact Run.nx (Γ1 := [.l [.s ns, .c (.int a), .c (.int c)], .c (.int m), .gone, .c (.int a), .c (.int (ns[ix] % 1000037 + a * 1000117))]) (by simp [mul_sm sa (mm 13 (by decide)), mul_sm sa (mm 1000117 (by decide)), hl0, ← eb, hix]) (Run.nil (Run.nil k))
    obtain ⟨cl, hcl⟩ := key
    obtain ⟨mx, e1, e2⟩ := q1 cl a (by omega)
    obtain ⟨r, t', h1, h2, h3⟩ := fin (a + 1) mx .gone (.c (.int a)) (.c (.int cl)) (by omega) e2
    refine ⟨r, t', run_ret rfl (by decide) (Run.iteT (Γ1 := [.l [.s ns, .c (.int a), .c (.int c)], .c (.int m), .gone, .gone, .gone]) (by simp [hlt]) (hcl _ _ ?_)), h2, h3⟩
    refine Run.nx (Γ1 := [.l [.s ns, .c (.int (a + 1)), .c (.int c)], .c (.int m), .gone, .c (.int a), .c (.int cl)]) (by simp [setAt, ixN]) ?_
    exact Run.nx (Γ1 := [.l [.s ns, .c (.int (a + 1)), .c (.int mx)], .c (.int m), .gone, .c (.int a), .c (.int cl)]) (by simp [f1, e1, setAt, ixN]) (Run.nil (by rw [Int.natCast_add] at h1; exact h1))
  · obtain ⟨r, t', h1, h2, h3⟩ := fin a c .gone .gone .gone (by omega) hc
    exact ⟨r, t', run_ret rfl (by decide) (Run.skip (Γ1 := [.l [.s ns, .c (.int a), .c (.int c)], .c (.int m), .gone, .gone, .gone]) (by simp [hlt]) h1), h2, h3⟩
end Hp
set_option Elab.async false
set_option linter.all false
set_option maxRecDepth 100000
set_option maxHeartbeats 400000
/-! nets, heaps, comers drawn of the tape -/
namespace Hp
open PySem PySem.Spec PyProof.Rows L2 Hw
@[simp] theorem stl0 : stl [] = some [] := rfl
@[simp] theorem stl1 (d : PyData) (xs : List Tr) : stl (.c d :: xs) = (stl xs).map (d :: ·) := rfl
theorem Tp.ok {ns : List Int} {M : Nat} {t : Tr} (h : Tp ns M t) (Γ : List Tr) : slotOk (t :: Γ) 0 = true := by obtain ⟨a, c, rfl, _⟩ := h; rfl
theorem ix3 (a b c : PyData) (s : Nat) (hs : s < 3) : ∃ d, ixEv (.l [.c a, .c b, .c c]) (.c (.int s)) = some (.c d) ∧ (d = a ∨ d = b ∨ d = c) := by
  rcases (by omega : s = 0 ∨ s = 1 ∨ s = 2) with rfl | rfl | rfl
  · exact ⟨a, rfl, .inl rfl⟩
  · exact ⟨b, rfl, .inr (.inl rfl)⟩
  · exact ⟨c, rfl, .inr (.inr rfl)⟩
def S_net (ns : List Int) (run : List Tr → Option FR) : Prop := ∀ M t (p k : Nat), Tp ns M t → M + 1000 < 2 ^ 39 → 1 ≤ p → p ≤ 8 → 1 ≤ k → k ≤ 4 → ∃ N t', run [t, .c (.int p), .c (.int k)] = some (.ok (.c (netD N)) [t', .gone, .gone]) ∧ OkN N ∧ Tp ns (M + 1000) t' ∧ N.n ≤ p ∧ N.ends.length ≤ k
theorem w_net {F : Genv} {ns : List Int} (h1 : Fn F "_law_b_take" (S_take ns)) : S_net ns (r_law_b_net F) := by
  obtain ⟨r1, f1, q1⟩ := h1
  intro M t p k ht hM p1 p8 k1 k4
  have lg : ∀ n : Nat, n ≤ 1000 → ((n : Int)).natAbs.log2 < 9000 := fun n h => lg_lt (k := 11) (by omega) (by decide) |> fun z => Nat.lt_trans z (by decide)
  obtain ⟨a, t1, e1, ht1, ha⟩ := q1 M t p ht (by omega) (by omega) (lg p (by omega))
  obtain ⟨b, t2, e2, ht2, hb⟩ := q1 (M + 1) t1 k ht1 (by omega) (by omega) (lg k (by omega))
  let n := 1 + a
  have hn : n ≤ 8 := by omega
  have en : (1 : Int) + a = (n : Nat) := by omega
  have eb : (1 : Int) + b = ((1 + b : Nat) : Int) := by omega
  -- the ends
  obtain ⟨Γe, re, ee, t3, es, rfl, ht3, rfl, le, he⟩ := lc_inv (F := F) (own := [10]) (tg := .nm 10) (it := .rng1 (.prim .add [.e (.lit (.int 1)), .e (.call ("_law_b_take" : Str) [.io 0, .e (.var 2)])])) (elt := .call ("_law_b_take" : Str) [.io 0, .e (.var 3)]) (cond := [])
    (Γ := [t1, .c (.int p), .c (.int k), .c (.int n), .gone, .gone, .gone, .gone, .gone, .gone, .gone, .gone])
    (fun i Γ acc => ∃ t' es, Γ = [t', .c (.int p), .c (.int k), .c (.int n), .gone, .gone, .gone, .gone, .gone, .gone, .gone, .gone] ∧ Tp ns (M + 2 + i) t' ∧ acc = (es : List Nat).map (fun e => .c (nD e)) ∧ es.length = i ∧ ∀ e ∈ es, e < n)
    (rng1_n (n := 1 + b) (Γ1 := [t2, .c (.int p), .c (.int k), .c (.int n), .gone, .gone, .gone, .gone, .gone, .gone, .gone, .gone]) (by simp [f1, ht1.ok, e2, eb, -Int.natCast_add]) (by omega)) ⟨t2, [], by simp, ht2, rfl, rfl, by simp⟩
    (by
      rintro i d Γ acc hd ⟨t', es, rfl, ht', rfl, l, he⟩
      have hi := (List.getElem?_eq_some_iff.mp hd).1
      rw [List.length_map, List.length_range] at hi
      obtain ⟨e, t'', e3, ht'', h3⟩ := q1 (M + 2 + i) t' n ht' (by omega) (by omega) (lg n (by omega))
      refine ⟨_, rfl, .inl ⟨_, [t'', .c (.int p), .c (.int k), .c (.int n), .gone, .gone, .gone, .gone, .gone, .gone, .c d, .gone], .c (nD e), by rw [evC], ?_, t'', es ++ [e], by simp, ht''.mono (by omega), by simp, by simp [l], fun x hx => ?_⟩⟩
      · simp [f1, ht'.ok, e3, nD]
      · rcases List.mem_append.mp hx with hx | hx
        · exact he x hx
        · simp at hx; subst hx; omega) (sz (by simp; omega))
  rw [List.length_map, List.length_range] at ht3 le
  obtain ⟨c, t4, e4, ht4, hc⟩ := q1 (M + 2 + (1 + b)) t3 5 ht3 (by omega) (by decide) (by decide)
  obtain ⟨s, t5, e5, ht5, hs⟩ := q1 (M + 2 + (1 + b) + 1) t4 3 ht4 (by omega) (by decide) (by decide)
  let M0 := M + 2 + (1 + b) + 2
  have hM0 : M0 ≤ M + 8 := by omega
  -- a tie's most
  have most : ∀ M' (t' : Tr) (i j : Nat), Tp ns M' t' → M' < 2 ^ 39 → ∀ Γ : List Tr, ∃ (m : Int) (t'' : Tr), 1 ≤ m ∧ m ≤ 9 ∧ Tp ns (M' + 1) t'' ∧ ∀ (ts : List Tie) (x1 x2 x3 x4 x5 x10 x11 : Tr), ts.length ≤ 1000 →
      exS F (.app 7 [] (.tup [.e (.var 8), .e (.var 9), .e (.prim .ix [.e (.lst [.e (.lit (.int 1)), .e (.lit (.int 9)), .e (.prim .add [.e (.lit (.int 1)), .e (.call ("_law_b_take" : Str) [.io 0, .e (.lit (.int 9))])])]), .pk 6])])) [t', x1, x2, x3, x4, x5, .c (.int s), mpT tieD ts, .c (.int i), .c (.int j), x10, x11]
        = some (.nx [t'', x1, x2, x3, x4, x5, .c (.int s), mpT tieD (ts ++ [⟨i, j, m⟩]), .c (.int i), .c (.int j), x10, x11]) := by
    intro M' t' i j ht' hM' _
    obtain ⟨r, t'', e6, ht'', h6⟩ := q1 M' t' 9 ht' hM' (by decide) (by decide)
    obtain ⟨d, e7, h7⟩ := ix3 (.int 1) (.int 9) (.int (1 + r)) s (by omega)
    have : ∃ m : Int, d = .int m ∧ 1 ≤ m ∧ m ≤ 9 := by
      rcases h7 with rfl | rfl | rfl
      · exact ⟨1, rfl, by decide, by decide⟩
      · exact ⟨9, rfl, by decide, by decide⟩
      · exact ⟨1 + r, rfl, by omega, by omega⟩
    obtain ⟨m, rfl, m1, m9⟩ := this
    refine ⟨m, t'', m1, m9, ht'', fun ts x1 x2 x3 x4 x5 x10 x11 hl => ?_⟩
    have hz : ts.length < sizeLine := Nat.lt_of_le_of_lt hl (by decide)
    simp [mpT, f1, ht'.ok, e6, e7, hz, tieD]
  -- the ties
  have main : Run F [.for_ (.nm 8) (.rng1 (.var 3)) [.for_ (.nm 9) (.sq (.lc [11] (.nm 11) (.rng1 (.var 3)) [.and_ (.e (.prim (.cmp .NotEq) [.pk 11, .pk 8])) (.e (.prim (.cmp .Lt) [.e (.call ("_law_b_take" : Str) [.io 0, .e (.lit (.int 5))]), .pk 5]))] (.var 11)))
      [.app 7 [] (.tup [.e (.var 8), .e (.var 9), .e (.prim .ix [.e (.lst [.e (.lit (.int 1)), .e (.lit (.int 9)), .e (.prim .add [.e (.lit (.int 1)), .e (.call ("_law_b_take" : Str) [.io 0, .e (.lit (.int 9))])])]), .pk 6])])]],
      .ret (.tup [.e (.var 3), .e (.var 4), .e (.prim (.bi .tuple) [.pk 7])])]
      [t5, .c (.int p), .c (.int k), .c (.int n), .c (.tuple (es.map nD)), .c (.int (1 + c)), .c (.int s), .l [], .gone, .gone, .gone, .gone]
      (fun r => ∃ ts t', (∃ Γ, r = .rt (.c (netD ⟨n, es, ts⟩)) Γ ∧ outsOf [true, false, false] Γ = [t', .gone, .gone]) ∧ (∀ x ∈ ts, OkT n x) ∧ ts.Pairwise tLt ∧ Tp ns (M + 1000) t') := by
    refine Run.forM (c := fun i : Nat => PyData.int (i : Nat)) (xs := List.range n) (Γ1 := [t5, .c (.int p), .c (.int k), .c (.int n), .c (.tuple (es.map nD)), .c (.int (1 + c)), .c (.int s), .l [], .gone, .gone, .gone, .gone])
      (fun i Γ => ∃ t' ts j8 j9, Γ = [t', .c (.int p), .c (.int k), .c (.int n), .c (.tuple (es.map nD)), .c (.int (1 + c)), .c (.int s), mpT tieD ts, j8, j9, .gone, .gone] ∧ Tp ns (M0 + i * 100) t' ∧ (∀ x ∈ ts, OkT n x) ∧ ts.Pairwise tLt ∧ (∀ x ∈ ts, x.i < i) ∧ ts.length ≤ i * 8)
      (rng1_n (by simp) (by omega)) ⟨t5, [], _, _, rfl, ht5.mono (by omega), by simp, List.Pairwise.nil, by simp, Nat.zero_le _⟩ ?_ ?_
    · rintro i i' Γ hi ⟨t', ts, j8, j9, rfl, ht', o, pw, li, ll⟩
      have hi2 := (List.getElem?_eq_some_iff.mp hi).1
      rw [List.length_range] at hi2
      rw [List.getElem?_range hi2] at hi
      cases hi
      refine ⟨[t', .c (.int p), .c (.int k), .c (.int n), .c (.tuple (es.map nD)), .c (.int (1 + c)), .c (.int s), mpT tieD ts, .c (.int i), j9, .gone, .gone], rfl, ?_⟩
      obtain ⟨Γj, rj, ej, t6, js, rfl, ht6, rfl, pj, hj, lj⟩ := lc_inv (F := F) (own := [11]) (tg := .nm 11) (it := .rng1 (.var 3)) (elt := .var 11) (cond := [.and_ (.e (.prim (.cmp .NotEq) [.pk 11, .pk 8])) (.e (.prim (.cmp .Lt) [.e (.call ("_law_b_take" : Str) [.io 0, .e (.lit (.int 5))]), .pk 5]))])
        (Γ := [t', .c (.int p), .c (.int k), .c (.int n), .c (.tuple (es.map nD)), .c (.int (1 + c)), .c (.int s), mpT tieD ts, .c (.int i), j9, .gone, .gone])
        (fun i' Γ acc => ∃ t'' js, Γ = [t'', .c (.int p), .c (.int k), .c (.int n), .c (.tuple (es.map nD)), .c (.int (1 + c)), .c (.int s), mpT tieD ts, .c (.int i), j9, .gone, .gone] ∧ Tp ns (M0 + i * 100 + i') t'' ∧ acc = (js : List Nat).map (fun e => .c (nD e)) ∧ js.Pairwise (· < ·) ∧ (∀ j ∈ js, j < i' ∧ j ≠ i) ∧ js.length ≤ i')
        (rng1_n (n := n) (Γ1 := [t', .c (.int p), .c (.int k), .c (.int n), .c (.tuple (es.map nD)), .c (.int (1 + c)), .c (.int s), mpT tieD ts, .c (.int i), j9, .gone, .gone]) (by simp) (by omega)) ⟨t', [], by simp, ht', rfl, List.Pairwise.nil, by simp, Nat.le_refl _⟩
        (by
          rintro i' d Γ acc hd ⟨t'', js, rfl, ht'', rfl, pj, hj, lj⟩
          have hi' := (List.getElem?_eq_some_iff.mp hd).1
          rw [List.length_map, List.length_range] at hi'
          rw [List.getElem?_map, List.getElem?_range hi'] at hd
          cases hd
          refine ⟨_, rfl, ?_⟩
          by_cases hne : i' = i
          · subst hne
            refine .inr ⟨[t'', .c (.int p), .c (.int k), .c (.int n), .c (.tuple (es.map nD)), .c (.int (1 + c)), .c (.int s), mpT tieD ts, .c (.int i'), j9, .gone, .c (.int i')], by rw [evC]; simp, t'', js, by simp, ht''.mono (by omega), rfl, pj, fun j h => ⟨by have := (hj j h).1; omega, (hj j h).2⟩, by omega⟩
          · obtain ⟨r, t3, e7, ht3', h7⟩ := q1 (M0 + i * 100 + i') t'' 5 ht'' (by omega) (by decide) (by decide)
            have et : evC F [.and_ (.e (.prim (.cmp .NotEq) [.pk 11, .pk 8])) (.e (.prim (.cmp .Lt) [.e (.call ("_law_b_take" : Str) [.io 0, .e (.lit (.int 5))]), .pk 5]))] [t'', .c (.int p), .c (.int k), .c (.int n), .c (.tuple (es.map nD)), .c (.int (1 + c)), .c (.int s), mpT tieD ts, .c (.int i), j9, .gone, .c (.int i')]
                = some (.ok (decide ((r : Int) < 1 + c)) [t3, .c (.int p), .c (.int k), .c (.int n), .c (.tuple (es.map nD)), .c (.int (1 + c)), .c (.int s), mpT tieD ts, .c (.int i), j9, .gone, .c (.int i')]) := by
              rw [evC]; simp [hne, f1, ht''.ok, e7]
            by_cases hr : (r : Int) < 1 + c
            · rw [decide_eq_true hr] at et
              refine .inl ⟨_, [t3, .c (.int p), .c (.int k), .c (.int n), .c (.tuple (es.map nD)), .c (.int (1 + c)), .c (.int s), mpT tieD ts, .c (.int i), j9, .gone, .c (.int i')], .c (nD i'), et, by simp [nD], t3, js ++ [i'], by simp, ht3'.mono (by omega), by simp, ?_, fun j h => ?_, by simp; omega⟩
              · rw [List.pairwise_append]
                exact ⟨pj, by simp, fun a ha b hb => by simp at hb; subst hb; exact (hj a ha).1⟩
              · rcases List.mem_append.mp h with h | h
                · exact ⟨by have := (hj j h).1; omega, (hj j h).2⟩
                · simp at h; subst h; exact ⟨by omega, hne⟩
            · rw [decide_eq_false hr] at et
              exact .inr ⟨_, et, t3, js, by simp, ht3'.mono (by omega), rfl, pj, fun j h => ⟨by have := (hj j h).1; omega, (hj j h).2⟩, by omega⟩) (sz (by simp; omega))
      rw [List.length_map, List.length_range] at ht6 hj lj
      refine Run.forM (c := nD) (xs := js) (Γ1 := [t6, .c (.int p), .c (.int k), .c (.int n), .c (.tuple (es.map nD)), .c (.int (1 + c)), .c (.int s), mpT tieD ts, .c (.int i), j9, .gone, .gone])
        (fun i' Γ => ∃ t'' us j9, Γ = [t'', .c (.int p), .c (.int k), .c (.int n), .c (.tuple (es.map nD)), .c (.int (1 + c)), .c (.int s), mpT tieD us, .c (.int i), j9, .gone, .gone] ∧ Tp ns (M0 + i * 100 + n + i') t'' ∧ (∀ x ∈ us, OkT n x) ∧ us.Pairwise tLt ∧ (∀ x ∈ us, x.i < i ∨ (x.i = i ∧ x.j ∈ js.take i')) ∧ us.length ≤ i * 8 + i')
        (by simp only [si1, ej]; simp [frz, frzL_map]) ⟨t6, ts, _, rfl, ht6, o, pw, fun x hx => .inl (li x hx), by omega⟩ ?_ ?_
      · rintro i' j Γ hj' ⟨t'', us, j9', rfl, ht'', o', pw', li', ll'⟩
        have hm := List.mem_of_getElem? hj'
        have hji := hj j hm
        have hl' := (List.getElem?_eq_some_iff.mp hj').1
        refine ⟨[t'', .c (.int p), .c (.int k), .c (.int n), .c (.tuple (es.map nD)), .c (.int (1 + c)), .c (.int s), mpT tieD us, .c (.int i), .c (.int j), .gone, .gone], rfl, ?_⟩
        obtain ⟨m, t3, m1, m9, ht3', em⟩ := most (M0 + i * 100 + n + i') t'' i j ht'' (by omega) []
        refine Run.nx (em us _ _ _ _ _ _ _ (by omega)) (Run.nil ⟨t3, us ++ [⟨i, j, m⟩], _, rfl, ht3', fun x hx => ?_, ?_, fun x hx => ?_, by simp; omega⟩)
        · rcases List.mem_append.mp hx with hx | hx
          · exact o' x hx
          · simp at hx; subst hx; exact ⟨hi2, hji.1, fun e => hji.2 e.symm, m1, m9⟩
        · rw [List.pairwise_append]
          refine ⟨pw', by simp, fun a ha b hb => ?_⟩
          simp at hb; subst hb
          rcases li' a ha with z | ⟨z1, z2⟩
          · exact .inl z
          · refine .inr ⟨z1, ?_⟩
            obtain ⟨q, hq⟩ := List.mem_iff_getElem?.mp z2
            rw [List.getElem?_take] at hq
            split at hq
            · rename_i lt
              have g1 := List.getElem?_eq_some_iff.mp hq
              have g2 := List.getElem?_eq_some_iff.mp hj'
              have := List.pairwise_iff_getElem.mp pj q i' g1.1 g2.1 lt
              rw [g1.2, g2.2] at this
              exact this
            · cases hq
        · rcases List.mem_append.mp hx with hx | hx
          · rcases li' x hx with z | ⟨z1, z2⟩
            · exact .inl z
            · exact .inr ⟨z1, by rw [take_snoc hj']; exact List.mem_append_left _ z2⟩
          · simp at hx; subst hx
            exact .inr ⟨rfl, by rw [take_snoc hj']; simp⟩
      · rintro Γ ⟨t'', us, j9', rfl, ht'', o', pw', li', ll'⟩
        refine Run.nil ⟨t'', us, _, _, rfl, ht''.mono (by omega), o', pw', fun x hx => ?_, by omega⟩
        rcases li' x hx with z | ⟨z1, z2⟩ <;> omega
    · rintro Γ ⟨t', ts, j8, j9, rfl, ht', o, pw, li, ll⟩
      rw [List.length_range] at ht'
      refine Run.rt (t := .c (netD ⟨n, es, ts⟩)) (Γ1 := [t', .c (.int p), .c (.int k), .c (.int n), .c (.tuple (es.map nD)), .c (.int (1 + c)), .c (.int s), mpT tieD ts, j8, j9, .gone, .gone]) ?_ ⟨ts, t', ⟨_, rfl, rfl⟩, o, pw, ht'.mono (by omega)⟩
      have := tuple_m tieD ts
      simp [mpT, slotOk, this, netD]
  obtain ⟨r, er, ts, t', ⟨Γ', rfl, ho⟩, ot, pw, ht'⟩ := main
  refine ⟨⟨n, es, ts⟩, t', run_ret rfl (by decide) ?_, ⟨by show 1 ≤ n; omega, hn, by show 1 ≤ es.length; omega, by show es.length ≤ 4; omega, he, ot, pw⟩, ht', by show n ≤ p; omega, by show es.length ≤ k; omega⟩
  refine Run.nx (Γ1 := [t1, .c (.int p), .c (.int k), .c (.int n), .gone, .gone, .gone, .gone, .gone, .gone, .gone, .gone]) (by simp [f1, ht.ok, e1, en, -Int.natCast_add]) ?_
  refine Run.nx (Γ1 := [t3, .c (.int p), .c (.int k), .c (.int n), .c (.tuple (es.map nD)), .gone, .gone, .gone, .gone, .gone, .gone, .gone]) (by simp [ee, tuple_m]) ?_
  refine Run.nx (Γ1 := [t4, .c (.int p), .c (.int k), .c (.int n), .c (.tuple (es.map nD)), .c (.int (1 + c)), .gone, .gone, .gone, .gone, .gone, .gone]) (by simp [f1, ht3.ok, e4]) ?_
  refine Run.nx (Γ1 := [t5, .c (.int p), .c (.int k), .c (.int n), .c (.tuple (es.map nD)), .c (.int (1 + c)), .c (.int s), .gone, .gone, .gone, .gone, .gone]) (by simp [f1, ht4.ok, e5]) ?_
  refine Run.nx (Γ1 := [t5, .c (.int p), .c (.int k), .c (.int n), .c (.tuple (es.map nD)), .c (.int (1 + c)), .c (.int s), .l [], .gone, .gone, .gone, .gone]) (by simp) ?_
  exact ⟨_, er, Γ', rfl, ho⟩
end Hp
set_option Elab.async false
set_option linter.all false
set_option maxRecDepth 100000
set_option maxHeartbeats 400000
/-! heaps and comers drawn of the tape; the b-laws' own words -/
namespace Hp
open PySem PySem.Spec PyProof.Rows L2 Hw
def S_lines (ns : List Int) (run : List Tr → Option FR) : Prop := ∀ M t N (far : Int), Tp ns M t → M + 1000 < 2 ^ 39 → OkN N → 1 ≤ far → far ≤ 2000000000 → ∃ h t', run [t, .c (netD N), .c (.int far)] = some (.ok (.c (hD h)) [t', .gone, .gone]) ∧ OkH (far - 1) N h ∧ Tp ns (M + 40) t'
theorem w_lines {F : Genv} {ns : List Int} (h1 : Fn F "_law_b_take" (S_take ns)) : S_lines ns (r_law_b_lines F) := by
  obtain ⟨r1, f1, q1⟩ := h1
  intro M t N far ht hM o far1 far2
  have n8 := o.n8
  have e4 := o.e4
  have lg : far.natAbs.log2 < 9000 := Nat.lt_trans (lg_lt (k := 64) (by omega) (by decide)) (by decide)
  have main : ∃ h t', Run F b_law_b_lines [t, .c (netD N), .c (.int far), .gone, .gone, .gone] (fun r => ∃ Γ, r = .rt (.c (hD h)) Γ ∧ outsOf [true, false, false] Γ = [t', .gone, .gone]) ∧ OkH (far - 1) N h ∧ Tp ns (M + 40) t' := by
    have go : Run F b_law_b_lines [t, .c (netD N), .c (.int far), .gone, .gone, .gone] (fun r => ∃ h t', (∃ Γ, r = .rt (.c (hD h)) Γ ∧ outsOf [true, false, false] Γ = [t', .gone, .gone]) ∧ OkH (far - 1) N h ∧ Tp ns (M + 40) t') := by
      refine Run.nx (Γ1 := [t, .c (netD N), .c (.int far), .l [], .gone, .gone]) (by simp) ?_
      refine Run.forM (c := nD) (xs := N.ends) (Γ1 := [t, .c (netD N), .c (.int far), .l [], .gone, .gone])
        (fun i Γ => ∃ t' h j4, Γ = [t', .c (netD N), .c (.int far), mpT lnD h, j4, .gone] ∧ Tp ns (M + i * 8) t' ∧ h.length = i ∧ ∀ (k e : Nat) l, N.ends[k]? = some e → h[k]? = some l → OkL (far - 1) N.n e l) (by simp [netD, slotOk]) ⟨t, [], _, rfl, ht, rfl, by simp⟩ ?_ ?_
      · rintro i e Γ hi ⟨t', h, j4, rfl, ht', lh, oh⟩
        have hi2 := (List.getElem?_eq_some_iff.mp hi).1
        have he := o.e e (List.mem_of_getElem? hi)
        refine ⟨[t', .c (netD N), .c (.int far), mpT lnD h, .c (.int e), .gone], rfl, ?_⟩
        obtain ⟨Γl, rl, el, t2, l, rfl, ht2, rfl, ll, bl, zl⟩ := lc_inv (F := F) (own := [5]) (tg := .nm 5) (it := .rng1 (.pth 1 [.lit (.int 0)])) (elt := .prim .mul [.e (.call ("_law_b_take" : Str) [.io 0, .e (.var 2)]), .e (.prim (.bi .int) [.e (.prim (.cmp .NotEq) [.pk 5, .pk 4])])]) (cond := [])
          (Γ := [t', .c (netD N), .c (.int far), mpT lnD h, .c (.int e), .gone])
          (fun i' Γ acc => ∃ t'' l, Γ = [t'', .c (netD N), .c (.int far), mpT lnD h, .c (.int e), .gone] ∧ Tp ns (M + i * 8 + i') t'' ∧ acc = (l : List Int).map (fun x => .c (iD x)) ∧ l.length = i' ∧ (∀ x ∈ l, 0 ≤ x ∧ x ≤ far - 1) ∧ (e < i' → l[e]? = some 0))
          (rng1_n (n := N.n) (Γ1 := [t', .c (netD N), .c (.int far), mpT lnD h, .c (.int e), .gone]) (by simp [netD]) (by omega)) ⟨t', [], by simp, ht', rfl, rfl, by simp, by simp⟩
          (by
            rintro i' d Γ acc hd ⟨t'', l, rfl, ht'', rfl, ll, bl, zl⟩
            have hi' := (List.getElem?_eq_some_iff.mp hd).1
            rw [List.length_map, List.length_range] at hi'
            rw [List.getElem?_map, List.getElem?_range hi'] at hd
            cases hd
            obtain ⟨r, t3, e3, ht3, h3⟩ := q1 (M + i * 8 + i') t'' far ht'' (by omega) (by omega) lg
            let x : Int := r * (if (!decide (i' = e)) = true then 1 else 0)
            have hx : (i' = e → x = 0) ∧ (i' ≠ e → x = r) := by
              refine ⟨fun z => ?_, fun z => ?_⟩
              · simp only [x, z, decide_true]; simp
              · simp only [x, decide_eq_false z]; simp
            refine ⟨_, rfl, .inl ⟨_, [t3, .c (netD N), .c (.int far), mpT lnD h, .c (.int e), .c (.int i')], .c (iD x), by rw [evC], ?_, t3, l ++ [x], by simp, ht3.mono (by omega), by simp, by simp [ll], fun y hy => ?_, fun hz => ?_⟩⟩
            · have s1 : sm (r : Int) := sm64 (by omega)
              have m0 := mul_sm s1 (sm64 (i := 0) (by decide))
              have m1 := mul_sm s1 (sm64 (i := 1) (by decide))
              by_cases z : i' = e
              · rw [hx.1 z]
                simp [f1, ht''.ok, e3, iD, z, m0]
              · rw [hx.2 z]
                simp [f1, ht''.ok, e3, iD, z, m1]
            · rcases List.mem_append.mp hy with hy | hy
              · exact bl y hy
              · simp at hy; subst hy
                by_cases z : i' = e
                · rw [hx.1 z]; omega
                · rw [hx.2 z]; omega
            · by_cases z : i' = e
              · rw [List.getElem?_append_right (by omega), ll, ← z, hx.1 z]; simp
              · rw [List.getElem?_append_left (by omega)]; exact zl (by omega)) (sz (by simp; omega))
        rw [List.length_map, List.length_range] at ht2 ll zl
        have hz : h.length < sizeLine := Nat.lt_of_le_of_lt (show h.length ≤ 100 by omega) (by decide)
        refine Run.nx (Γ1 := [t2, .c (netD N), .c (.int far), mpT lnD (h ++ [l]), .c (.int e), .gone]) ?_ (Run.nil ⟨t2, h ++ [l], _, rfl, ht2.mono (by omega), by simp [lh], fun k e' l' h1 h2 => ?_⟩)
        · have tm := tuple_m iD l
          simp [mpT] at el ⊢
          simp [el, tm, hz]
          rfl
        · by_cases hk : k < h.length
          · rw [List.getElem?_append_left hk] at h2
            exact oh k e' l' h1 h2
          · have : k = h.length := by
              have := (List.getElem?_eq_some_iff.mp h2).1
              simp at this; omega
            subst this
            rw [lh, hi] at h1
            simp at h1 h2
            subst h1 h2
            exact ⟨ll, bl, zl he⟩
      · rintro Γ ⟨t', h, j4, rfl, ht', lh, oh⟩
        have tm := tuple_m lnD h
        exact Run.rt (t := .c (hD h)) (Γ1 := [t', .c (netD N), .c (.int far), mpT lnD h, j4, .gone]) (by simp [mpT, slotOk, tm, hD]) ⟨h, t', ⟨_, rfl, rfl⟩, ⟨lh, oh⟩, ht'.mono (by omega)⟩
    obtain ⟨r, e, h, t', q, q2, q3⟩ := go
    exact ⟨h, t', ⟨r, e, q⟩, q2, q3⟩
  obtain ⟨h, t', q, q2, q3⟩ := main
  exact ⟨h, t', run_ret rfl (by decide) q, q2, q3⟩
theorem ix_any {ds : List PyData} {s : Nat} (hs : s < ds.length) : ∃ d ∈ ds, ixEv (.l (ds.map .c)) (.c (.int s)) = some (.c d) := by
  refine ⟨ds[s], List.getElem_mem hs, ?_⟩
  simp only [ixEv, asInt_c]
  rw [asSeq_l (stl_c ds)]
  simp [hs]
def S_heaps (high : Int) (ns : List Int) (run : List Tr → Option FR) : Prop := ∀ M t N, Tp ns M t → M + 2000 < 2 ^ 39 → OkN N → ∃ h t', run [t, .c (netD N)] = some (.ok (.c (hD h)) [t', .gone]) ∧ OkH high N h ∧ Tp ns (M + 50) t'
theorem OkH.up {high high' : Int} {N : Net} {h : List (List Int)} (o : OkH high N h) (l : high ≤ high') : OkH high' N h :=
  ⟨o.len, fun k e l' h1 h2 => let q := o.l k e l' h1 h2; ⟨q.len, fun x hx => ⟨(q.b x hx).1, Int.le_trans (q.b x hx).2 l⟩, q.z⟩⟩
theorem w_heaps {F : Genv} {ns : List Int} (h1 : Fn F "_law_b_take" (S_take ns)) (h2 : Fn F "_law_b_lines" (S_lines ns)) : S_heaps 1000000000 ns (r_law_b_heaps F) := by
  obtain ⟨r1, f1, q1⟩ := h1
  obtain ⟨r2, f2, q2⟩ := h2
  intro M t N ht hM o
  obtain ⟨s, t1, e1, ht1, hs⟩ := q1 M t 5 ht (by omega) (by decide) (by decide)
  obtain ⟨d, hd, e2⟩ := ix_any (ds := [.int 2, .int 4, .int 12, .int 60, .int 1000000001]) (s := s) (by simp; omega)
  have : ∃ far : Int, d = .int far ∧ 1 ≤ far ∧ far ≤ 1000000001 := by
    simp only [List.mem_cons, List.mem_nil_iff, or_false] at hd
    rcases hd with rfl | rfl | rfl | rfl | rfl <;> exact ⟨_, rfl, by decide, by decide⟩
  obtain ⟨far, rfl, a1, a2⟩ := this
  obtain ⟨h, t2, e3, oh, ht2⟩ := q2 (M + 1) t1 N far ht1 (by omega) o a1 (by omega)
  refine ⟨h, t2, run_ret rfl (by decide) (Run.rt (t := .c (hD h)) (Γ1 := [t2, .c (netD N)]) ?_ ⟨_, rfl, rfl⟩), oh.up (by omega), ht2.mono (by omega)⟩
  simp only [List.map_cons, List.map_nil] at e2
  simp [f1, f2, ht.ok, ht1.ok, e1, e2, e3]
theorem w_comers {F : Genv} {ns : List Int} (h1 : Fn F "_law_b_take" (S_take ns)) (h2 : Fn F "_law_b_lines" (S_lines ns)) : S_heaps 9 ns (r_law_b_comers F) := by
  obtain ⟨r1, f1, q1⟩ := h1
  obtain ⟨r2, f2, q2⟩ := h2
  intro M t N ht hM o
  obtain ⟨s, t1, e1, ht1, hs⟩ := q1 M t 4 ht (by omega) (by decide) (by decide)
  obtain ⟨d, hd, e2⟩ := ix_any (ds := [.int 1, .int 2, .int 4, .int 10]) (s := s) (by simp; omega)
  have : ∃ far : Int, d = .int far ∧ 1 ≤ far ∧ far ≤ 10 := by
    simp only [List.mem_cons, List.mem_nil_iff, or_false] at hd
    rcases hd with rfl | rfl | rfl | rfl <;> exact ⟨_, rfl, by decide, by decide⟩
  obtain ⟨far, rfl, a1, a2⟩ := this
  obtain ⟨h, t2, e3, oh, ht2⟩ := q2 (M + 1) t1 N far ht1 (by omega) o a1 (by omega)
  refine ⟨h, t2, run_ret rfl (by decide) (Run.rt (t := .c (hD h)) (Γ1 := [t2, .c (netD N)]) ?_ ⟨_, rfl, rfl⟩), oh.up (by omega), ht2.mono (by omega)⟩
  simp only [List.map_cons, List.map_nil] at e2
  simp [f1, f2, ht.ok, ht1.ok, e1, e2, e3]
/-- alike, shown -/
def S_same (run : List Tr → Option FR) : Prop := ∀ x d, see x = some d → plainR d = true → run [x, .c d] = some (.ok (.c (.bool true)) [x, .gone])
theorem see_ok {x : Tr} {d : PyData} (h : see x = some d) (Γ : List Tr) : slotOk (x :: Γ) 0 = true := by
  cases x with
  | gone => simp [see, frz] at h
  | _ => rfl
theorem w_same (F : Genv) : S_same (r_law_b_same F) := by
  intro x d hx hp
  exact run_ret rfl (by decide) (Run.rt (t := .c (.bool true)) (Γ1 := [x, .c d]) (by simp [see_ok hx, hx, hp]) ⟨_, rfl, rfl⟩)
/-! ### the least kind of the greatest fall -/
def OfferIs (h : List (List Int)) (t : Tie) (n : Nat) : Option Nat → Prop
  | none => ∀ k, k < n → fallA h k t ≤ 0
  | some b => b < n ∧ 0 < fallA h b t ∧ (∀ k, k < n → fallA h k t ≤ fallA h b t) ∧ ∀ k, k < b → fallA h k t < fallA h b t
theorem OfferIs.uniq {h : List (List Int)} {t : Tie} {n : Nat} {o o' : Option Nat} (a : OfferIs h t n o) (b : OfferIs h t n o') : o = o' := by
  cases o with
  | none =>
    cases o' with
    | none => rfl
    | some c => have := a c b.1; have := b.2.1; omega
  | some d =>
    cases o' with
    | none => have := b d a.1; have := a.2.1; omega
    | some c =>
      obtain ⟨a1, a2, a3, a4⟩ := a
      obtain ⟨b1, b2, b3, b4⟩ := b
      rcases Nat.lt_trichotomy d c with z | z | z
      · have := b4 d z; have := a3 c b1; omega
      · rw [z]
      · have := a4 c z; have := b3 d a1; omega
theorem offer_pre (h : List (List Int)) (t : Tie) : ∀ n, OfferIs h t n ((List.range n).foldl (stepO h t) none)
  | 0 => fun k hk => absurd hk (Nat.not_lt_zero _)
  | n + 1 => by
    have ih := offer_pre h t n
    rw [List.range_succ, List.foldl_append]
    show OfferIs h t (n + 1) (stepO h t _ n)
    generalize (List.range n).foldl (stepO h t) none = o at ih
    unfold stepO betterB
    cases o with
    | none =>
      by_cases z : 0 < fallA h n t
      · simp only [z, decide_true, Bool.true_and, if_true]
        refine ⟨Nat.lt_succ_self n, z, fun k hk => ?_, fun k hk => ?_⟩
        · by_cases e : k = n
          · subst e; exact Int.le_refl _
          · have := ih k (by omega); omega
        · have := ih k hk; omega
      · simp only [z, decide_false, Bool.false_and]
        intro k hk
        by_cases e : k = n
        · subst e; omega
        · exact ih k (by omega)
    | some b =>
      obtain ⟨b1, b2, b3, b4⟩ := ih
      by_cases z : 0 < fallA h n t ∧ fallA h b t < fallA h n t
      · simp only [z.1, z.2, decide_true, Bool.true_and, if_true]
        refine ⟨Nat.lt_succ_self n, z.1, fun k hk => ?_, fun k hk => ?_⟩
        · by_cases e : k = n
          · subst e; exact Int.le_refl _
          · have := b3 k (by omega); have := z.2; omega
        · have := b3 k hk; have := z.2; omega
      · have : (decide (0 < fallA h n t) && decide (fallA h b t < fallA h n t)) = false := by
          rw [← Bool.decide_and]; exact decide_eq_false z
        simp only [this]
        refine ⟨by omega, b2, fun k hk => ?_, b4⟩
        by_cases e : k = n
        · subst e; omega
        · exact b3 k (by omega)
theorem offer_is (h : List (List Int)) (t : Tie) : OfferIs h t h.length (offerA h t) := offer_pre h t _
/-! ### the law's own offer -/
theorem max_spec : ∀ (xs : List Int) (x : Int), x ≤ xs.foldl max x ∧ (∀ y ∈ xs, y ≤ xs.foldl max x) ∧ (xs.foldl max x = x ∨ xs.foldl max x ∈ xs)
  | [], x => ⟨Int.le_refl _, by simp, .inl rfl⟩
  | y :: xs, x => by
    obtain ⟨h1, h2, h3⟩ := max_spec xs (max x y)
    simp only [List.foldl_cons]
    refine ⟨by omega, fun z hz => ?_, ?_⟩
    · rcases List.mem_cons.mp hz with rfl | hz
      · omega
      · exact h2 z hz
    · rcases h3 with h3 | h3
      · rw [h3]
        rcases Int.le_total x y with l | l
        · right; rw [Int.max_eq_right l]; exact List.mem_cons_self
        · left; rw [Int.max_eq_left l]
      · exact .inr (List.mem_cons_of_mem _ h3)
theorem idx_spec {fs : List Int} {m : Int} (h : m ∈ fs) : ∃ j, (fs.map iD).findIdx? (fun z => PyData.eqv z (.int m)) = some j ∧ fs[j]? = some m ∧ ∀ k, k < j → fs[k]? ≠ some m := by
  have e : ∀ i : Int, PyData.eqv (iD i) (.int m) = decide (i = m) := fun i => rfl
  rw [List.findIdx?_map]
  cases q : List.findIdx? ((fun z => PyData.eqv z (.int m)) ∘ iD) fs with
  | none =>
    rw [List.findIdx?_eq_none_iff] at q
    have := q m h
    simp [e] at this
  | some j =>
    rw [List.findIdx?_eq_some_iff_getElem] at q
    obtain ⟨h1, h2, h3⟩ := q
    simp only [Function.comp_apply, e, decide_eq_true_eq, Bool.not_eq_true, decide_eq_false_iff_not] at h2 h3
    refine ⟨j, rfl, by rw [List.getElem?_eq_getElem h1, h2], fun k hk z => ?_⟩
    rw [List.getElem?_eq_getElem (by omega)] at z
    exact h3 k hk (by simpa using z)
def fallsA (h : List (List Int)) (t : Tie) : List Int := h.map fun l => (l[t.i]?).getD 0 - (l[t.j]?).getD 0
theorem fallsA_get (h : List (List Int)) (t : Tie) (k : Nat) (hk : k < h.length) : (fallsA h t)[k]? = some (fallA h k t) := by
  unfold fallsA fallA cell
  rw [List.getElem?_map, List.getElem?_eq_getElem hk]
  rfl
def S_law_offer (run : List Tr → Option FR) : Prop := ∀ N h, OkN N → Sh N h → run [.c (netD N), .c (hD h)] = some (.ok (mpT kD (N.ties.map (offerA h))) [.gone, .gone])
theorem w_law_offer (F : Genv) : S_law_offer (r_law_b_offer F) := by
  intro N h o s
  refine run_ret rfl (by decide) ?_
  refine Run.nx (Γ1 := [.c (netD N), .c (hD h), .l [], .gone, .gone, .gone]) (by simp) ?_
  have l64 := o.tlen
  have l4 := o.e4
  have l1 := o.e1
  have sl := s.len
  refine Run.forM (c := tieD) (xs := N.ties) (Γ1 := [.c (netD N), .c (hD h), .l [], .gone, .gone, .gone])
    (fun i Γ => ∃ j1 j2, Γ = [.c (netD N), .c (hD h), mpT kD ((N.ties.take i).map (offerA h)), j1, j2, .gone]) (by simp [netD]) ⟨_, _, rfl⟩ ?_ ?_
  · rintro i t Γ hi ⟨j1, j2, rfl⟩
    have ot := o.t t (List.mem_of_getElem? hi)
    have hl := (List.getElem?_eq_some_iff.mp hi).1
    have hs : i < sizeLine := Nat.lt_of_lt_of_le hl (sz (by omega))
    have hle : i ≤ N.ties.length := by omega
    refine ⟨[.c (netD N), .c (hD h), mpT kD ((N.ties.take i).map (offerA h)), .c (tieD t), j2, .gone], rfl, ?_⟩
    have hlc : ev F (.lc [5] (.nm 5) (.sq (.var 1)) [] (.prim .sub [.e (.pth 5 [.pth 3 [.lit (.int 0)]]), .e (.pth 5 [.pth 3 [.lit (.int 1)]])])) [.c (netD N), .c (hD h), mpT kD ((N.ties.take i).map (offerA h)), .c (tieD t), j2, .gone]
        = some (.ok (.l (h.map fun l => .c (iD ((l[t.i]?).getD 0 - (l[t.j]?).getD 0)))) [.c (netD N), .c (hD h), mpT kD ((N.ties.take i).map (offerA h)), .c (tieD t), j2, .gone]) := by
      refine lc_map (c := lnD) (Γ1 := [.c (netD N), .c (hD h), mpT kD ((N.ties.take i).map (offerA h)), .c (tieD t), j2, .gone]) _ (by simp [hD]) (by simp) (fun l hl => ?_) (sz (by omega))
      refine ⟨_, [.c (netD N), .c (hD h), mpT kD ((N.ties.take i).map (offerA h)), .c (tieD t), j2, .c (lnD l)], rfl, ?_, by simp⟩
      have hn := s.l l hl
      have hi' : t.i < l.length := by have := ot.i; omega
      have hj' : t.j < l.length := by have := ot.j; omega
      have h1 : l[t.i]? = some l[t.i] := List.getElem?_eq_getElem hi'
      have h2 : l[t.j]? = some l[t.j] := List.getElem?_eq_getElem hj'
      simp [lnD, tieD, h1, h2, iD]
    have efs : (h.map fun l => Tr.c (iD ((l[t.i]?).getD 0 - (l[t.j]?).getD 0))) = (fallsA h t).map fun x => .c (iD x) := by simp [fallsA]
    rw [efs] at hlc
    refine Run.nx (Γ1 := [.c (netD N), .c (hD h), mpT kD ((N.ties.take i).map (offerA h)), .c (tieD t), mpT iD (fallsA h t), .gone]) (by simp only [sx1, hlc]; rfl) ?_
    have fl : (fallsA h t).length = h.length := by simp [fallsA]
    have oi := offer_is h t
    generalize eo : offerA h t = of at oi
    obtain ⟨m, hm1, hm2, hm3⟩ : ∃ m, biEv .max1 [mpT iD (fallsA h t)] = some (.c (.int m)) ∧ (∀ y ∈ fallsA h t, y ≤ m) ∧ m ∈ fallsA h t := by
      cases q : fallsA h t with
      | nil => rw [q] at fl; simp at fl; omega
      | cons x xs =>
        obtain ⟨a1, a2, a3⟩ := max_spec xs x
        refine ⟨xs.foldl max x, ?_, fun y hy => ?_, ?_⟩
        · have := intsOf_map (fun x : Int => x) (x :: xs)
          simp only [biEv, mpT_stl]
          have e : (x :: xs).map iD = (x :: xs).map fun x => PyData.int x := rfl
          rw [e, this]
          simp
        · rcases List.mem_cons.mp hy with rfl | hy
          · exact a1
          · exact a2 y hy
        · rcases a3 with a3 | a3
          · rw [a3]; exact List.mem_cons_self
          · exact List.mem_cons_of_mem _ a3
    have flatA : ((fallsA h t).map iD).all flatD = true := by
      rw [List.all_eq_true]; intro x hx; obtain ⟨y, _, rfl⟩ := List.mem_map.mp hx; rfl
    obtain ⟨j, hj1, hj2, hj3⟩ := idx_spec hm3
    have jl : j < h.length := by have := (List.getElem?_eq_some_iff.mp hj2).1; omega
    have ej := fallsA_get h t j jl
    rw [ej] at hj2
    have hj2 : fallA h j t = m := by simpa using hj2
    have key : of = if 0 < m then some j else none := by
      refine oi.uniq ?_
      split
      · rename_i z
        refine ⟨jl, by omega, fun k hk => ?_, fun k hk => ?_⟩
        · have := hm2 _ (List.mem_of_getElem? (fallsA_get h t k hk)); omega
        · have g := fallsA_get h t k (by omega)
          have := hm2 _ (List.mem_of_getElem? g)
          have := hj3 k hk
          rw [g] at this
          have : fallA h k t ≠ m := fun z => this (by rw [z])
          omega
      · intro k hk
        have := hm2 _ (List.mem_of_getElem? (fallsA_get h t k hk)); omega
    refine Run.nx (Γ1 := [.c (netD N), .c (hD h), mpT kD ((N.ties.take (i + 1)).map (offerA h)), .c (tieD t), mpT iD (fallsA h t), .gone]) ?_ (Run.nil ⟨_, _, rfl⟩)
    have hps : ∀ a b c d Γ, slotOk (a :: b :: c :: d :: mpT iD (fallsA h t) :: Γ) 4 = true := fun _ _ _ _ _ => rfl
    rw [take_map hi, eo, key]
    have mp : ∀ xs : List (Option Nat), mpT kD xs = .l (xs.map fun x => .c (kD x)) := fun _ => rfl
    rw [mp, mp]
    by_cases z : 0 < m
    · simp [hps, hm1, z, hj1, flatA, hs, hle, Nat.min_eq_left hle]
    · simp [hps, hm1, z, hs, hle, Nat.min_eq_left hle]
  · rintro Γ ⟨j1, j2, rfl⟩
    rw [List.take_length]
    exact Run.rt (t := mpT kD (N.ties.map (offerA h))) (Γ1 := [.c (netD N), .c (hD h), .gone, j1, j2, .gone]) (by simp [mpT]) ⟨_, rfl, rfl⟩
end Hp
namespace Hp
open PySem PySem.Spec PyProof.Rows L2 Hw
theorem ne_ties (N : Net) (o : OkN N) : cmpEv .NotEq (.c (.tuple (N.ties.map tieD))) (.c (.tuple [])) = some (!N.ties.isEmpty) := by
  have n8 := o.n8
  have p1 : plainD (.tuple (N.ties.map tieD)) = true := (CD.tuple (k := 1) fun d hd => by obtain ⟨t, ht, rfl⟩ := List.mem_map.mp hd; exact (PD.tie n8 (o.t t ht)).toCD).plain (by decide)
  rw [ne_see (d := .tuple (N.ties.map tieD)) (e := .tuple []) (by simp) (by simp) rfl p1 rfl]
  cases N.ties <;> rfl
theorem frz_m {α : Type} (h : α → PyData) (xs : List α) : frz (.l (xs.map fun x => .c (h x))) = some (.list (xs.map h)) := mpT_frz h xs
/-- a script's head: the tape as it is begun -/
theorem Tp.start (ns : List Int) : Tp ns 0 (.l [.s ns, .c (.int 0), .c (.int 0)]) := ⟨0, 0, rfl, Nat.le_refl _, Int.le_refl _⟩
end Hp
set_option Elab.async false
set_option linter.all false
set_option maxRecDepth 100000
set_option maxHeartbeats 400000
/-! squares, weights, rises -/
namespace Hp
open PySem PySem.Spec PyProof.Rows L2 Hw
theorem zip_is {α β : Type} (f : α → PyData) (g : β → PyData) (xs : List α) (ys : List β) : ((xs.map f).zip (ys.map g)).map (fun p => PyData.tuple [p.1, p.2]) = (xs.zip ys).map fun p => .tuple [f p.1, g p.2] := by
  rw [List.zip_map, List.map_map]; rfl
theorem it_zip {F : Genv} {a b : CE} {Γ Γ1 Γ2 : List Tr} {ta tb : Tr} {da db : PyData} {xs ys : List PyData} (h1 : ev F a Γ = some (.ok ta Γ1)) (h2 : ev F b Γ1 = some (.ok tb Γ2)) (fa : frz ta = some da) (fb : frz tb = some db) (sa : seqD da = some xs) (sb : seqD db = some ys) :
    evIt F (.zip [.e a, .e b]) Γ = some (.ok ((xs.zip ys).map fun p => .tuple [p.1, p.2]) Γ2) := by
  simp [h1, h2, fa, fb, sa, sb]
@[simp] theorem seqD_t (ds : List PyData) : seqD (.tuple ds) = some ds := rfl
@[simp] theorem seqD_l (ds : List PyData) : seqD (.list ds) = some ds := rfl
theorem eq_k (o : Option Nat) (k : Nat) : cmpEv .Eq (.c (kD o)) (.c (.int k)) = some (decide (o = some k)) := by
  cases o with
  | none => rfl
  | some b => simp
theorem sum_le {α : Type} {f : α → Int} {b : Int} : ∀ {xs : List α}, (∀ x ∈ xs, 0 ≤ f x ∧ f x ≤ b) → 0 ≤ (xs.map f).sum ∧ (xs.map f).sum ≤ b * xs.length
  | [], _ => by simp
  | x :: xs, h => by
    have h1 := h x List.mem_cons_self
    have h2 := sum_le (f := f) (b := b) (xs := xs) fun y hy => h y (List.mem_cons_of_mem _ hy)
    simp only [List.map_cons, List.sum_cons, List.length_cons]
    have : b * ((xs.length + 1 : Nat) : Int) = b * xs.length + b := by rw [Int.natCast_add, Int.mul_add]; simp
    omega
/-! ### squares -/
def sqL (l : List Int) : Int := (l.map fun x => x * x).sum
def sqH (h : List (List Int)) : Int := (h.map sqL).sum
structure Smh (h : List (List Int)) : Prop where
  len : h.length ≤ 1000
  l : ∀ l ∈ h, l.length ≤ 1000
  b : ∀ l ∈ h, ∀ x ∈ l, sm x
theorem Sh.smh {N : Net} {h : List (List Int)} (o : OkN N) (s : Sh N h) (b : ∀ l ∈ h, ∀ x ∈ l, x.natAbs < 2 ^ 64) : Smh h := by
  have := o.n8; have := o.e4; have := s.len
  exact ⟨by omega, fun l hl => by have := s.l l hl; omega, fun l hl x hx => sm64 (b l hl x hx)⟩
def S_squares_of (run : List Tr → Option FR) : Prop := ∀ h, Smh h → run [.c (hD h)] = some (.ok (.c (.int (sqH h))) [.gone])
theorem w_squares_of (F : Genv) : S_squares_of (r_squares_of F) := by
  intro h s
  have hlc : ev F (.lc [1] (.nm 1) (.sq (.var 0)) [] (.prim (.bi .sum) [.e (.lc [2] (.nm 2) (.sq (.var 1)) [] (.prim .mul [.pk 2, .pk 2]))])) [.c (hD h), .gone, .gone]
      = some (.ok (.l (h.map fun l => .c (.int (sqL l)))) [.c (hD h), .gone, .gone]) := by
    refine lc_map (c := lnD) (Γ1 := [.c (hD h), .gone, .gone]) _ (by simp [hD]) (by simp) (fun l hl => ?_) (sz (by have := s.len; omega))
    have inner : ev F (.lc [2] (.nm 2) (.sq (.var 1)) [] (.prim .mul [.pk 2, .pk 2])) [.c (hD h), .c (lnD l), .gone] = some (.ok (.l (l.map fun x => .c (.int (x * x)))) [.c (hD h), .c (lnD l), .gone]) := by
      refine lc_map (c := iD) (Γ1 := [.c (hD h), .c (lnD l), .gone]) _ (by simp [lnD]) (by simp) (fun x hx => ?_) (sz (by have := s.l l hl; omega))
      exact ⟨_, [.c (hD h), .c (lnD l), .c (iD x)], rfl, by simp [iD, mul_sm (s.b l hl x hx) (s.b l hl x hx)], by simp⟩
    exact ⟨_, [.c (hD h), .c (lnD l), .gone], rfl, by simp [inner, sum_m, sqL], by simp⟩
  exact run_ret rfl (by decide) (Run.rt (t := .c (.int (sqH h))) (Γ1 := [.c (hD h), .gone, .gone]) (by simp [hlc, sum_m, sqH]) ⟨_, rfl, rfl⟩)
def S_squares (run : List Tr → Option FR) : Prop := ∀ N h, OkN N → OkH 1000000000 N h → run [.c (netD N), .c (hD h)] = some (.ok (.c (.int (sqH h))) [.gone, .gone])
theorem w_squares {F : Genv} (h1 : Fn F "need_net" S_need_net) (h2 : Fn F "need_heaps" (S_need_lines 1000000000 "NoHeaps")) (h3 : Fn F "squares_of" S_squares_of) : S_squares (r_squares F) := by
  obtain ⟨r1, f1, q1⟩ := h1
  obtain ⟨r2, f2, q2⟩ := h2
  obtain ⟨r3, f3, q3⟩ := h3
  intro N h o oh
  refine run_ret rfl (by decide) ?_
  refine Run.nx (Γ1 := [.c (netD N), .c (hD h)]) (by simp [f1, q1.1 N o]) ?_
  refine Run.nx (Γ1 := [.c (netD N), .c (hD h)]) (by simp [f2, q2.1 N h o oh]) ?_
  exact Run.rt (t := .c (.int (sqH h))) (Γ1 := [.c (netD N), .c (hD h)]) (by simp [f3, q3 h (oh.sh.smh o (oh.b64 (by decide)))]) ⟨_, rfl, rfl⟩
def S_law_squares (run : List Tr → Option FR) : Prop := ∀ h, Smh h → run [.c (hD h)] = some (.ok (.c (.int (sqH h))) [.gone])
theorem w_law_squares (F : Genv) : S_law_squares (r_law_b_squares F) := by
  intro h s
  refine run_ret rfl (by decide) ?_
  refine Run.nx (Γ1 := [.c (hD h), .c (.int 0), .gone, .gone]) (by simp) ?_
  refine Run.forM (c := lnD) (xs := h) (Γ1 := [.c (hD h), .c (.int 0), .gone, .gone]) (fun i Γ => ∃ j2 j3, Γ = [.c (hD h), .c (.int ((h.take i).map sqL).sum), j2, j3]) (by simp [hD]) ⟨_, _, rfl⟩ ?_ ?_
  · rintro i l Γ hi ⟨j2, j3, rfl⟩
    have hl := List.mem_of_getElem? hi
    refine ⟨[.c (hD h), .c (.int ((h.take i).map sqL).sum), .c (lnD l), j3], rfl, ?_⟩
    refine Run.forM (c := iD) (xs := l) (Γ1 := [.c (hD h), .c (.int ((h.take i).map sqL).sum), .c (lnD l), j3]) (fun k Γ => ∃ j3, Γ = [.c (hD h), .c (.int (((h.take i).map sqL).sum + ((l.take k).map fun x => x * x).sum)), .c (lnD l), j3]) (by simp [lnD]) ⟨j3, by simp⟩ ?_ ?_
    · rintro k x Γ hk ⟨j3, rfl⟩
      have sx := s.b l hl x (List.mem_of_getElem? hk)
      refine ⟨[.c (hD h), .c (.int (((h.take i).map sqL).sum + ((l.take k).map fun x => x * x).sum)), .c (lnD l), .c (iD x)], rfl, ?_⟩
      refine Run.nx (Γ1 := [.c (hD h), .c (.int (((h.take i).map sqL).sum + ((l.take (k + 1)).map fun x => x * x).sum)), .c (lnD l), .c (iD x)]) ?_ (Run.nil ⟨_, rfl⟩)
      rw [take_sum hk]
      generalize ((l.take k).map fun x => x * x).sum = a
      generalize ((h.take i).map sqL).sum = b
      simp [iD, mul_sm sx sx, Int.add_assoc]
    · rintro Γ ⟨j3, rfl⟩
      rw [List.take_length]
      refine Run.nil ⟨.c (lnD l), j3, ?_⟩
      rw [take_sum hi]; rfl
  · rintro Γ ⟨j2, j3, rfl⟩
    rw [List.take_length]
    exact Run.rt (t := .c (.int (sqH h))) (Γ1 := [.c (hD h), .gone, j2, j3]) (by simp [sqH]) ⟨_, rfl, rfl⟩
/-! ### offers of anybody -/
structure OkO (N : Net) (os : List (Option Nat)) : Prop where
  len : os.length = N.ties.length
  k : ∀ b, some b ∈ os → b < N.ends.length
def osD (os : List (Option Nat)) : PyData := .list (os.map kD)
theorem OkO.of {N : Net} {h : List (List Int)} (s : Sh N h) : OkO N (N.ties.map (offerA h)) := ⟨by simp, fun b hb => by
  obtain ⟨t, _, e⟩ := List.mem_map.mp hb
  have oi := offer_is h t
  rw [e] at oi
  have := oi.1; have := s.len; omega⟩
theorem PD.os {N : Net} {os : List (Option Nat)} (o : OkN N) (oo : OkO N os) : PD 1 4700 (osD os) := by
  refine (PD.list (k := 0) (s := 70) (n := 64) (fun d hd => ?_) (by rw [List.length_map, oo.len]; exact o.tlen)).mono (by decide) (by decide)
  obtain ⟨k, hk, rfl⟩ := List.mem_map.mp hd
  cases k with
  | none => exact PD.none
  | some b => have := oo.k b hk; have := o.e4; exact PD.int (by omega)
def S_is_offer (run : List Tr → Option FR) : Prop := ∀ N os, OkN N → OkO N os → run [.c (netD N), .c (osD os)] = some (.ok (.c (.bool true)) [.gone, .gone])
theorem w_is_offer {F : Genv} (h1 : Fn F "is_number" S_is_number) : S_is_offer (r_is_offer F) := by
  obtain ⟨r1, f1, q1⟩ := h1
  intro N os o oo
  have ol := oo.len
  have l64 := o.tlen
  refine run_ret rfl (by decide) ?_
  refine Run.skip (Γ1 := [.c (netD N), .c (osD os), .gone]) (by simp [osD, isLst, netD, ol]) ?_
  have hlc : ev F (.lc [2] (.nm 2) (.sq (.var 1)) [] (.or_ (.prim (.cmp .Is) [.pk 2, .e (.lit .none)]) (.call ("is_number" : Str) [.e (.var 2), .e (.lit (.int 0)), .e (.prim .sub [.e (.prim (.bi .len) [.e (.pth 0 [.lit (.int 1)])]), .e (.lit (.int 1))])]))) [.c (netD N), .c (osD os), .gone]
      = some (.ok (.l (os.map fun _ => .c (.bool true))) [.c (netD N), .c (osD os), .gone]) := by
    refine lc_map (c := kD) (Γ1 := [.c (netD N), .c (osD os), .gone]) _ (by simp [osD]) (by simp) (fun k hk => ?_) (sz (by omega))
    refine ⟨_, [.c (netD N), .c (osD os), .c (kD k)], rfl, ?_, by simp⟩
    cases k with
    | none => simp
    | some b =>
      have hb := oo.k b hk
      have e := q1 (.int (b : Nat)) 0 ((N.ends.length : Int) - 1)
      have e2 : isNum (.int (b : Int)) 0 ((N.ends.length : Int) - 1) = true := by simp; omega
      rw [e2] at e
      simp [netD, f1, e]
  exact Run.rt (t := .c (.bool true)) (Γ1 := [.c (netD N), .c (osD os), .gone]) (by simp [hlc, all_m]) ⟨_, rfl, rfl⟩
def wtA (h : List (List Int)) (p : Tie × Option Nat) : Int := match p.2 with
  | none => 0
  | some k => p.1.m * fallA h k p.1
def weightA (N : Net) (h : List (List Int)) (os : List (Option Nat)) : Int := ((N.ties.zip os).map (wtA h)).sum
theorem sm_fall {N : Net} {h : List (List Int)} (s : Sh N h) (b : ∀ l ∈ h, ∀ x ∈ l, x.natAbs < 2 ^ 62) {k : Nat} (hk : k < N.ends.length) {t : Tie} (o : OkT N.n t) : (fallA h k t).natAbs < 2 ^ 64 := by
  obtain ⟨l, g1, g2, gl⟩ := s.get hk o.i
  obtain ⟨l', g3, g4, gl'⟩ := s.get hk o.j
  have h1 := b l gl _ (List.mem_of_getElem? g2)
  have h2 := b l' gl' _ (List.mem_of_getElem? g4)
  unfold fallA
  omega
def S_weight_of (run : List Tr → Option FR) : Prop := ∀ N h os, OkN N → Sh N h → (∀ l ∈ h, ∀ x ∈ l, x.natAbs < 2 ^ 62) → OkO N os → run [.c (netD N), .c (hD h), .c (osD os)] = some (.ok (.c (.int (weightA N h os))) [.gone, .gone, .gone])
theorem w_weight_of {F : Genv} (h1 : Fn F "fall_along" S_fall_along) : S_weight_of (r_weight_of F) := by
  obtain ⟨r1, f1, q1⟩ := h1
  intro N h os o s b oo
  refine run_ret rfl (by decide) ?_
  refine Run.nx (Γ1 := [.c (netD N), .c (hD h), .c (osD os), .c (.int 0), .gone, .gone]) (by simp) ?_
  refine Run.forM (c := fun p : Tie × Option Nat => .tuple [tieD p.1, kD p.2]) (xs := N.ties.zip os) (Γ1 := [.c (netD N), .c (hD h), .c (osD os), .c (.int 0), .gone, .gone])
    (fun i Γ => ∃ j4 j5, Γ = [.c (netD N), .c (hD h), .c (osD os), .c (.int (((N.ties.zip os).take i).map (wtA h)).sum), j4, j5]) ?_ ⟨_, _, rfl⟩ ?_ ?_
  · rw [← zip_is]
    exact it_zip (ta := .c (.tuple (N.ties.map tieD))) (tb := .c (osD os)) (Γ1 := [.c (netD N), .c (hD h), .c (osD os), .c (.int 0), .gone, .gone]) (by simp [netD]) (by simp) rfl rfl rfl rfl
  · rintro i ⟨t, k⟩ Γ hi ⟨j4, j5, rfl⟩
    have hm := List.of_mem_zip (List.mem_of_getElem? hi)
    have ot := o.t t hm.1
    refine ⟨[.c (netD N), .c (hD h), .c (osD os), .c (.int (((N.ties.zip os).take i).map (wtA h)).sum), .c (tieD t), .c (kD k)], by simp, ?_⟩
    rw [take_sum hi]
    generalize (((N.ties.zip os).take i).map (wtA h)).sum = a
    cases k with
    | none =>
      refine Run.skip (Γ1 := [.c (netD N), .c (hD h), .c (osD os), .c (.int a), .c (tieD t), .c (kD none)]) (by simp) (Run.nil ⟨_, _, by rw [show a + wtA h (t, none) = a by simp [wtA]]⟩)
    | some k =>
      have hk := oo.k k hm.2
      have e := q1 N h k t s hk ot
      have m := mul_sm (i := t.m) (sm64 (by have := ot.lo; have := ot.hi; omega)) (sm64 (sm_fall s b hk ot))
      refine Run.iteT (Γ1 := [.c (netD N), .c (hD h), .c (osD os), .c (.int a), .c (tieD t), .c (kD (some k))]) (by simp) ?_
      refine Run.nx (Γ1 := [.c (netD N), .c (hD h), .c (osD os), .c (.int (a + wtA h (t, some k))), .c (tieD t), .c (kD (some k))]) ?_ (Run.nil (Run.nil ⟨_, _, rfl⟩))
      simp [tieD] at e ⊢
      simp [f1, e, m, wtA]
  · rintro Γ ⟨j4, j5, rfl⟩
    rw [List.take_length]
    exact Run.rt (t := .c (.int (weightA N h os))) (Γ1 := [.c (netD N), .c (hD h), .c (osD os), .gone, j4, j5]) (by simp [weightA]) ⟨_, rfl, rfl⟩
def S_weight (run : List Tr → Option FR) : Prop := ∀ N h os, OkN N → OkH 1000000000 N h → OkO N os → run [.c (netD N), .c (hD h), .c (osD os)] = some (.ok (.c (.int (weightA N h os))) [.gone, .gone, .gone])
theorem OkH.b62 {high : Int} {N : Net} {h : List (List Int)} (o : OkH high N h) (hh : high ≤ 1000000000) : ∀ l ∈ h, ∀ x ∈ l, x.natAbs < 2 ^ 62 := fun l hl x hx => by
  have := o.b l hl x hx
  omega
theorem w_weight {F : Genv} (h1 : Fn F "need_net" S_need_net) (h2 : Fn F "need_heaps" (S_need_lines 1000000000 "NoHeaps")) (h3 : Fn F "is_offer" S_is_offer) (h4 : Fn F "weight_of" S_weight_of) : S_weight (r_weight F) := by
  obtain ⟨r1, f1, q1⟩ := h1
  obtain ⟨r2, f2, q2⟩ := h2
  obtain ⟨r3, f3, q3⟩ := h3
  obtain ⟨r4, f4, q4⟩ := h4
  intro N h os o oh oo
  refine run_ret rfl (by decide) ?_
  refine Run.nx (Γ1 := [.c (netD N), .c (hD h), .c (osD os)]) (by simp [f1, q1.1 N o]) ?_
  refine Run.nx (Γ1 := [.c (netD N), .c (hD h), .c (osD os)]) (by simp [f2, q2.1 N h o oh]) ?_
  refine Run.skip (Γ1 := [.c (netD N), .c (hD h), .c (osD os)]) (by simp [f3, q3 N os o oo]) ?_
  exact Run.rt (t := .c (.int (weightA N h os))) (Γ1 := [.c (netD N), .c (hD h), .c (osD os)]) (by simp [f4, q4 N h os o oh.sh (oh.b62 (by decide)) oo]) ⟨_, rfl, rfl⟩
def S_law_weight (run : List Tr → Option FR) : Prop := ∀ N h os, OkN N → Sh N h → (∀ l ∈ h, ∀ x ∈ l, x.natAbs < 2 ^ 62) → OkO N os → run [.c (netD N), .c (hD h), .c (osD os)] = some (.ok (.c (.int (weightA N h os))) [.gone, .gone, .gone])
theorem w_law_weight (F : Genv) : S_law_weight (r_law_b_weight F) := by
  intro N h os o s b oo
  refine run_ret rfl (by decide) ?_
  refine Run.nx (Γ1 := [.c (netD N), .c (hD h), .c (osD os), .c (.int 0), .gone, .gone, .gone]) (by simp) ?_
  refine Run.forM (c := fun p : Tie × Option Nat => .tuple [tieD p.1, kD p.2]) (xs := N.ties.zip os) (Γ1 := [.c (netD N), .c (hD h), .c (osD os), .c (.int 0), .gone, .gone, .gone])
    (fun i Γ => ∃ j4 j5 j6, Γ = [.c (netD N), .c (hD h), .c (osD os), .c (.int (((N.ties.zip os).take i).map (wtA h)).sum), j4, j5, j6]) ?_ ⟨_, _, _, rfl⟩ ?_ ?_
  · rw [← zip_is]
    exact it_zip (ta := .c (.tuple (N.ties.map tieD))) (tb := .c (osD os)) (Γ1 := [.c (netD N), .c (hD h), .c (osD os), .c (.int 0), .gone, .gone, .gone]) (by simp [netD]) (by simp) rfl rfl rfl rfl
  · rintro i ⟨t, k⟩ Γ hi ⟨j4, j5, j6, rfl⟩
    have hm := List.of_mem_zip (List.mem_of_getElem? hi)
    have ot := o.t t hm.1
    refine ⟨[.c (netD N), .c (hD h), .c (osD os), .c (.int (((N.ties.zip os).take i).map (wtA h)).sum), .c (tieD t), .c (kD k), j6], by simp, ?_⟩
    rw [take_sum hi]
    generalize (((N.ties.zip os).take i).map (wtA h)).sum = a
    cases k with
    | none =>
      refine Run.skip (Γ1 := [.c (netD N), .c (hD h), .c (osD os), .c (.int a), .c (tieD t), .c (kD none), j6]) (by simp) (Run.nil ⟨_, _, _, by rw [show a + wtA h (t, none) = a by simp [wtA]]⟩)
    | some k =>
      have hk := oo.k k hm.2
      obtain ⟨l, g1, g2, gl⟩ := s.get hk ot.i
      obtain ⟨l', g3, g4, gl'⟩ := s.get hk ot.j
      rw [g1] at g3; cases g3
      have m := mul_sm (i := t.m) (sm64 (by have := ot.lo; have := ot.hi; omega)) (sm64 (sm_fall s b hk ot))
      refine Run.iteT (Γ1 := [.c (netD N), .c (hD h), .c (osD os), .c (.int a), .c (tieD t), .c (kD (some k)), j6]) (by simp) ?_
      refine Run.nx (Γ1 := [.c (netD N), .c (hD h), .c (osD os), .c (.int a), .c (tieD t), .c (kD (some k)), .c (lnD l)]) (by simp [hD, g1]) ?_
      refine Run.nx (Γ1 := [.c (netD N), .c (hD h), .c (osD os), .c (.int (a + wtA h (t, some k))), .c (tieD t), .c (kD (some k)), .c (lnD l)]) ?_ (Run.nil (Run.nil ⟨_, _, _, rfl⟩))
      unfold fallA at m
      simp [tieD, lnD, iD, g2, g4, m, wtA, fallA]
  · rintro Γ ⟨j4, j5, j6, rfl⟩
    rw [List.take_length]
    exact Run.rt (t := .c (.int (weightA N h os))) (Γ1 := [.c (netD N), .c (hD h), .c (osD os), .gone, j4, j5, j6]) (by simp [weightA]) ⟨_, rfl, rfl⟩
end Hp
set_option Elab.async false
set_option linter.all false
set_option maxRecDepth 100000
set_option maxHeartbeats 400000
/-! by how much squares rise -/
namespace Hp
open PySem PySem.Spec PyProof.Rows L2 Hw
def endp (side : Bool) (t : Tie) : Nat := if side then t.j else t.i
def sideI (side : Bool) : Int := if side then 1 else 0
def offeredA (N : Net) (os : List (Option Nat)) (kind place : Nat) (side : Bool) : Int :=
  (((N.ties.zip os).filter fun p => decide (endp side p.1 = place) && decide (p.2 = some kind)).map fun p => p.1.m).sum
theorem filter_sum {α : Type} {f : α → Int} {p : α → Bool} {b : Int} {n : Nat} {xs : List α} (h : ∀ x ∈ xs, 0 ≤ f x ∧ f x ≤ b) (hb : 0 ≤ b) (hl : xs.length ≤ n) : 0 ≤ ((xs.filter p).map f).sum ∧ ((xs.filter p).map f).sum ≤ b * n := by
  have h1 := sum_le (f := f) (b := b) (xs := xs.filter p) fun x hx => h x (List.mem_filter.mp hx).1
  have h2 : (xs.filter p).length ≤ xs.length := List.length_filter_le ..
  refine ⟨h1.1, Int.le_trans h1.2 (Int.mul_le_mul_of_nonneg_left (by omega) hb)⟩
theorem offeredA_b {N : Net} (o : OkN N) (os : List (Option Nat)) (kind place : Nat) (side : Bool) : 0 ≤ offeredA N os kind place side ∧ offeredA N os kind place side ≤ 576 := by
  have := filter_sum (f := fun p : Tie × Option Nat => p.1.m) (p := fun p => decide (endp side p.1 = place) && decide (p.2 = some kind)) (b := 9) (n := 64) (xs := N.ties.zip os) (fun x hx => by
    have ot := o.t x.1 (List.of_mem_zip (a := x.1) (b := x.2) hx).1
    have := ot.lo; have := ot.hi; omega) (by decide) (by rw [List.length_zip]; have := o.tlen; omega)
  exact ⟨this.1, Int.le_trans this.2 (by decide)⟩
def S_offered_at (run : List Tr → Option FR) : Prop := ∀ N os (kind place : Nat) (side : Bool), OkN N → run [.c (netD N), .c (osD os), .c (.int kind), .c (.int place), .c (.int (sideI side))] = some (.ok (.c (.int (offeredA N os kind place side))) [.gone, .gone, .gone, .gone, .gone])
theorem w_offered_at (F : Genv) : S_offered_at (r_offered_at F) := by
  intro N os kind place side o
  have hlc : ev F (.lc [5, 6] (.tp [5, 6]) (.zip [.e (.pth 0 [.lit (.int 2)]), .e (.var 1)]) [.and_ (.e (.prim (.cmp .Eq) [.e (.pth 5 [.var 4]), .pk 3])) (.e (.prim (.cmp .Eq) [.pk 6, .pk 2]))] (.pth 5 [.lit (.int 2)])) [.c (netD N), .c (osD os), .c (.int kind), .c (.int place), .c (.int (sideI side)), .gone, .gone]
      = some (.ok (.l (((N.ties.zip os).filter fun p => decide (endp side p.1 = place) && decide (p.2 = some kind)).map fun p => .c (.int p.1.m))) [.c (netD N), .c (osD os), .c (.int kind), .c (.int place), .c (.int (sideI side)), .gone, .gone]) := by
    refine lc_fil (c := fun p : Tie × Option Nat => .tuple [tieD p.1, kD p.2]) (Γ1 := [.c (netD N), .c (osD os), .c (.int kind), .c (.int place), .c (.int (sideI side)), .gone, .gone]) _ _ ?_ (by simp) (fun p hp => ?_) (sz (by rw [List.length_zip]; have := o.tlen; omega))
    · rw [← zip_is]
      exact it_zip (ta := .c (.tuple (N.ties.map tieD))) (tb := .c (osD os)) (Γ1 := [.c (netD N), .c (osD os), .c (.int kind), .c (.int place), .c (.int (sideI side)), .gone, .gone]) (by simp [netD]) (by simp) rfl rfl rfl rfl
    · refine ⟨_, [.c (netD N), .c (osD os), .c (.int kind), .c (.int place), .c (.int (sideI side)), .c (tieD p.1), .c (kD p.2)], by simp; rfl, ?_, by simp, fun h => ⟨[.c (netD N), .c (osD os), .c (.int kind), .c (.int place), .c (.int (sideI side)), .c (tieD p.1), .c (kD p.2)], by simp [tieD], by simp⟩⟩
      cases side with
      | false => by_cases z : p.1.i = place <;> simp [sideI, endp, tieD, z, eq_k]
      | true => by_cases z : p.1.j = place <;> simp [sideI, endp, tieD, z, eq_k]
  exact run_ret rfl (by decide) (Run.rt (t := .c (.int (offeredA N os kind place side))) (Γ1 := [.c (netD N), .c (osD os), .c (.int kind), .c (.int place), .c (.int (sideI side)), .gone, .gone]) (by
    have sm := sum_m (fun p : Tie × Option Nat => p.1.m) ((N.ties.zip os).filter fun p => decide (endp side p.1 = place) && decide (p.2 = some kind))
    simp [hlc, sm, offeredA]) ⟨_, rfl, rfl⟩)
def placesOf (n e : Nat) : List Nat := (List.range n).filter fun p => !decide (p = e)
/-- [one for one in range(net[0]) if one != end] -/
theorem ev_places {F : Genv} {Γ Γ' : List Tr} {n e s u : Nat} {rg : CE} (hn : n ≤ 1000) (h1 : ev F rg Γ = some (.ok (.c (.int (n : Nat))) Γ)) (h0 : wipeT Γ [s] = Γ) (hs : s < Γ.length) (hu : s ≠ u) (he : Γ[u]? = some (.c (.int (e : Nat)))) :
    ev F (.lc [s] (.nm s) (.rng1 rg) [.e (.prim (.cmp .NotEq) [.pk s, .pk u])] (.var s)) Γ = some (.ok (mpT nD (placesOf n e)) Γ) := by
  refine (lc_fil (c := nD) (xs := List.range n) (Γ1 := Γ) (Γ0 := Γ) (fun p => !decide (p = e)) (fun p => .c (nD p)) (rng1_n h1 (by omega)) h0 (fun p hp => ?_) (sz (by simp; omega))).trans rfl
  have hl : s < (Γ.set s (.c (nD p))).length := by rw [List.length_set]; exact hs
  have g1 : (Γ.set s (.c (nD p)))[s]? = some (.c (.int (p : Nat))) := List.getElem?_set_self hs
  have g2 : (Γ.set s (.c (nD p)))[u]? = some (.c (.int (e : Nat))) := by rw [List.getElem?_set_ne hu]; exact he
  have o1 : slotOk (Γ.set s (.c (nD p))) s = true := by unfold slotOk; rw [g1]
  have o2 : slotOk (Γ.set s (.c (nD p))) u = true := by unfold slotOk; rw [g2]
  have w : wipeT (Γ.set s (.c (nD p))) [s] = Γ := by
    simp only [wipe1, wipe0] at h0 ⊢
    rw [List.set_set]; exact h0
  refine ⟨Γ.set s (.c (nD p)), Γ.set s (.c (nD p)), rfl, ?_, w, fun _ => ⟨Γ.set s (.c (nD p)), by simp [g1]; rfl, w⟩⟩
  simp only [nD] at *
  simp [o1, o2, g1, g2]
theorem ev_places' {F : Genv} {Γ : List Tr} {n e s u : Nat} {rg : CE} (hn : n ≤ 1000) (h1 : ev F rg Γ = some (.ok (.c (.int (n : Nat))) Γ)) (hs : s < Γ.length) (hu : s ≠ u) (he : Γ[u]? = some (.c (.int (e : Nat)))) :
    ev F (.lc [s] (.nm s) (.rng1 rg) [.e (.prim (.cmp .NotEq) [.pk s, .pk u])] (.var s)) Γ = some (.ok (mpT nD (placesOf n e)) (Γ.set s .gone)) := by
  refine (lc_fil (c := nD) (xs := List.range n) (Γ1 := Γ) (Γ0 := Γ.set s .gone) (fun p => !decide (p = e)) (fun p => .c (nD p)) (rng1_n h1 (by omega)) rfl (fun p hp => ?_) (sz (by simp; omega))).trans rfl
  have g1 : ((Γ.set s .gone).set s (.c (nD p)))[s]? = some (.c (.int (p : Nat))) := List.getElem?_set_self (by rw [List.length_set]; exact hs)
  have g2 : ((Γ.set s .gone).set s (.c (nD p)))[u]? = some (.c (.int (e : Nat))) := by rw [List.getElem?_set_ne hu, List.getElem?_set_ne hu]; exact he
  have o1 : slotOk ((Γ.set s .gone).set s (.c (nD p))) s = true := by unfold slotOk; rw [g1]
  have o2 : slotOk ((Γ.set s .gone).set s (.c (nD p))) u = true := by unfold slotOk; rw [g2]
  have w : wipeT ((Γ.set s .gone).set s (.c (nD p))) [s] = Γ.set s .gone := by
    simp only [wipe1, wipe0, List.set_set]
  refine ⟨(Γ.set s .gone).set s (.c (nD p)), (Γ.set s .gone).set s (.c (nD p)), rfl, ?_, w, fun _ => ⟨(Γ.set s .gone).set s (.c (nD p)), ?_, w⟩⟩
  · rw [List.set_set] at *
    simp [o1, o2, g1, g2]
  · rw [List.set_set] at *
    simp [g1]; rfl
def sqr (x : Int) : Int := x * x
def muchK (N : Net) (c : List (List Int)) (os : List (Option Nat)) (p : Nat × Nat) (pl : Nat) : Int := sqr (offeredA N os p.2 pl false) + sqr (offeredA N os p.2 pl true + cell c p.2 pl)
def muchA (N : Net) (c : List (List Int)) (os : List (Option Nat)) : Int := (N.ends.zipIdx.map fun p => ((placesOf N.n p.1).map (muchK N c os p)).sum).sum
theorem zipIdx_nD (l : List Nat) : ((l.map nD).zipIdx.map fun p => PyData.tuple [.int (p.2 : Nat), p.1]) = l.zipIdx.map fun p => .tuple [.int (p.2 : Nat), nD p.1] := by
  rw [List.zipIdx_map, List.map_map]; rfl
theorem it_enm {F : Genv} {a : CE} {Γ Γ1 : List Tr} {l : List Nat} (h : ev F a Γ = some (.ok (.c (.tuple (l.map nD))) Γ1)) : evIt F (.enm a) Γ = some (.ok (l.zipIdx.map fun p => .tuple [.int (p.2 : Nat), nD p.1]) Γ1) := by
  rw [← zipIdx_nD]; simp [h]
theorem mem_places {n e p : Nat} (h : p ∈ placesOf n e) : p < n ∧ p ≠ e := by
  unfold placesOf at h
  rw [List.mem_filter, List.mem_range] at h
  exact ⟨h.1, by simpa using h.2⟩
def S_much_of (run : List Tr → Option FR) : Prop := ∀ N c os, OkN N → Sh N c → (∀ l ∈ c, ∀ x ∈ l, x.natAbs < 2 ^ 62) → run [.c (netD N), .c (hD c), .c (osD os)] = some (.ok (.c (.int (muchA N c os))) [.gone, .gone, .gone])
theorem w_much_of {F : Genv} (h1 : Fn F "offered_at" S_offered_at) : S_much_of (r_much_of F) := by
  obtain ⟨r1, f1, q1⟩ := h1
  intro N c os o s b
  have n8 := o.n8
  refine run_ret rfl (by decide) ?_
  refine Run.nx (Γ1 := [.c (netD N), .c (hD c), .c (osD os), .c (.int 0), .gone, .gone, .gone, .gone, .gone, .gone]) (by simp) ?_
  refine Run.forM (c := fun p : Nat × Nat => .tuple [.int (p.2 : Nat), nD p.1]) (xs := N.ends.zipIdx) (Γ1 := [.c (netD N), .c (hD c), .c (osD os), .c (.int 0), .gone, .gone, .gone, .gone, .gone, .gone])
    (fun i Γ => ∃ j4 j5 j6 j7 j8, Γ = [.c (netD N), .c (hD c), .c (osD os), .c (.int ((N.ends.zipIdx.take i).map fun p => ((placesOf N.n p.1).map (muchK N c os p)).sum).sum), j4, j5, j6, j7, j8, .gone]) (it_enm (by simp [netD])) ⟨_, _, _, _, _, rfl⟩ ?_ ?_
  · rintro i p Γ hi ⟨j4, j5, j6, j7, j8, rfl⟩
    have hp := (List.mem_zipIdx_iff_getElem? (x := p)).mp (List.mem_of_getElem? hi)
    have hk : p.2 < N.ends.length := (List.getElem?_eq_some_iff.mp hp).1
    have ts := take_sum (f := fun p : Nat × Nat => ((placesOf N.n p.1).map (muchK N c os p)).sum) hi
    generalize ((N.ends.zipIdx.take i).map fun p => ((placesOf N.n p.1).map (muchK N c os p)).sum).sum = a at *
    refine ⟨[.c (netD N), .c (hD c), .c (osD os), .c (.int a), .c (.int (p.2 : Nat)), .c (nD p.1), j6, j7, j8, .gone], by simp, ?_⟩
    refine Run.forM (c := nD) (xs := placesOf N.n p.1) (Γ1 := [.c (netD N), .c (hD c), .c (osD os), .c (.int a), .c (.int (p.2 : Nat)), .c (nD p.1), j6, j7, j8, .gone])
      (fun k Γ => ∃ j6 j7 j8, Γ = [.c (netD N), .c (hD c), .c (osD os), .c (.int (a + (((placesOf N.n p.1).take k).map (muchK N c os p)).sum)), .c (.int (p.2 : Nat)), .c (nD p.1), j6, j7, j8, .gone]) ?_ ⟨j6, j7, j8, by simp⟩ ?_ ?_
    · have := ev_places (F := F) (Γ := [.c (netD N), .c (hD c), .c (osD os), .c (.int a), .c (.int (p.2 : Nat)), .c (nD p.1), j6, j7, j8, .gone]) (n := N.n) (e := p.1) (s := 9) (u := 5) (rg := .pth 0 [.lit (.int 0)]) (Γ' := []) (by omega) (by simp [netD]) (by simp) (by simp) (by decide) (by simp [nD])
      simp only [si1, this]
      simp [mpT, frz_m]
    · rintro k pl Γ hkk ⟨j6, j7, j8, rfl⟩
      have hpl := mem_places (List.mem_of_getElem? hkk)
      obtain ⟨l, g1, g2, gl⟩ := s.get hk hpl.1
      have bc := b l gl _ (List.mem_of_getElem? g2)
      refine ⟨[.c (netD N), .c (hD c), .c (osD os), .c (.int (a + (((placesOf N.n p.1).take k).map (muchK N c os p)).sum)), .c (.int (p.2 : Nat)), .c (nD p.1), .c (nD pl), j7, j8, .gone], rfl, ?_⟩
      rw [take_sum hkk]
      generalize (((placesOf N.n p.1).take k).map (muchK N c os p)).sum = d
      have e1 := q1 N os p.2 pl false o
      have e2 := q1 N os p.2 pl true o
      have b1 := offeredA_b o os p.2 pl false
      have b2 := offeredA_b o os p.2 pl true
      simp only [sideI, Bool.false_eq_true, if_false, if_true] at e1 e2
      have m1 := mul_sm (sm64 (i := offeredA N os p.2 pl false) (by omega)) (sm64 (i := offeredA N os p.2 pl false) (by omega))
      have s2 : sm (offeredA N os p.2 pl true + cell c p.2 pl) := sm64 (by omega)
      have m2 := mul_sm s2 s2
      refine Run.nx (Γ1 := [.c (netD N), .c (hD c), .c (osD os), .c (.int (a + d)), .c (.int (p.2 : Nat)), .c (nD p.1), .c (nD pl), .c (.int (offeredA N os p.2 pl false)), j8, .gone]) (by simp [nD, f1, e1]) ?_
      refine Run.nx (Γ1 := [.c (netD N), .c (hD c), .c (osD os), .c (.int (a + d)), .c (.int (p.2 : Nat)), .c (nD p.1), .c (nD pl), .c (.int (offeredA N os p.2 pl false)), .c (.int (offeredA N os p.2 pl true + cell c p.2 pl)), .gone]) ?_ ?_
      · have hc : hD c = .tuple (c.map lnD) := rfl
        simp [nD, f1, e2, hc, g1, lnD, g2, iD]
      · refine Run.nx (Γ1 := [.c (netD N), .c (hD c), .c (osD os), .c (.int (a + (d + muchK N c os p pl))), .c (.int (p.2 : Nat)), .c (nD p.1), .c (nD pl), .c (.int (offeredA N os p.2 pl false)), .c (.int (offeredA N os p.2 pl true + cell c p.2 pl)), .gone]) ?_ (Run.nil ⟨_, _, _, rfl⟩)
        simp [m1, m2, muchK, sqr, Int.add_assoc]
    · rintro Γ ⟨j6, j7, j8, rfl⟩
      rw [List.take_length]
      exact Run.nil ⟨.c (.int (p.2 : Nat)), .c (nD p.1), j6, j7, j8, by rw [ts]⟩
  · rintro Γ ⟨j4, j5, j6, j7, j8, rfl⟩
    rw [List.take_length]
    exact Run.rt (t := .c (.int (muchA N c os))) (Γ1 := [.c (netD N), .c (hD c), .c (osD os), .gone, j4, j5, j6, j7, j8, .gone]) (by simp [muchA]) ⟨_, rfl, rfl⟩
/-! ### heaps times comers -/
def hpL (p : List Int × List Int) : Int := ((p.1.zip p.2).map fun q => q.1 * q.2).sum
def heapedA (h c : List (List Int)) : Int := ((h.zip c).map hpL).sum
def S_heaped_of (run : List Tr → Option FR) : Prop := ∀ h c, Smh h → Smh c → run [.c (hD h), .c (hD c)] = some (.ok (.c (.int (heapedA h c))) [.gone, .gone])
theorem w_heaped_of (F : Genv) : S_heaped_of (r_heaped_of F) := by
  intro h c sh sc
  have hlc : ev F (.lc [2, 3] (.tp [2, 3]) (.zip [.e (.var 0), .e (.var 1)]) [] (.prim (.bi .sum) [.e (.lc [4, 5] (.tp [4, 5]) (.zip [.e (.var 2), .e (.var 3)]) [] (.prim .mul [.pk 4, .pk 5]))])) [.c (hD h), .c (hD c), .gone, .gone, .gone, .gone]
      = some (.ok (.l ((h.zip c).map fun p => .c (.int (hpL p)))) [.c (hD h), .c (hD c), .gone, .gone, .gone, .gone]) := by
    refine lc_map (c := fun p : List Int × List Int => .tuple [lnD p.1, lnD p.2]) (Γ1 := [.c (hD h), .c (hD c), .gone, .gone, .gone, .gone]) _ ?_ (by simp) (fun p hp => ?_) (sz (by rw [List.length_zip]; have := sh.len; omega))
    · rw [← zip_is]
      exact it_zip (ta := .c (hD h)) (tb := .c (hD c)) (Γ1 := [.c (hD h), .c (hD c), .gone, .gone, .gone, .gone]) (by simp) (by simp) rfl rfl rfl rfl
    · have hp' := List.of_mem_zip (a := p.1) (b := p.2) hp
      have inner : ev F (.lc [4, 5] (.tp [4, 5]) (.zip [.e (.var 2), .e (.var 3)]) [] (.prim .mul [.pk 4, .pk 5])) [.c (hD h), .c (hD c), .c (lnD p.1), .c (lnD p.2), .gone, .gone]
          = some (.ok (.l ((p.1.zip p.2).map fun q => .c (.int (q.1 * q.2)))) [.c (hD h), .c (hD c), .c (lnD p.1), .c (lnD p.2), .gone, .gone]) := by
        refine lc_map (c := fun q : Int × Int => .tuple [iD q.1, iD q.2]) (Γ1 := [.c (hD h), .c (hD c), .c (lnD p.1), .c (lnD p.2), .gone, .gone]) _ ?_ (by simp) (fun q hq => ?_) (sz (by rw [List.length_zip]; have := sh.l p.1 hp'.1; omega))
        · rw [← zip_is]
          exact it_zip (ta := .c (lnD p.1)) (tb := .c (lnD p.2)) (Γ1 := [.c (hD h), .c (hD c), .c (lnD p.1), .c (lnD p.2), .gone, .gone]) (by simp) (by simp) rfl rfl rfl rfl
        · have hq' := List.of_mem_zip (a := q.1) (b := q.2) hq
          have m := mul_sm (sh.b _ hp'.1 _ hq'.1) (sc.b _ hp'.2 _ hq'.2)
          exact ⟨_, [.c (hD h), .c (hD c), .c (lnD p.1), .c (lnD p.2), .c (iD q.1), .c (iD q.2)], by simp; rfl, by simp [iD, m], by simp⟩
      have sm := sum_m (fun q : Int × Int => q.1 * q.2) (p.1.zip p.2)
      exact ⟨_, [.c (hD h), .c (hD c), .c (lnD p.1), .c (lnD p.2), .gone, .gone], by simp; rfl, by simp [inner, sm, hpL], by simp⟩
  have sm := sum_m hpL (h.zip c)
  exact run_ret rfl (by decide) (Run.rt (t := .c (.int (heapedA h c))) (Γ1 := [.c (hD h), .c (hD c), .gone, .gone, .gone, .gone]) (by simp [hlc, sm, heapedA]) ⟨_, rfl, rfl⟩)
def S_rise (run : List Tr → Option FR) : Prop := ∀ N h c, OkN N → OkH 1000000000 N h → OkH 9 N c → run [.c (netD N), .c (hD h), .c (hD c)] = some (.ok (.c (.tuple [.int (muchA N c (N.ties.map (offerA h))), .int (heapedA h c)])) [.gone, .gone, .gone])
theorem w_rise {F : Genv} (h1 : Fn F "need_net" S_need_net) (h2 : Fn F "need_heaps" (S_need_lines 1000000000 "NoHeaps")) (h3 : Fn F "need_comers" (S_need_lines 9 "NoComers")) (h4 : Fn F "offer_over" S_offer_over) (h5 : Fn F "all_ties" S_all_ties) (h6 : Fn F "much_of" S_much_of) (h7 : Fn F "heaped_of" S_heaped_of) : S_rise (r_rise F) := by
  obtain ⟨r1, f1, q1⟩ := h1
  obtain ⟨r2, f2, q2⟩ := h2
  obtain ⟨r3, f3, q3⟩ := h3
  obtain ⟨r4, f4, q4⟩ := h4
  obtain ⟨r5, f5, q5⟩ := h5
  obtain ⟨r6, f6, q6⟩ := h6
  obtain ⟨r7, f7, q7⟩ := h7
  intro N h c o oh oc
  refine run_ret rfl (by decide) ?_
  refine Run.nx (Γ1 := [.c (netD N), .c (hD h), .c (hD c), .gone]) (by simp [f1, q1.1 N o]) ?_
  refine Run.nx (Γ1 := [.c (netD N), .c (hD h), .c (hD c), .gone]) (by simp [f2, q2.1 N h o oh]) ?_
  refine Run.nx (Γ1 := [.c (netD N), .c (hD h), .c (hD c), .gone]) (by simp [f3, q3.1 N c o oc]) ?_
  have e := q4 N h (List.range N.ties.length) o oh.sh
  rw [offO_all] at e
  have e6 := q6 N c (N.ties.map (offerA h)) o oc.sh (oc.b62 (by decide))
  have e7 := q7 h c (oh.sh.smh o (oh.b64 (by decide))) (oc.sh.smh o (oc.b64 (by decide)))
  generalize N.ties.map (offerA h) = os at *
  refine Run.nx (Γ1 := [.c (netD N), .c (hD h), .c (hD c), mpT kD os]) (by simp [f4, f5, q5 N o, e]) ?_
  refine Run.rt (t := .c (.tuple [.int (muchA N c os), .int (heapedA h c)])) (Γ1 := [.c (netD N), .c (hD h), .c (hD c), .c (osD os)]) ?_ ⟨_, rfl, rfl⟩
  simp only [osD] at e6
  simp [mpT, frz_m, f6, f7, e6, e7, osD]
/-! ### the greatest much -/
def outA (N : Net) (side : Bool) (pl : Nat) : Int := ((N.ties.filter fun t => decide (endp side t = pl)).map (·.m)).sum
def grK (N : Net) (k : Int) (pl : Nat) : Int := sqr (outA N false pl) + sqr (outA N true pl + k)
def greatA (N : Net) (k : Int) : Int := (N.ends.map fun e => ((placesOf N.n e).map (grK N k)).sum).sum
theorem outA_b {N : Net} (o : OkN N) (side : Bool) (pl : Nat) : 0 ≤ outA N side pl ∧ outA N side pl ≤ 576 := by
  have := filter_sum (f := fun t : Tie => t.m) (p := fun t => decide (endp side t = pl)) (b := 9) (n := 64) (xs := N.ties) (fun x hx => by
    have ot := o.t x hx
    have := ot.lo; have := ot.hi; omega) (by decide) o.tlen
  exact ⟨this.1, Int.le_trans this.2 (by decide)⟩
def S_greatest_in (run : List Tr → Option FR) : Prop := ∀ N (k : Int), OkN N → k.natAbs < 2 ^ 62 → run [.c (netD N), .c (.int k)] = some (.ok (.c (.int (greatA N k))) [.gone, .gone])
theorem w_greatest_in (F : Genv) : S_greatest_in (r_greatest_in F) := by
  intro N kk o hk
  have n8 := o.n8
  refine run_ret rfl (by decide) ?_
  refine Run.nx (Γ1 := [.c (netD N), .c (.int kk), .c (.int 0), .gone, .gone, .gone, .gone, .gone, .gone]) (by simp) ?_
  refine Run.forM (c := nD) (xs := N.ends) (Γ1 := [.c (netD N), .c (.int kk), .c (.int 0), .gone, .gone, .gone, .gone, .gone, .gone])
    (fun i Γ => ∃ j3 j4 j5 j6, Γ = [.c (netD N), .c (.int kk), .c (.int ((N.ends.take i).map fun e => ((placesOf N.n e).map (grK N kk)).sum).sum), j3, j4, j5, j6, .gone, .gone]) (by simp [netD]) ⟨_, _, _, _, rfl⟩ ?_ ?_
  · rintro i e Γ hi ⟨j3, j4, j5, j6, rfl⟩
    have ts := take_sum (f := fun e : Nat => ((placesOf N.n e).map (grK N kk)).sum) hi
    generalize ((N.ends.take i).map fun e => ((placesOf N.n e).map (grK N kk)).sum).sum = a at *
    refine ⟨[.c (netD N), .c (.int kk), .c (.int a), .c (nD e), j4, j5, j6, .gone, .gone], by simp, ?_⟩
    refine Run.forM (c := nD) (xs := placesOf N.n e) (Γ1 := [.c (netD N), .c (.int kk), .c (.int a), .c (nD e), j4, j5, j6, .gone, .gone])
      (fun k Γ => ∃ j4 j5 j6, Γ = [.c (netD N), .c (.int kk), .c (.int (a + (((placesOf N.n e).take k).map (grK N kk)).sum)), .c (nD e), j4, j5, j6, .gone, .gone]) ?_ ⟨j4, j5, j6, by simp⟩ ?_ ?_
    · have := ev_places (F := F) (Γ := [.c (netD N), .c (.int kk), .c (.int a), .c (nD e), j4, j5, j6, .gone, .gone]) (n := N.n) (e := e) (s := 7) (u := 3) (rg := .pth 0 [.lit (.int 0)]) (Γ' := []) (by omega) (by simp [netD]) (by simp) (by simp) (by decide) (by simp [nD])
      simp only [si1, this]
      simp [mpT, frz_m]
    · rintro k pl Γ hkk ⟨j4, j5, j6, rfl⟩
      refine ⟨[.c (netD N), .c (.int kk), .c (.int (a + (((placesOf N.n e).take k).map (grK N kk)).sum)), .c (nD e), .c (nD pl), j5, j6, .gone, .gone], rfl, ?_⟩
      rw [take_sum hkk]
      generalize (((placesOf N.n e).take k).map (grK N kk)).sum = d
      have b1 := outA_b o false pl
      have b2 := outA_b o true pl
      have m1 := mul_sm (sm64 (i := outA N false pl) (by omega)) (sm64 (i := outA N false pl) (by omega))
      have s2 : sm (outA N true pl + kk) := sm64 (by omega)
      have m2 := mul_sm s2 s2
      have hl0 : ∀ x5 x6, ev F (.lc [8] (.nm 8) (.sq (.pth 0 [.lit (.int 2)])) [.e (.prim (.cmp .Eq) [.e (.pth 8 [.lit (.int 0)]), .pk 4])] (.pth 8 [.lit (.int 2)])) [.c (netD N), .c (.int kk), .c (.int (a + d)), .c (nD e), .c (nD pl), x5, x6, .gone, .gone]
          = some (.ok (.l ((N.ties.filter fun t => decide (endp false t = pl)).map fun t => .c (.int t.m))) [.c (netD N), .c (.int kk), .c (.int (a + d)), .c (nD e), .c (nD pl), x5, x6, .gone, .gone]) := by
        intro x5 x6
        refine lc_fil (c := tieD) (Γ1 := [.c (netD N), .c (.int kk), .c (.int (a + d)), .c (nD e), .c (nD pl), x5, x6, .gone, .gone]) _ _ (by simp [netD]) (by simp) (fun t ht => ?_) (sz (by have := o.tlen; omega))
        exact ⟨_, [.c (netD N), .c (.int kk), .c (.int (a + d)), .c (nD e), .c (nD pl), x5, x6, .gone, .c (tieD t)], rfl, by simp [tieD, nD, endp], by simp, fun _ => ⟨[.c (netD N), .c (.int kk), .c (.int (a + d)), .c (nD e), .c (nD pl), x5, x6, .gone, .c (tieD t)], by simp [tieD], by simp⟩⟩
      have hl1 : ∀ x5 x6, ev F (.lc [8] (.nm 8) (.sq (.pth 0 [.lit (.int 2)])) [.e (.prim (.cmp .Eq) [.e (.pth 8 [.lit (.int 1)]), .pk 4])] (.pth 8 [.lit (.int 2)])) [.c (netD N), .c (.int kk), .c (.int (a + d)), .c (nD e), .c (nD pl), x5, x6, .gone, .gone]
          = some (.ok (.l ((N.ties.filter fun t => decide (endp true t = pl)).map fun t => .c (.int t.m))) [.c (netD N), .c (.int kk), .c (.int (a + d)), .c (nD e), .c (nD pl), x5, x6, .gone, .gone]) := by
        intro x5 x6
        refine lc_fil (c := tieD) (Γ1 := [.c (netD N), .c (.int kk), .c (.int (a + d)), .c (nD e), .c (nD pl), x5, x6, .gone, .gone]) _ _ (by simp [netD]) (by simp) (fun t ht => ?_) (sz (by have := o.tlen; omega))
        exact ⟨_, [.c (netD N), .c (.int kk), .c (.int (a + d)), .c (nD e), .c (nD pl), x5, x6, .gone, .c (tieD t)], rfl, by simp [tieD, nD, endp], by simp, fun _ => ⟨[.c (netD N), .c (.int kk), .c (.int (a + d)), .c (nD e), .c (nD pl), x5, x6, .gone, .c (tieD t)], by simp [tieD], by simp⟩⟩
      have u0 := sum_m (fun t : Tie => t.m) (N.ties.filter fun t => decide (endp false t = pl))
      have u1 := sum_m (fun t : Tie => t.m) (N.ties.filter fun t => decide (endp true t = pl))
      refine Run.nx (Γ1 := [.c (netD N), .c (.int kk), .c (.int (a + d)), .c (nD e), .c (nD pl), .c (.int (outA N false pl)), j6, .gone, .gone]) (by simp [hl0, u0, outA]) ?_
      refine Run.nx (Γ1 := [.c (netD N), .c (.int kk), .c (.int (a + d)), .c (nD e), .c (nD pl), .c (.int (outA N false pl)), .c (.int (outA N true pl + kk)), .gone, .gone]) (by simp [hl1, u1, outA]) ?_
      refine Run.nx (Γ1 := [.c (netD N), .c (.int kk), .c (.int (a + (d + grK N kk pl))), .c (nD e), .c (nD pl), .c (.int (outA N false pl)), .c (.int (outA N true pl + kk)), .gone, .gone]) ?_ (Run.nil ⟨_, _, _, rfl⟩)
      simp [m1, m2, grK, sqr, Int.add_assoc]
    · rintro Γ ⟨j4, j5, j6, rfl⟩
      rw [List.take_length]
      exact Run.nil ⟨.c (nD e), j4, j5, j6, by rw [ts]⟩
  · rintro Γ ⟨j3, j4, j5, j6, rfl⟩
    rw [List.take_length]
    exact Run.rt (t := .c (.int (greatA N kk))) (Γ1 := [.c (netD N), .c (.int kk), .gone, j3, j4, j5, j6, .gone, .gone]) (by simp [greatA]) ⟨_, rfl, rfl⟩
def S_greatest (run : List Tr → Option FR) : Prop := ∀ N (k : Int), OkN N → 0 ≤ k → k ≤ 9 → run [.c (netD N), .c (.int k)] = some (.ok (.c (.int (greatA N k))) [.gone, .gone])
theorem w_greatest {F : Genv} (h1 : Fn F "need_net" S_need_net) (h2 : Fn F "is_number" S_is_number) (h3 : Fn F "greatest_in" S_greatest_in) (g : F.gl "MOST_COMING" = some (.int 9)) : S_greatest (r_greatest F) := by
  obtain ⟨r1, f1, q1⟩ := h1
  obtain ⟨r2, f2, q2⟩ := h2
  obtain ⟨r3, f3, q3⟩ := h3
  intro N k o k0 k9
  refine run_ret rfl (by decide) ?_
  refine Run.nx (Γ1 := [.c (netD N), .c (.int k)]) (by simp [f1, q1.1 N o]) ?_
  refine Run.skip (Γ1 := [.c (netD N), .c (.int k)]) (by simp [f2, q2 (.int k) 0 9, g, k0, k9]) ?_
  exact Run.rt (t := .c (.int (greatA N k))) (Γ1 := [.c (netD N), .c (.int k)]) (by simp [f3, q3 N k o (by omega)]) ⟨_, rfl, rfl⟩
end Hp
set_option Elab.async false
set_option linter.all false
set_option maxRecDepth 100000
set_option maxHeartbeats 400000
/-! the laws' own words on rises -/
namespace Hp
open PySem PySem.Spec PyProof.Rows L2 Hw
theorem fil_ite {α : Type} (f : α → Int) (p : α → Bool) : ∀ xs : List α, ((xs.filter p).map f).sum = (xs.map fun x => if p x = true then f x else 0).sum
  | [] => rfl
  | x :: xs => by
    have ih := fil_ite f p xs
    cases q : p x <;> simp [List.filter_cons, q, ih]
def oneA (side : Bool) (pl : Nat) (t : Tie) : Int := if decide (endp side t = pl) = true then t.m else 0
theorem oneA_b {n : Nat} {t : Tie} (o : OkT n t) (side : Bool) (pl : Nat) : 0 ≤ oneA side pl t ∧ oneA side pl t ≤ 9 := by
  have := o.lo; have := o.hi
  unfold oneA; split <;> omega
def S_law_greatest (run : List Tr → Option FR) : Prop := ∀ N (k : Int), OkN N → k.natAbs < 2 ^ 62 → run [.c (netD N), .c (.int k)] = some (.ok (.c (.int (greatA N k))) [.gone, .gone])
theorem w_law_greatest (F : Genv) : S_law_greatest (r_law_b_greatest F) := by
  intro N kk o hk
  have n8 := o.n8
  refine run_ret rfl (by decide) ?_
  refine Run.nx (Γ1 := [.c (netD N), .c (.int kk), .c (.int 0), .gone, .gone, .gone, .gone, .gone, .gone, .gone, .gone]) (by simp) ?_
  refine Run.forM (c := nD) (xs := N.ends) (Γ1 := [.c (netD N), .c (.int kk), .c (.int 0), .gone, .gone, .gone, .gone, .gone, .gone, .gone, .gone])
    (fun i Γ => ∃ j3 j4 j5 j6 j8 j9 j10, Γ = [.c (netD N), .c (.int kk), .c (.int ((N.ends.take i).map fun e => ((placesOf N.n e).map (grK N kk)).sum).sum), j3, j4, j5, j6, .gone, j8, j9, j10]) (by simp [netD]) ⟨_, _, _, _, _, _, _, rfl⟩ ?_ ?_
  · rintro i e Γ hi ⟨j3, j4, j5, j6, j8, j9, j10, rfl⟩
    have ts := take_sum (f := fun e : Nat => ((placesOf N.n e).map (grK N kk)).sum) hi
    generalize ((N.ends.take i).map fun e => ((placesOf N.n e).map (grK N kk)).sum).sum = a at *
    refine ⟨[.c (netD N), .c (.int kk), .c (.int a), .c (nD e), j4, j5, j6, .gone, j8, j9, j10], by simp, ?_⟩
    refine Run.forM (c := nD) (xs := placesOf N.n e) (Γ1 := [.c (netD N), .c (.int kk), .c (.int a), .c (nD e), j4, j5, j6, .gone, j8, j9, j10])
      (fun k Γ => ∃ j4 j5 j6 j8 j9 j10, Γ = [.c (netD N), .c (.int kk), .c (.int (a + (((placesOf N.n e).take k).map (grK N kk)).sum)), .c (nD e), j4, j5, j6, .gone, j8, j9, j10]) ?_ ⟨j4, j5, j6, j8, j9, j10, by simp⟩ ?_ ?_
    · have := ev_places (F := F) (Γ := [.c (netD N), .c (.int kk), .c (.int a), .c (nD e), j4, j5, j6, .gone, j8, j9, j10]) (n := N.n) (e := e) (s := 7) (u := 3) (rg := .pth 0 [.lit (.int 0)]) (Γ' := []) (by omega) (by simp [netD]) (by simp) (by simp) (by decide) (by simp [nD])
      simp only [si1, this]
      simp [mpT, frz_m]
    · rintro k pl Γ hkk ⟨j4, j5, j6, j8, j9, j10, rfl⟩
      refine ⟨[.c (netD N), .c (.int kk), .c (.int (a + (((placesOf N.n e).take k).map (grK N kk)).sum)), .c (nD e), .c (nD pl), j5, j6, .gone, j8, j9, j10], rfl, ?_⟩
      rw [take_sum hkk]
      generalize (((placesOf N.n e).take k).map (grK N kk)).sum = d
      refine Run.nx (Γ1 := [.c (netD N), .c (.int kk), .c (.int (a + d)), .c (nD e), .c (nD pl), .c (.int 0), j6, .gone, j8, j9, j10]) (by simp) ?_
      refine Run.nx (Γ1 := [.c (netD N), .c (.int kk), .c (.int (a + d)), .c (nD e), .c (nD pl), .c (.int 0), .c (.int kk), .gone, j8, j9, j10]) (by simp) ?_
      refine Run.forM (c := tieD) (xs := N.ties) (Γ1 := [.c (netD N), .c (.int kk), .c (.int (a + d)), .c (nD e), .c (nD pl), .c (.int 0), .c (.int kk), .gone, j8, j9, j10])
        (fun i Γ => ∃ j8 j9 j10, Γ = [.c (netD N), .c (.int kk), .c (.int (a + d)), .c (nD e), .c (nD pl), .c (.int ((N.ties.take i).map (oneA false pl)).sum), .c (.int (kk + ((N.ties.take i).map (oneA true pl)).sum)), .gone, j8, j9, j10]) (by simp [netD]) ⟨j8, j9, j10, by simp⟩ ?_ ?_
      · rintro i t Γ hti ⟨j8, j9, j10, rfl⟩
        have ot := o.t t (List.mem_of_getElem? hti)
        rw [take_sum hti, take_sum hti]
        generalize ((N.ties.take i).map (oneA false pl)).sum = u
        generalize ((N.ties.take i).map (oneA true pl)).sum = v
        have b0 := ot.lo; have b9 := ot.hi
        have m0 := mul_sm (i := t.m) (sm64 (by omega)) (sm64 (i := 0) (by decide))
        have m1 := mul_sm (i := t.m) (sm64 (by omega)) (sm64 (i := 1) (by decide))
        refine ⟨[.c (netD N), .c (.int kk), .c (.int (a + d)), .c (nD e), .c (nD pl), .c (.int u), .c (.int (kk + v)), .gone, .c (.int t.i), .c (.int t.j), .c (.int t.m)], by simp [tieD], ?_⟩
        refine Run.nx (Γ1 := [.c (netD N), .c (.int kk), .c (.int (a + d)), .c (nD e), .c (nD pl), .c (.int (u + oneA false pl t)), .c (.int (kk + v)), .gone, .c (.int t.i), .c (.int t.j), .c (.int t.m)]) ?_ ?_
        · by_cases z : t.i = pl <;> simp [nD, z, m0, m1, oneA, endp]
        · refine Run.nx (Γ1 := [.c (netD N), .c (.int kk), .c (.int (a + d)), .c (nD e), .c (nD pl), .c (.int (u + oneA false pl t)), .c (.int (kk + (v + oneA true pl t))), .gone, .c (.int t.i), .c (.int t.j), .c (.int t.m)]) ?_ (Run.nil ⟨_, _, _, rfl⟩)
          by_cases z : t.j = pl <;> simp [nD, z, m0, m1, oneA, endp, Int.add_assoc]
      · rintro Γ ⟨j8, j9, j10, rfl⟩
        rw [List.take_length]
        have e0 : (N.ties.map (oneA false pl)).sum = outA N false pl := (fil_ite (fun t : Tie => t.m) (fun t => decide (endp false t = pl)) N.ties).symm
        have e1 : (N.ties.map (oneA true pl)).sum = outA N true pl := (fil_ite (fun t : Tie => t.m) (fun t => decide (endp true t = pl)) N.ties).symm
        rw [e0, e1, Int.add_comm kk (outA N true pl)]
        have b1 := outA_b o false pl
        have b2 := outA_b o true pl
        have m1 := mul_sm (sm64 (i := outA N false pl) (by omega)) (sm64 (i := outA N false pl) (by omega))
        have s2 : sm (outA N true pl + kk) := sm64 (by omega)
        have m2 := mul_sm s2 s2
        refine Run.nx (Γ1 := [.c (netD N), .c (.int kk), .c (.int (a + (d + grK N kk pl))), .c (nD e), .c (nD pl), .c (.int (outA N false pl)), .c (.int (outA N true pl + kk)), .gone, j8, j9, j10]) ?_ (Run.nil ⟨_, _, _, _, _, _, rfl⟩)
        simp [m1, m2, grK, sqr, Int.add_assoc]
    · rintro Γ ⟨j4, j5, j6, j8, j9, j10, rfl⟩
      rw [List.take_length]
      exact Run.nil ⟨.c (nD e), j4, j5, j6, j8, j9, j10, by rw [ts]⟩
  · rintro Γ ⟨j3, j4, j5, j6, j8, j9, j10, rfl⟩
    rw [List.take_length]
    exact Run.rt (t := .c (.int (greatA N kk))) (Γ1 := [.c (netD N), .c (.int kk), .gone, j3, j4, j5, j6, .gone, j8, j9, j10]) (by simp [greatA]) ⟨_, rfl, rfl⟩
/-! ### the law's own much -/
def offK (side : Bool) (kind pl : Nat) (p : Tie × Option Nat) : Int := if (decide (endp side p.1 = pl) && decide (p.2 = some kind)) = true then p.1.m else 0
theorem offered_ite (N : Net) (os : List (Option Nat)) (kind pl : Nat) (side : Bool) : offeredA N os kind pl side = ((N.ties.zip os).map (offK side kind pl)).sum :=
  fil_ite (fun p : Tie × Option Nat => p.1.m) (fun p => decide (endp side p.1 = pl) && decide (p.2 = some kind)) _
/-- a row of numbers by place -/
def rowA (n : Nat) (f : Nat → Int) : List Int := (List.range n).map f
theorem rowA_len (n : Nat) (f : Nat → Int) : (rowA n f).length = n := by simp [rowA]
theorem rowA_get {n : Nat} {f : Nat → Int} {p : Nat} (h : p < n) : (rowA n f)[p]? = some (f p) := by
  simp [rowA, h]
theorem rowA_set {n : Nat} {f : Nat → Int} {p : Nat} {x : Int} (h : p < n) : (rowA n f).set p x = rowA n fun q => if q = p then x else f q := by
  apply List.ext_getElem?
  intro q
  by_cases hq : q < n
  · by_cases e : q = p
    · subst e; rw [List.getElem?_set_self (by rw [rowA_len]; exact hq), rowA_get hq]; simp
    · rw [List.getElem?_set_ne (fun z => e z.symm), rowA_get hq, rowA_get hq]; simp [e]
  · rw [List.getElem?_eq_none (by simp [rowA]; omega), List.getElem?_eq_none (by simp [rowA]; omega)]
theorem ixN_n {n p : Nat} (h : p < n) : ixN n (p : Int) = some p := by unfold ixN; rw [if_pos (by omega), if_pos (by omega)]; rfl
/-- a row of numbers that is owned -/
def rowT (l : List Int) : Tr := mpT iD l
theorem rowT_set {l : List Int} {p : Nat} {x : Int} (h : p < l.length) : putP (setAt (p : Int) (.c (.int x))) [] (rowT l) = some (rowT (l.set p x)) := by
  simp only [rowT, mpT, putP0, setAt, List.length_map, ixN_n h]
  simp [List.map_set, iD]
theorem rowT_kid {l : List Int} {p : Nat} {x : Int} (h : l[p]? = some x) : kidT (rowT l) (p : Int) = some (.c (.int x)) := by
  simp [rowT, mpT, h, iD]
theorem rowT_ok (l : List Int) (Γ : List Tr) : slotOk (rowT l :: Γ) 0 = true := rfl
theorem rowT_stl (l : List Int) : isStl (rowT l) = false := rfl
theorem rep_zero (n : Nat) (h : n ≤ 1000) : mulEv (.l [.c (.int 0)]) (.c (.int (n : Nat))) = some (rowT (rowA n fun _ => 0)) := by
  have ok : okR (n : Int) = true := okR_of (by omega) (by omega)
  have e : (List.replicate n [PyData.int 0]).flatten = (rowA n fun _ => 0).map iD := by
    have : (rowA n fun _ => (0 : Int)).map iD = List.replicate n (PyData.int 0) := by
      unfold rowA
      rw [List.map_map]
      apply List.ext_getElem?
      intro i
      by_cases hi : i < n
      · simp [hi, iD]
      · simp [hi]
    rw [this]
    induction n with
    | zero => rfl
    | succ n ih => rw [List.replicate_succ, List.replicate_succ, List.flatten_cons, ih (by omega) (okR_of (by omega) (by omega)) (by
        unfold rowA
        rw [List.map_map]
        apply List.ext_getElem?
        intro i
        by_cases hi : i < n
        · simp [hi, iD]
        · simp [hi])]; rfl
  have hz : n ≤ sizeLine := sz (by omega)
  have e0 : mulEv (.l [.c (.int 0)]) (.c (.int (n : Nat))) = (if okR (n : Int) = true ∧ [PyData.int 0].length * (n : Int).toNat ≤ sizeLine then some (lT (List.replicate (n : Int).toNat [PyData.int 0]).flatten) else none) := rfl
  rw [e0, if_pos ⟨ok, by simpa using hz⟩, Int.toNat_natCast, e]
  simp [lT, rowT, mpT]
def S_law_much (run : List Tr → Option FR) : Prop := ∀ N c os, OkN N → Sh N c → (∀ l ∈ c, ∀ x ∈ l, x.natAbs < 2 ^ 62) → run [.c (netD N), .c (hD c), .c (osD os)] = some (.ok (.c (.int (muchA N c os))) [.gone, .gone, .gone])
theorem w_law_much (F : Genv) : S_law_much (r_law_b_much F) := by
  intro N c os o s b
  have n8 := o.n8
  refine run_ret rfl (by decide) ?_
  refine Run.nx (Γ1 := [.c (netD N), .c (hD c), .c (osD os), .c (.int 0), .gone, .gone, .gone, .gone, .gone, .gone, .gone]) (by simp) ?_
  refine Run.forM (c := fun p : Nat × Nat => .tuple [.int (p.2 : Nat), nD p.1]) (xs := N.ends.zipIdx) (Γ1 := [.c (netD N), .c (hD c), .c (osD os), .c (.int 0), .gone, .gone, .gone, .gone, .gone, .gone, .gone])
    (fun i Γ => ∃ j4 j5 j6 j7 j8 j9 j10, Γ = [.c (netD N), .c (hD c), .c (osD os), .c (.int ((N.ends.zipIdx.take i).map fun p => ((placesOf N.n p.1).map (muchK N c os p)).sum).sum), j4, j5, j6, j7, j8, j9, j10]) (it_enm (by simp [netD])) ⟨_, _, _, _, _, _, _, rfl⟩ ?_ ?_
  · rintro i p Γ hi ⟨j4, j5, j6, j7, j8, j9, j10, rfl⟩
    have hp := (List.mem_zipIdx_iff_getElem? (x := p)).mp (List.mem_of_getElem? hi)
    have hk : p.2 < N.ends.length := (List.getElem?_eq_some_iff.mp hp).1
    have ts := take_sum (f := fun p : Nat × Nat => ((placesOf N.n p.1).map (muchK N c os p)).sum) hi
    generalize ((N.ends.zipIdx.take i).map fun p => ((placesOf N.n p.1).map (muchK N c os p)).sum).sum = a at *
    refine ⟨[.c (netD N), .c (hD c), .c (osD os), .c (.int a), .c (.int (p.2 : Nat)), .c (nD p.1), j6, j7, j8, j9, j10], by simp, ?_⟩
    obtain ⟨l, g1, _, gl⟩ := s.get hk (show 0 < N.n by have := o.n1; omega)
    have ll := s.l l gl
    have el : l = rowA N.n fun q => cell c p.2 q := by
      apply List.ext_getElem?
      intro q
      by_cases hq : q < N.n
      · obtain ⟨l', h1, h2, _⟩ := s.get hk hq
        rw [g1] at h1; cases h1
        rw [h2, rowA_get hq]
      · rw [List.getElem?_eq_none (by omega), List.getElem?_eq_none (by simp [rowA]; omega)]
    have mz := rep_zero N.n (by omega)
    refine Run.nx (Γ1 := [.c (netD N), .c (hD c), .c (osD os), .c (.int a), .c (.int (p.2 : Nat)), .c (nD p.1), rowT (rowA N.n fun _ => 0), j7, j8, j9, j10]) (by simp [netD, mz]) ?_
    refine Run.nx (Γ1 := [.c (netD N), .c (hD c), .c (osD os), .c (.int a), .c (.int (p.2 : Nat)), .c (nD p.1), rowT (rowA N.n fun _ => 0), rowT (rowA N.n fun q => cell c p.2 q), j8, j9, j10]) ?_ ?_
    · rw [← el]
      have hc : hD c = .tuple (c.map lnD) := rfl
      simp [hc, g1, lnD, lT, rowT, mpT]
    refine Run.forM (c := fun p : Tie × Option Nat => .tuple [tieD p.1, kD p.2]) (xs := N.ties.zip os) (Γ1 := [.c (netD N), .c (hD c), .c (osD os), .c (.int a), .c (.int (p.2 : Nat)), .c (nD p.1), rowT (rowA N.n fun _ => 0), rowT (rowA N.n fun q => cell c p.2 q), j8, j9, j10])
      (fun i Γ => ∃ j9 j10, Γ = [.c (netD N), .c (hD c), .c (osD os), .c (.int a), .c (.int (p.2 : Nat)), .c (nD p.1), rowT (rowA N.n fun q => (((N.ties.zip os).take i).map (offK false p.2 q)).sum), rowT (rowA N.n fun q => (((N.ties.zip os).take i).map (offK true p.2 q)).sum + cell c p.2 q), j8, j9, j10]) ?_ ⟨j9, j10, by simp⟩ ?_ ?_
    · rw [← zip_is]
      exact it_zip (ta := .c (.tuple (N.ties.map tieD))) (tb := .c (osD os)) (Γ1 := [.c (netD N), .c (hD c), .c (osD os), .c (.int a), .c (.int (p.2 : Nat)), .c (nD p.1), rowT (rowA N.n fun _ => 0), rowT (rowA N.n fun q => cell c p.2 q), j8, j9, j10]) (by simp [netD]) (by simp) rfl rfl rfl rfl
    · rintro k ⟨t, kd⟩ Γ hkk ⟨j9, j10, rfl⟩
      have ot := o.t t (List.of_mem_zip (List.mem_of_getElem? hkk)).1
      have hi' := ot.i; have hj' := ot.j
      have tk : ∀ side q, (((N.ties.zip os).take (k + 1)).map (offK side p.2 q)).sum = (((N.ties.zip os).take k).map (offK side p.2 q)).sum + offK side p.2 q (t, kd) := fun side q => take_sum hkk
      simp only [tk]
      generalize hf : (fun q => (((N.ties.zip os).take k).map (offK false p.2 q)).sum) = f
      generalize hg : (fun q => (((N.ties.zip os).take k).map (offK true p.2 q)).sum) = g
      have ef : ∀ q, (((N.ties.zip os).take k).map (offK false p.2 q)).sum = f q := fun q => by rw [← hf]
      have eg : ∀ q, (((N.ties.zip os).take k).map (offK true p.2 q)).sum = g q := fun q => by rw [← hg]
      simp only [ef, eg]
      refine ⟨[.c (netD N), .c (hD c), .c (osD os), .c (.int a), .c (.int (p.2 : Nat)), .c (nD p.1), rowT (rowA N.n f), rowT (rowA N.n fun q => g q + cell c p.2 q), j8, .c (tieD t), .c (kD kd)], by simp, ?_⟩
      by_cases z : kd = some p.2
      · subst z
        refine Run.iteT (Γ1 := [.c (netD N), .c (hD c), .c (osD os), .c (.int a), .c (.int (p.2 : Nat)), .c (nD p.1), rowT (rowA N.n f), rowT (rowA N.n fun q => g q + cell c p.2 q), j8, .c (tieD t), .c (kD (some p.2))]) (by simp) ?_
        have k1 := rowT_kid (rowA_get (f := f) hi')
        have k2 := rowT_kid (rowA_get (f := fun q => g q + cell c p.2 q) hj')
        have w1 := rowT_set (l := rowA N.n f) (p := t.i) (x := f t.i + t.m) (by rw [rowA_len]; exact hi')
        have w2 := rowT_set (l := rowA N.n fun q => g q + cell c p.2 q) (p := t.j) (x := g t.j + cell c p.2 t.j + t.m) (by rw [rowA_len]; exact hj')
        rw [rowA_set hi'] at w1
        rw [rowA_set hj'] at w2
        have hrow : ∀ (l : List Int) (Γ : List Tr), (rowT l :: Γ)[0]? = some (rowT l) := fun _ _ => rfl
        have ng : ∀ l, ∃ xs, rowT l = .l xs := fun l => ⟨_, rfl⟩
        refine Run.nx (Γ1 := [.c (netD N), .c (hD c), .c (osD os), .c (.int a), .c (.int (p.2 : Nat)), .c (nD p.1), rowT (rowA N.n fun q => if q = t.i then f t.i + t.m else f q), rowT (rowA N.n fun q => g q + cell c p.2 q), j8, .c (tieD t), .c (kD (some p.2))]) ?_ ?_
        · simp only [rowT, mpT] at k1 w1 ⊢
          simp [tieD, k1, w1]
        · refine Run.nx (Γ1 := [.c (netD N), .c (hD c), .c (osD os), .c (.int a), .c (.int (p.2 : Nat)), .c (nD p.1), rowT (rowA N.n fun q => if q = t.i then f t.i + t.m else f q), rowT (rowA N.n fun q => if q = t.j then g t.j + cell c p.2 t.j + t.m else g q + cell c p.2 q), j8, .c (tieD t), .c (kD (some p.2))]) ?_ (Run.nil (Run.nil ⟨.c (tieD t), .c (kD (some p.2)), ?_⟩))
          · simp only [rowT, mpT] at k2 w2 ⊢
            simp [tieD, k2, w2]
          · have a1 : (fun q => if q = t.i then f t.i + t.m else f q) = fun q => f q + offK false p.2 q (t, some p.2) := by
              funext q
              by_cases e : q = t.i
              · subst e; simp [offK, endp]
              · have : ¬ t.i = q := fun z => e z.symm
                simp [offK, endp, e, this]
            have a2 : (fun q => if q = t.j then g t.j + cell c p.2 t.j + t.m else g q + cell c p.2 q) = fun q => g q + offK true p.2 q (t, some p.2) + cell c p.2 q := by
              funext q
              by_cases e : q = t.j
              · subst e; simp [offK, endp]; omega
              · have : ¬ t.j = q := fun z => e z.symm
                simp [offK, endp, e, this]
            rw [a1, a2]
      · refine Run.skip (Γ1 := [.c (netD N), .c (hD c), .c (osD os), .c (.int a), .c (.int (p.2 : Nat)), .c (nD p.1), rowT (rowA N.n f), rowT (rowA N.n fun q => g q + cell c p.2 q), j8, .c (tieD t), .c (kD kd)]) (by simp [eq_k, z]) (Run.nil ⟨.c (tieD t), .c (kD kd), ?_⟩)
        have : ∀ side q, offK side p.2 q (t, kd) = 0 := fun side q => by simp [offK, z]
        simp [this]
    · rintro Γ ⟨j9, j10, rfl⟩
      rw [List.take_length]
      simp only [← offered_ite]
      refine Run.forM (c := nD) (xs := placesOf N.n p.1) (Γ1 := [.c (netD N), .c (hD c), .c (osD os), .c (.int a), .c (.int (p.2 : Nat)), .c (nD p.1), rowT (rowA N.n fun q => offeredA N os p.2 q false), rowT (rowA N.n fun q => offeredA N os p.2 q true + cell c p.2 q), j8, j9, .gone])
        (fun k Γ => ∃ j8, Γ = [.c (netD N), .c (hD c), .c (osD os), .c (.int (a + (((placesOf N.n p.1).take k).map (muchK N c os p)).sum)), .c (.int (p.2 : Nat)), .c (nD p.1), rowT (rowA N.n fun q => offeredA N os p.2 q false), rowT (rowA N.n fun q => offeredA N os p.2 q true + cell c p.2 q), j8, j9, .gone]) ?_ ⟨j8, by simp⟩ ?_ ?_
      · have := ev_places' (F := F) (Γ := [.c (netD N), .c (hD c), .c (osD os), .c (.int a), .c (.int (p.2 : Nat)), .c (nD p.1), rowT (rowA N.n fun q => offeredA N os p.2 q false), rowT (rowA N.n fun q => offeredA N os p.2 q true + cell c p.2 q), j8, j9, j10]) (n := N.n) (e := p.1) (s := 10) (u := 5) (rg := .pth 0 [.lit (.int 0)]) (by omega) (by simp [netD]) (by simp) (by decide) (by simp [nD])
        simp only [si1, this]
        simp [mpT, frz_m]
      · rintro k pl Γ hkk ⟨j8, rfl⟩
        have hpl := mem_places (List.mem_of_getElem? hkk)
        obtain ⟨l', h1, h2, gl'⟩ := s.get hk hpl.1
        have bc := b l' gl' _ (List.mem_of_getElem? h2)
        have b1 := offeredA_b o os p.2 pl false
        have b2 := offeredA_b o os p.2 pl true
        have k1 := rowT_kid (rowA_get (f := fun q => offeredA N os p.2 q false) hpl.1)
        have k2 := rowT_kid (rowA_get (f := fun q => offeredA N os p.2 q true + cell c p.2 q) hpl.1)
        have m1 := mul_sm (sm64 (i := offeredA N os p.2 pl false) (by omega)) (sm64 (i := offeredA N os p.2 pl false) (by omega))
        have s2 : sm (offeredA N os p.2 pl true + cell c p.2 pl) := sm64 (by omega)
        have m2 := mul_sm s2 s2
        rw [take_sum hkk]
        generalize (((placesOf N.n p.1).take k).map (muchK N c os p)).sum = d
        simp only [rowT, mpT] at k1 k2 ⊢
        refine ⟨_, rfl, ?_⟩
        refine Run.nx (Γ1 := [.c (netD N), .c (hD c), .c (osD os), .c (.int (a + d + sqr (offeredA N os p.2 pl false))), .c (.int (p.2 : Nat)), .c (nD p.1), .l ((rowA N.n fun q => offeredA N os p.2 q false).map fun x => .c (iD x)), .l ((rowA N.n fun q => offeredA N os p.2 q true + cell c p.2 q).map fun x => .c (iD x)), .c (nD pl), j9, .gone]) (by simp [nD, k1, m1, sqr]) ?_
        refine Run.nx (Γ1 := [.c (netD N), .c (hD c), .c (osD os), .c (.int (a + (d + muchK N c os p pl))), .c (.int (p.2 : Nat)), .c (nD p.1), .l ((rowA N.n fun q => offeredA N os p.2 q false).map fun x => .c (iD x)), .l ((rowA N.n fun q => offeredA N os p.2 q true + cell c p.2 q).map fun x => .c (iD x)), .c (nD pl), j9, .gone]) (by simp [nD, k2, m2, sqr, muchK, Int.add_assoc]) (Run.nil ⟨_, rfl⟩)
      · rintro Γ ⟨j8, rfl⟩
        rw [List.take_length]
        exact Run.nil ⟨.c (.int (p.2 : Nat)), .c (nD p.1), _, _, j8, j9, .gone, by rw [ts]⟩
  · rintro Γ ⟨j4, j5, j6, j7, j8, j9, j10, rfl⟩
    rw [List.take_length]
    exact Run.rt (t := .c (.int (muchA N c os))) (Γ1 := [.c (netD N), .c (hD c), .c (osD os), .gone, j4, j5, j6, j7, j8, j9, j10]) (by simp [muchA]) ⟨_, rfl, rfl⟩
end Hp
set_option Elab.async false
set_option linter.all false
set_option maxRecDepth 100000
set_option maxHeartbeats 400000
/-! the b-laws' rounds -/
namespace Hp
open PySem PySem.Spec PyProof.Rows L2 Hw
/-- behind a round -/
def Rnd (ns : List Int) (m M : Nat) (r : SR) : Prop := ∃ t J, r = .nx (.s ns :: t :: J) ∧ J.length = m ∧ Tp ns M t
theorem law_loop {F : Genv} {ns : List Int} {m K c : Nat} {bs : List CS} (hK : K ≤ 1000) (step : ∀ (k : Nat) t (J : List Tr), k < K → J.length = m → Tp ns (k * 100000) t → Run F bs (.s ns :: t :: .c (.int k) :: J) (Rnd ns (m + 1) (k * 100000 + 100000))) :
    ∃ Γ, exB F [.set 1 (.lst [.e (.var 0), .e (.lit (.int 0)), .e (.lit (.int 0))]), .for_ (.nm 2) (.rng1 (.lit (.int (K : Nat)))) (.ite (.and_ (.e (.prim (.cmp .Gt) [.pk 2, .e (.lit (.int (c : Nat)))])) (.e (.prim (.cmp .GtE) [.e (.pth 1 [.lit (.int 1)]), .e (.prim (.bi .len) [.pk 0])]))) [.brk] [] :: bs), .ret (.lit (.bool true))]
      (.s ns :: .gone :: .gone :: List.replicate m .gone) = some (.rt (.c (.bool true)) Γ) := by
  have go : Run F [.set 1 (.lst [.e (.var 0), .e (.lit (.int 0)), .e (.lit (.int 0))]), .for_ (.nm 2) (.rng1 (.lit (.int (K : Nat)))) (.ite (.and_ (.e (.prim (.cmp .Gt) [.pk 2, .e (.lit (.int (c : Nat)))])) (.e (.prim (.cmp .GtE) [.e (.pth 1 [.lit (.int 1)]), .e (.prim (.bi .len) [.pk 0])]))) [.brk] [] :: bs), .ret (.lit (.bool true))]
      (.s ns :: .gone :: .gone :: List.replicate m .gone) (fun r => ∃ Γ, r = .rt (.c (.bool true)) Γ) := by
    refine Run.nx (Γ1 := .s ns :: .l [.s ns, .c (.int 0), .c (.int 0)] :: .gone :: List.replicate m .gone) (by simp) ?_
    have fin : ∀ Γ, Run F [.ret (.lit (.bool true))] Γ (fun r => ∃ Γ, r = .rt (.c (.bool true)) Γ) := fun Γ =>
      Run.rt (t := .c (.bool true)) (Γ1 := Γ) (by simp) ⟨_, rfl⟩
    refine Run.forB (ds := (List.range K).map fun i : Nat => PyData.int (i : Nat)) (Γ1 := .s ns :: .l [.s ns, .c (.int 0), .c (.int 0)] :: .gone :: List.replicate m .gone)
      (fun i Γ => ∃ t J, Γ = .s ns :: t :: J ∧ J.length = m + 1 ∧ Tp ns (i * 100000) t) (fun Γ => True)
      (rng1_n (n := K) (by simp) (by omega)) ⟨_, _, rfl, by simp, (Tp.start ns).mono (by omega)⟩ ?_ (fun Γ _ => fin Γ) (fun Γ _ => fin Γ)
    rintro i d Γ hi ⟨t, J, rfl, hJ, ht⟩
    have hi2 := (List.getElem?_eq_some_iff.mp hi).1
    rw [List.length_map, List.length_range] at hi2
    rw [List.getElem?_map, List.getElem?_range hi2] at hi
    cases hi
    match J, hJ with
    | j2 :: J, hJ =>
      refine ⟨.s ns :: t :: .c (.int i) :: J, rfl, ?_⟩
      have ht0 := ht
      obtain ⟨a, c', rfl, _, _⟩ := ht
      refine Run.ite (k := decide (c < i) && decide (ns.length ≤ a)) (Γ1 := .s ns :: .l [.s ns, .c (.int a), .c (.int c')] :: .c (.int i) :: J) ?_ (fun _ => Run.bk (Γ1 := .s ns :: .l [.s ns, .c (.int a), .c (.int c')] :: .c (.int i) :: J) (by simp) trivial) (fun _ => Run.nil ?_)
      · by_cases h : c < i <;> simp [h]
      · refine (step i _ J hi2 (by simpa using hJ) ht0).imp ?_
        rintro r ⟨t', J', rfl, hJ', ht'⟩
        exact ⟨t', J', rfl, hJ', ht'.mono (by omega)⟩
  obtain ⟨r, e, Γ, rfl⟩ := go
  exact ⟨Γ, e⟩
theorem it_rng {F : Genv} {a : CE} {Γ Γ1 : List Tr} {n : Nat} (h : ev F a Γ = some (.ok (.c (.int (n : Nat))) Γ1)) (h1 : n ≤ 1000000) : evIt F (.rng1 a) Γ = some (.ok ((List.range n).map nD) Γ1) := rng1_n h h1
theorem it_lit {F : Genv} {Γ : List Tr} (n : Nat) (h1 : n ≤ 1000000) : evIt F (.rng1 (.lit (.int (n : Nat)))) Γ = some (.ok ((List.range n).map nD) Γ) := rng1_n (by simp) h1
theorem range_get {n i j : Nat} (h : (List.range n)[i]? = some j) : j = i ∧ i < n := by
  have h2 := (List.getElem?_eq_some_iff.mp h).1
  rw [List.length_range] at h2
  rw [List.getElem?_range h2] at h
  exact ⟨by simpa using h.symm, h2⟩
theorem lg9 {n : Int} (h : n.natAbs < 2 ^ 64) : n.natAbs.log2 < 9000 := Nat.lt_trans (lg_lt (k := 64) h (by decide)) (by decide)
theorem PD.pair {k s : Nat} {a b : PyData} (ha : PD k s a) (hb : PD k s b) : PD (k + 1) (3 + 2 * (s + 2)) (.tuple [a, b]) := PD.tuple (fun d hd => by
  simp only [List.mem_cons, List.mem_nil_iff, or_false] at hd
  rcases hd with rfl | rfl
  · exact ha
  · exact hb) (Nat.le_refl _)
theorem PD.trip {k s : Nat} {a b c : PyData} (ha : PD k s a) (hb : PD k s b) (hc : PD k s c) : PD (k + 1) (3 + 3 * (s + 2)) (.tuple [a, b, c]) := PD.tuple (fun d hd => by
  simp only [List.mem_cons, List.mem_nil_iff, or_false] at hd
  rcases hd with rfl | rfl | rfl
  · exact ha
  · exact hb
  · exact hc) (Nat.le_refl _)
theorem PD.big {i : Int} (h : i.natAbs < 2 ^ 1000) : PD 0 1010 (.int i) := by
  have l : i.natAbs.log2 < 1000 := lg_lt h (by decide)
  refine ⟨CD.int i, ?_, ?_⟩
  · simp only [PyData.showable, decide_eq_true_eq]; omega
  · simp only [szD]; omega
/-! ### greatest much, told -/
theorem offK_le (kind pl : Nat) (side : Bool) {n : Nat} : ∀ {ts : List Tie} {os : List (Option Nat)}, (∀ t ∈ ts, OkT n t) → ((ts.zip os).map (offK side kind pl)).sum ≤ (ts.map (oneA side pl)).sum
  | [], _, _ => by simp
  | t :: ts, [], h => by
    have h0 : 0 ≤ ((t :: ts).map (oneA side pl)).sum := (sum_le (f := oneA side pl) (b := 9) fun x hx => oneA_b (h x hx) side pl).1
    simpa using h0
  | t :: ts, o :: os, h => by
    have ih := offK_le kind pl side (ts := ts) (os := os) fun x hx => h x (List.mem_cons_of_mem _ hx)
    have h1 := h t List.mem_cons_self
    have := h1.lo
    simp only [List.zip_cons_cons, List.map_cons, List.sum_cons]
    have : offK side kind pl (t, o) ≤ oneA side pl t := by
      unfold offK oneA
      by_cases z : endp side t = pl <;> by_cases y : o = some kind <;> simp [z, y] <;> omega
    omega
theorem offered_le {N : Net} (o : OkN N) (os : List (Option Nat)) (kind pl : Nat) (side : Bool) : offeredA N os kind pl side ≤ outA N side pl := by
  rw [offered_ite]
  have := offK_le kind pl side (os := os) o.t
  have e : (N.ties.map (oneA side pl)).sum = outA N side pl := (fil_ite (fun t : Tie => t.m) (fun t => decide (endp side t = pl)) N.ties).symm
  rw [e] at this
  exact this
theorem sqr_le {a b : Int} (h0 : 0 ≤ a) (h : a ≤ b) : sqr a ≤ sqr b := Int.mul_le_mul h h h0 (by omega)
theorem sum_mono {α : Type} {f g : α → Int} : ∀ {xs : List α}, (∀ x ∈ xs, f x ≤ g x) → (xs.map f).sum ≤ (xs.map g).sum
  | [], _ => Int.le_refl _
  | x :: xs, h => by
    have := h x List.mem_cons_self
    have := sum_mono (f := f) (g := g) (xs := xs) fun y hy => h y (List.mem_cons_of_mem _ hy)
    simp only [List.map_cons, List.sum_cons]
    omega
theorem sum_zipIdx {α : Type} (f : α → Int) (l : List α) : (l.zipIdx.map fun p => f p.1).sum = (l.map f).sum := by
  have : (l.zipIdx.map fun p => f p.1) = l.map f := by
    apply List.ext_getElem?
    intro i
    simp only [List.getElem?_map, List.getElem?_zipIdx]
    cases l[i]? <;> rfl
  rw [this]
/-- no much is more than the greatest -/
theorem much_le {N : Net} (o : OkN N) {c : List (List Int)} {k : Int} (oc : OkH k N c) (os : List (Option Nat)) : muchA N c os ≤ greatA N k := by
  unfold muchA greatA
  rw [← sum_zipIdx (fun e => ((placesOf N.n e).map (grK N k)).sum) N.ends]
  refine sum_mono fun p hp => sum_mono fun pl hpl => ?_
  have hp := (List.mem_zipIdx_iff_getElem? (x := p)).mp hp
  have hk : p.2 < N.ends.length := (List.getElem?_eq_some_iff.mp hp).1
  obtain ⟨l, g1, g2, gl⟩ := oc.sh.get hk (mem_places hpl).1
  have bc := oc.b l gl _ (List.mem_of_getElem? g2)
  have b1 := offeredA_b o os p.2 pl false
  have b2 := offeredA_b o os p.2 pl true
  have l1 := offered_le o os p.2 pl false
  have l2 := offered_le o os p.2 pl true
  unfold muchK grK
  have s1 := sqr_le b1.1 l1
  have s2 := sqr_le (a := offeredA N os p.2 pl true + cell c p.2 pl) (b := outA N true pl + k) (by omega) (by omega)
  omega
theorem sqr_lt {a b : Int} (h0 : 0 ≤ a) (h : a < b) : sqr a < sqr b := by
  have h1 : a * a ≤ a * b := Int.mul_le_mul_of_nonneg_left (by omega) h0
  have h2 : a * b < b * b := Int.mul_lt_mul_of_pos_right h (by omega)
  unfold sqr; omega
theorem sum_lt {α : Type} {f g : α → Int} : ∀ {xs : List α}, xs ≠ [] → (∀ x ∈ xs, f x < g x) → (xs.map f).sum < (xs.map g).sum
  | [], h, _ => absurd rfl h
  | x :: xs, _, h => by
    have h1 := h x List.mem_cons_self
    have h2 := sum_mono (f := f) (g := g) (xs := xs) fun y hy => Int.le_of_lt (h y (List.mem_cons_of_mem _ hy))
    simp only [List.map_cons, List.sum_cons]
    omega
theorem great_lt {N : Net} (o : OkN N) (hn : 1 < N.n) {k : Int} (h0 : 0 ≤ k) : greatA N k < greatA N (k + 1) := by
  refine sum_lt (by intro z; have := o.e1; rw [z] at this; simp at this) fun e he => sum_lt ?_ fun pl hpl => ?_
  · intro z
    have : (if e = 0 then 1 else 0) ∈ placesOf N.n e := by
      unfold placesOf
      rw [List.mem_filter, List.mem_range]
      by_cases e0 : e = 0 <;> simp [e0] <;> omega
    rw [z] at this; simp at this
  · have b2 := outA_b o true pl
    unfold grK
    have := sqr_lt (a := outA N true pl + k) (b := outA N true pl + (k + 1)) (by omega) (by omega)
    omega
theorem great_b {N : Net} (o : OkN N) {k : Int} (h0 : 0 ≤ k) (h9 : k ≤ 9) : 0 ≤ greatA N k ∧ greatA N k ≤ 100000000 := by
  have h1 : ∀ e ∈ N.ends, 0 ≤ ((placesOf N.n e).map (grK N k)).sum ∧ ((placesOf N.n e).map (grK N k)).sum ≤ 10000000 := by
    intro e he
    have := sum_le (f := grK N k) (b := 1000000) (xs := placesOf N.n e) fun pl hpl => by
      have b1 := outA_b o false pl
      have b2 := outA_b o true pl
      unfold grK
      have p1 := sqr_le (a := 0) (b := outA N false pl) (by omega) b1.1
      have p2 := sqr_le (a := 0) (b := outA N true pl + k) (by omega) (by omega)
      have q1 := sqr_le (a := outA N false pl) (b := 576) b1.1 b1.2
      have q2 := sqr_le (a := outA N true pl + k) (b := 585) (by omega) (by omega)
      have e0 : sqr 0 = 0 := rfl
      have e1 : sqr 576 = 331776 := rfl
      have e2 : sqr 585 = 342225 := rfl
      omega
    have l : (placesOf N.n e).length ≤ 8 := by
      unfold placesOf
      have := List.length_filter_le (fun p => !decide (p = e)) (List.range N.n)
      rw [List.length_range] at this
      have := o.n8; omega
    omega
  have := sum_le h1
  unfold greatA
  have := o.e4
  omega
end Hp
set_option Elab.async false
set_option linter.all false
set_option maxRecDepth 100000
set_option maxHeartbeats 400000
/-! beats -/
namespace Hp
open PySem PySem.Spec PyProof.Rows L2 Hw
/-! ### heaps as owned lists of lists -/
def hT (H : List (List Int)) : Tr := .l (H.map rowT)
def setC (H : List (List Int)) (k p : Nat) (x : Int) : List (List Int) := H.set k ((H[k]?.getD []).set p x)
theorem Sh.setC {N : Net} {H : List (List Int)} (s : Sh N H) {k : Nat} (hk : k < N.ends.length) (p : Nat) (x : Int) : Sh N (setC H k p x) := by
  refine ⟨by unfold Hp.setC; rw [List.length_set]; exact s.len, fun l hl => ?_⟩
  unfold Hp.setC at hl
  have hk' : k < H.length := by rw [s.len]; exact hk
  rcases List.mem_or_eq_of_mem_set hl with h | h
  · exact s.l l h
  · subst h
    rw [List.length_set, List.getElem?_eq_getElem hk']
    exact s.l _ (List.getElem_mem hk')
theorem cell_setC {N : Net} {H : List (List Int)} (s : Sh N H) {k p : Nat} (hk : k < N.ends.length) (hp : p < N.n) (x : Int) (k' p' : Nat) : cell (setC H k p x) k' p' = if k' = k ∧ p' = p then x else cell H k' p' := by
  have hk' : k < H.length := by rw [s.len]; exact hk
  obtain ⟨l, g1, g2, gl⟩ := s.get hk hp
  have ll := s.l l gl
  unfold Hp.setC cell
  rw [g1]
  by_cases e : k' = k
  · subst e
    rw [List.getElem?_set_self hk', g1]
    show ((l.set p x)[p']?).getD 0 = _
    by_cases e2 : p' = p
    · subst e2; rw [List.getElem?_set_self (by omega)]; simp
    · rw [List.getElem?_set_ne (fun z => e2 z.symm)]; simp [e2]
  · rw [List.getElem?_set_ne (fun z => e z.symm)]; simp [e]
theorem hT_kid {H : List (List Int)} {k : Nat} {l : List Int} (h : H[k]? = some l) : kidT (hT H) (k : Int) = some (rowT l) := by simp [hT, h]
theorem hT_put {N : Net} {H : List (List Int)} (s : Sh N H) {k p : Nat} (hk : k < N.ends.length) (hp : p < N.n) (x : Int) : putP (setAt (p : Int) (.c (.int x))) [(k : Int)] (hT H) = some (hT (setC H k p x)) := by
  obtain ⟨l, g1, _, gl⟩ := s.get hk hp
  have hk' : k < H.length := by rw [s.len]; exact hk
  have w := rowT_set (l := l) (p := p) (x := x) (by rw [s.l l gl]; exact hp)
  unfold hT Hp.setC
  rw [putP]
  simp only [List.length_map, ixN_n hk', Option.bind_some, List.getElem?_map, g1, Option.map_some, w]
  simp [List.map_set]
theorem rowT_frz (l : List Int) : frz (rowT l) = some (.list (l.map iD)) := mpT_frz iD l
theorem hT_frz : ∀ H : List (List Int), frz (hT H) = some (.list (H.map fun l => .list (l.map iD))) := by
  intro H
  have : ∀ H : List (List Int), frzL (H.map rowT) = some (H.map fun l => PyData.list (l.map iD)) := by
    intro H
    induction H with
    | nil => simp [frzL]
    | cons l H ih => simp [frzL, rowT_frz, ih]
  simp [hT, frz, this]
/-! ### moves -/
abbrev Mv := Option (Nat × Int)
def mvD : Mv → PyData
  | none => .none
  | some p => .tuple [.int (p.1 : Nat), .int p.2]
def mvS (H : List (List Int)) (p : Tie × Option Nat) : List (List Int) × Mv := match p.2 with
  | none => (H, none)
  | some k => (setC H k p.1.i (cell H k p.1.i - (if cell H k p.1.i < p.1.m then cell H k p.1.i else p.1.m)), if 0 < (if cell H k p.1.i < p.1.m then cell H k p.1.i else p.1.m) then some (k, if cell H k p.1.i < p.1.m then cell H k p.1.i else p.1.m) else none)
def mvF (s : List (List Int) × List Mv) (p : Tie × Option Nat) : List (List Int) × List Mv := ((mvS s.1 p).1, s.2 ++ [(mvS s.1 p).2])
def mvAll (N : Net) (h : List (List Int)) (os : List (Option Nat)) : List (List Int) × List Mv := (N.ties.zip os).foldl mvF (h, [])
def movesA (N : Net) (h : List (List Int)) (os : List (Option Nat)) : List Mv := (mvAll N h os).2
theorem take_fold {α β : Type} {f : β → α → β} {xs : List α} {i : Nat} {x : α} {b : β} (h : xs[i]? = some x) : (xs.take (i + 1)).foldl f b = f ((xs.take i).foldl f b) x := by
  rw [take_snoc h, List.foldl_append]; rfl
theorem ev_rows {F : Genv} {Γ : List Tr} {h : List (List Int)} {s u : Nat} (hs : s < Γ.length) (hu : s ≠ u) (he : Γ[u]? = some (.c (hD h))) (hl : h.length ≤ 1000) :
    ev F (.lc [s] (.nm s) (.sq (.var u)) [] (.prim (.bi .list) [.pk s])) Γ = some (.ok (hT h) (Γ.set s .gone)) := by
  have := lc_map (F := F) (own := [s]) (tg := .nm s) (it := .sq (.var u)) (elt := .prim (.bi .list) [.pk s]) (c := lnD) (xs := h) (Γ := Γ) (Γ1 := Γ) (Γ0 := Γ.set s .gone) rowT (by simp [he, hD]) rfl (fun l hl => by
    have g1 : ((Γ.set s .gone).set s (.c (lnD l)))[s]? = some (.c (.tuple (l.map iD))) := List.getElem?_set_self (by rw [List.length_set]; exact hs)
    have o1 : slotOk ((Γ.set s .gone).set s (.c (lnD l))) s = true := by unfold slotOk; rw [g1]
    refine ⟨(Γ.set s .gone).set s (.c (lnD l)), (Γ.set s .gone).set s (.c (lnD l)), rfl, ?_, by simp only [wipe1, wipe0, List.set_set]⟩
    rw [List.set_set] at *
    simp [o1, g1, lT, rowT, mpT]) (sz (by omega))
  exact this
theorem mv_sh {N : Net} {s : List (List Int) × List Mv} {p : Tie × Option Nat} (h : Sh N s.1) (hk : ∀ k, p.2 = some k → k < N.ends.length) : Sh N (mvF s p).1 := by
  unfold mvF mvS
  cases e : p.2 with
  | none => exact h
  | some k => exact h.setC (hk k e) _ _
theorem mv_len (s : List (List Int) × List Mv) (p : Tie × Option Nat) : (mvF s p).2.length = s.2.length + 1 := by simp [mvF]
def S_moves_of (run : List Tr → Option FR) : Prop := ∀ N h os, OkN N → Sh N h → OkO N os → run [.c (netD N), .c (hD h), .c (osD os)] = some (.ok (mpT mvD (movesA N h os)) [.gone, .gone, .gone])
theorem w_moves_of (F : Genv) : S_moves_of (r_moves_of F) := by
  intro N h os o s oo
  have l64 := o.tlen
  have ol := oo.len
  refine run_ret rfl (by decide) ?_
  have er := ev_rows (F := F) (Γ := [.c (netD N), .c (hD h), .c (osD os), .gone, .gone, .gone, .gone, .gone, .gone]) (h := h) (s := 8) (u := 1) (by simp) (by decide) (by simp) (by have := s.len; have := o.e4; omega)
  refine Run.nx (Γ1 := [.c (netD N), .c (hD h), .c (osD os), hT h, .gone, .gone, .gone, .gone, .gone]) (by rw [sx1]; exact congrArg (fun r => match r with | some (ER.ok t Γ1) => some (SR.nx (Γ1.set 3 t)) | some (ER.ex x Γ1) => some (SR.ex x Γ1) | none => none) er) ?_
  refine Run.nx (Γ1 := [.c (netD N), .c (hD h), .c (osD os), hT h, .l [], .gone, .gone, .gone, .gone]) (by simp) ?_
  refine Run.forM (c := fun p : Tie × Option Nat => .tuple [tieD p.1, kD p.2]) (xs := N.ties.zip os) (Γ1 := [.c (netD N), .c (hD h), .c (osD os), hT h, .l [], .gone, .gone, .gone, .gone])
    (fun i Γ => ∃ s j5 j6 j7, Γ = [.c (netD N), .c (hD h), .c (osD os), hT s.1, mpT mvD s.2, j5, j6, j7, .gone] ∧ s = ((N.ties.zip os).take i).foldl mvF (h, []) ∧ Sh N s.1 ∧ s.2.length = i) ?_ ⟨(h, []), _, _, _, rfl, rfl, s, rfl⟩ ?_ ?_
  · rw [← zip_is]
    exact it_zip (ta := .c (.tuple (N.ties.map tieD))) (tb := .c (osD os)) (Γ1 := [.c (netD N), .c (hD h), .c (osD os), hT h, .l [], .gone, .gone, .gone, .gone]) (by simp [netD]) (by simp) rfl rfl rfl rfl
  · rintro i ⟨t, k⟩ Γ hi ⟨st, j5, j6, j7, rfl, est, sh, sl⟩
    have hm := List.of_mem_zip (List.mem_of_getElem? hi)
    have ot := o.t t hm.1
    have hil := (List.getElem?_eq_some_iff.mp hi).1
    rw [List.length_zip] at hil
    have hz : st.2.length < sizeLine := Nat.lt_of_le_of_lt (show st.2.length ≤ 100 by omega) (by decide)
    have ef := take_fold (f := mvF) (b := (h, ([] : List Mv))) hi
    rw [← est] at ef
    refine ⟨[.c (netD N), .c (hD h), .c (osD os), hT st.1, mpT mvD st.2, .c (tieD t), .c (kD k), j7, .gone], by simp, ?_⟩
    refine Run.nx (Γ1 := [.c (netD N), .c (hD h), .c (osD os), hT st.1, mpT mvD st.2, .c (tieD t), .c (kD k), .c (.int 0), .gone]) (by simp) ?_
    cases k with
    | none =>
      refine Run.skip (Γ1 := [.c (netD N), .c (hD h), .c (osD os), hT st.1, mpT mvD st.2, .c (tieD t), .c (kD none), .c (.int 0), .gone]) (by simp) ?_
      refine Run.nx (Γ1 := [.c (netD N), .c (hD h), .c (osD os), hT st.1, mpT mvD (st.2 ++ [none]), .c (tieD t), .c (kD none), .c (.int 0), .gone]) (by simp [mpT, hz, mvD]) (Run.nil ⟨(st.1, st.2 ++ [none]), _, _, _, rfl, ?_, sh, by simp [sl]⟩)
      rw [ef]; rfl
    | some k =>
      have hk := oo.k k hm.2
      obtain ⟨l, g1, g2, gl⟩ := sh.get hk ot.i
      have k1 := hT_kid g1
      have k2 := rowT_kid g2
      let many := if cell st.1 k t.i < t.m then cell st.1 k t.i else t.m
      have pw := hT_put sh hk ot.i (cell st.1 k t.i - many)
      refine Run.iteT (Γ1 := [.c (netD N), .c (hD h), .c (osD os), hT st.1, mpT mvD st.2, .c (tieD t), .c (kD (some k)), .c (.int 0), .gone]) (by simp) ?_
      refine Run.nx (Γ1 := [.c (netD N), .c (hD h), .c (osD os), hT st.1, mpT mvD st.2, .c (tieD t), .c (kD (some k)), .c (.int many), .gone]) ?_ ?_
      · have hh : hT st.1 = .l (st.1.map rowT) := rfl
        rw [hh] at k1 ⊢
        simp [tieD, k1, k2, rowT_stl, many]
      · refine Run.nx (Γ1 := [.c (netD N), .c (hD h), .c (osD os), hT (setC st.1 k t.i (cell st.1 k t.i - many)), mpT mvD st.2, .c (tieD t), .c (kD (some k)), .c (.int many), .gone]) ?_ (Run.nil ?_)
        · have hh : hT st.1 = .l (st.1.map rowT) := rfl
          rw [hh] at k1 pw ⊢
          simp [tieD, k1, k2, rowT_stl, pw]
        · have e0 : mvF st (t, some k) = (setC st.1 k t.i (cell st.1 k t.i - many), st.2 ++ [if 0 < many then some (k, many) else none]) := rfl
          refine Run.nx (Γ1 := [.c (netD N), .c (hD h), .c (osD os), hT (setC st.1 k t.i (cell st.1 k t.i - many)), mpT mvD (st.2 ++ [if 0 < many then some (k, many) else none]), .c (tieD t), .c (kD (some k)), .c (.int many), .gone]) ?_ (Run.nil ⟨_, _, _, _, rfl, by rw [ef, e0], sh.setC hk _ _, by simp [sl]⟩)
          have mp : ∀ xs : List Mv, mpT mvD xs = .l (xs.map fun x => .c (mvD x)) := fun _ => rfl
          by_cases z : 0 < many <;> simp [mp, z, hz, mvD]
  · rintro Γ ⟨st, j5, j6, j7, rfl, est, sh, sl⟩
    rw [List.take_length] at est
    have : st.2 = movesA N h os := by rw [est]; rfl
    rw [this]
    exact Run.rt (t := mpT mvD (movesA N h os)) (Γ1 := [.c (netD N), .c (hD h), .c (osD os), hT st.1, .gone, j5, j6, j7, .gone]) (by simp [mpT]) ⟨_, rfl, rfl⟩
/-! ### the heaps behind moves -/
def mvsD (mv : List Mv) : PyData := .list (mv.map mvD)
structure OkM (N : Net) (mv : List Mv) : Prop where
  len : mv.length = N.ties.length
  k : ∀ p : Nat × Int, some p ∈ mv → p.1 < N.ends.length
theorem mv_ok {N : Net} {h : List (List Int)} {os : List (Option Nat)} (oo : OkO N os) : OkM N (movesA N h os) := by
  have go : ∀ (ps : List (Tie × Option Nat)) (s : List (List Int) × List Mv), (∀ p ∈ ps, ∀ k, p.2 = some k → k < N.ends.length) → (∀ p : Nat × Int, some p ∈ s.2 → p.1 < N.ends.length) →
      (ps.foldl mvF s).2.length = s.2.length + ps.length ∧ ∀ p : Nat × Int, some p ∈ (ps.foldl mvF s).2 → p.1 < N.ends.length := by
    intro ps
    induction ps with
    | nil => intro s _ h; exact ⟨rfl, h⟩
    | cons q ps ih =>
      intro s h1 h2
      have := ih (mvF s q) (fun p hp => h1 p (List.mem_cons_of_mem _ hp)) (fun p hp => by
        rcases List.mem_append.mp hp with hp | hp
        · exact h2 p hp
        · simp only [List.mem_singleton] at hp
          unfold mvS at hp
          cases e : q.2 with
          | none => rw [e] at hp; cases hp
          | some k =>
            rw [e] at hp
            have hk := h1 q List.mem_cons_self k e
            simp only at hp
            by_cases z : 0 < (if cell s.1 k q.1.i < q.1.m then cell s.1 k q.1.i else q.1.m)
            · rw [if_pos z] at hp; cases hp; exact hk
            · rw [if_neg z] at hp; cases hp)
      refine ⟨?_, this.2⟩
      show (ps.foldl mvF (mvF s q)).2.length = _
      rw [this.1, mv_len, List.length_cons]; omega
  have := go (N.ties.zip os) (h, []) (fun p hp k e => oo.k k (by rw [← e]; exact (List.of_mem_zip (a := p.1) (b := p.2) hp).2)) (by simp)
  refine ⟨?_, this.2⟩
  show ((N.ties.zip os).foldl mvF (h, [])).2.length = _
  rw [this.1, List.length_zip, oo.len]; simp
def goF (N : Net) (s : List (List Int) × List Int) (p : Tie × Mv) : List (List Int) × List Int := match p.2 with
  | none => s
  | some (k, m) =>
    if N.ends[k]? = some p.1.j then (setC s.1 k p.1.i (cell s.1 k p.1.i - m), s.2.set k ((s.2[k]?).getD 0 + m))
    else (setC (setC s.1 k p.1.i (cell s.1 k p.1.i - m)) k p.1.j (cell (setC s.1 k p.1.i (cell s.1 k p.1.i - m)) k p.1.j + m), s.2)
def goneA (N : Net) (h : List (List Int)) (mv : List Mv) : List (List Int) × List Int := (N.ties.zip mv).foldl (goF N) (h, rowA h.length fun _ => 0)
theorem go_sh {N : Net} {s : List (List Int) × List Int} {p : Tie × Mv} (h : Sh N s.1) (hl : s.2.length = N.ends.length) (hk : ∀ q, p.2 = some q → q.1 < N.ends.length) : Sh N (goF N s p).1 ∧ (goF N s p).2.length = N.ends.length := by
  unfold goF
  cases e : p.2 with
  | none => exact ⟨h, hl⟩
  | some q =>
    obtain ⟨k, m⟩ := q
    have := hk _ e
    dsimp only
    split
    · exact ⟨h.setC this _ _, by simpa using hl⟩
    · exact ⟨(h.setC this _ _).setC this _ _, hl⟩
theorem gone_sh {N : Net} {h : List (List Int)} {mv : List Mv} (s : Sh N h) (om : OkM N mv) : Sh N (goneA N h mv).1 ∧ (goneA N h mv).2.length = N.ends.length := by
  have go : ∀ (ps : List (Tie × Mv)) (st : List (List Int) × List Int), (∀ p ∈ ps, ∀ q, p.2 = some q → q.1 < N.ends.length) → Sh N st.1 → st.2.length = N.ends.length → Sh N (ps.foldl (goF N) st).1 ∧ (ps.foldl (goF N) st).2.length = N.ends.length := by
    intro ps
    induction ps with
    | nil => intro st _ a b; exact ⟨a, b⟩
    | cons p ps ih =>
      intro st h1 a b
      have := go_sh (p := p) a b (h1 p List.mem_cons_self)
      exact ih _ (fun p hp => h1 p (List.mem_cons_of_mem _ hp)) this.1 this.2
  exact go _ _ (fun p hp q e => om.k q (by rw [← e]; exact (List.of_mem_zip (a := p.1) (b := p.2) hp).2)) s (by rw [rowA_len]; exact s.len)
theorem rows_tup {F : Genv} {Γ : List Tr} {H : List (List Int)} {s u : Nat} (hs : s < Γ.length) (hu : s ≠ u) (he : Γ[u]? = some (hT H)) (hl : H.length ≤ 1000) :
    ∃ Γ', ev F (.lc [s] (.nm s) (.sq (.var u)) [] (.prim (.bi .tuple) [.pk s])) Γ = some (.ok (mpT lnD H) Γ') ∧ Γ' = (Γ.set u (.c (.list (H.map fun l => .list (l.map iD))))).set s .gone := by
  have e1 : evIt F (.sq (.var u)) Γ = some (.ok (H.map fun l => .list (l.map iD)) (Γ.set u (.c (.list (H.map fun l => .list (l.map iD)))))) := by
    have hf := hT_frz H
    simp only [hT] at he hf
    simp [he, hf]
  have := lc_map (F := F) (own := [s]) (tg := .nm s) (it := .sq (.var u)) (elt := .prim (.bi .tuple) [.pk s]) (c := fun l : List Int => PyData.list (l.map iD)) (xs := H) (Γ := Γ) (Γ1 := Γ.set u (.c (.list (H.map fun l => .list (l.map iD))))) (Γ0 := (Γ.set u (.c (.list (H.map fun l => .list (l.map iD))))).set s .gone) (fun l => .c (lnD l)) e1 rfl (fun l hl => by
    have hs2 : s < (Γ.set u (.c (.list (H.map fun l => .list (l.map iD))))).length := by rw [List.length_set]; exact hs
    generalize Γ.set u (.c (.list (H.map fun l => .list (l.map iD)))) = Γ2 at *
    have g1 : (Γ2.set s (.c (.list (l.map iD))))[s]? = some (.c (.list (l.map iD))) := List.getElem?_set_self hs2
    have o1 : slotOk (Γ2.set s (.c (.list (l.map iD)))) s = true := by unfold slotOk; rw [g1]
    refine ⟨(Γ2.set s .gone).set s (.c (.list (l.map iD))), (Γ2.set s .gone).set s (.c (.list (l.map iD))), rfl, ?_, by simp only [wipe1, wipe0, List.set_set]⟩
    rw [List.set_set] at *
    simp [o1, g1, lnD]) (sz (by omega))
  exact ⟨_, this, rfl⟩
end Hp
set_option Elab.async false
set_option linter.all false
set_option maxRecDepth 100000
set_option maxHeartbeats 400000
namespace Hp
open PySem PySem.Spec PyProof.Rows L2 Hw
@[simp] theorem mvD_n : mvD none = .none := rfl
@[simp] theorem mvD_s (p : Nat × Int) : mvD (some p) = .tuple [.int (p.1 : Nat), .int p.2] := rfl
@[simp] theorem settle_m {α : Type} (h : α → PyData) (xs : List α) : Hw.settle (mpT h xs) = some (.c (.list (xs.map h))) := by
  have := mpT_frz h xs
  simp only [mpT] at this ⊢
  simp [Hw.settle, this]
def S_gone_by (run : List Tr → Option FR) : Prop := ∀ N h mv, OkN N → Sh N h → OkM N mv → run [.c (netD N), .c (hD h), .c (mvsD mv)] = some (.ok (.c (.tuple [hD (goneA N h mv).1, lnD (goneA N h mv).2])) [.gone, .gone, .gone])
theorem w_gone_by (F : Genv) : S_gone_by (r_gone_by F) := by
  intro N h mv o s om
  have l64 := o.tlen
  have l4 := o.e4
  have ol := om.len
  have hl := s.len
  refine run_ret rfl (by decide) ?_
  have er := ev_rows (F := F) (Γ := [.c (netD N), .c (hD h), .c (mvsD mv), .gone, .gone, .gone, .gone, .gone, .gone, .gone]) (h := h) (s := 7) (u := 1) (by simp) (by decide) (by simp) (by omega)
  refine Run.nx (Γ1 := [.c (netD N), .c (hD h), .c (mvsD mv), hT h, .gone, .gone, .gone, .gone, .gone, .gone]) (by rw [sx1]; exact congrArg (fun r => match r with | some (ER.ok t Γ1) => some (SR.nx (Γ1.set 3 t)) | some (ER.ex x Γ1) => some (SR.ex x Γ1) | none => none) er) ?_
  have rz := rep_zero h.length (by omega)
  refine Run.nx (Γ1 := [.c (netD N), .c (hD h), .c (mvsD mv), hT h, rowT (rowA h.length fun _ => 0), .gone, .gone, .gone, .gone, .gone]) (by simp [hD, rz]) ?_
  refine Run.forM (c := fun p : Tie × Mv => .tuple [tieD p.1, mvD p.2]) (xs := N.ties.zip mv) (Γ1 := [.c (netD N), .c (hD h), .c (mvsD mv), hT h, rowT (rowA h.length fun _ => 0), .gone, .gone, .gone, .gone, .gone])
    (fun i Γ => ∃ s j5 j6 j8 j9, Γ = [.c (netD N), .c (hD h), .c (mvsD mv), hT s.1, rowT s.2, j5, j6, .gone, j8, j9] ∧ s = ((N.ties.zip mv).take i).foldl (goF N) (h, rowA h.length fun _ => 0) ∧ Sh N s.1 ∧ s.2.length = N.ends.length) ?_ ⟨(h, rowA h.length fun _ => 0), _, _, _, _, rfl, rfl, s, by rw [rowA_len]; exact hl⟩ ?_ ?_
  · rw [← zip_is]
    exact it_zip (ta := .c (.tuple (N.ties.map tieD))) (tb := .c (mvsD mv)) (Γ1 := [.c (netD N), .c (hD h), .c (mvsD mv), hT h, rowT (rowA h.length fun _ => 0), .gone, .gone, .gone, .gone, .gone]) (by simp [netD]) (by simp) rfl rfl rfl rfl
  · rintro i ⟨t, q⟩ Γ hi ⟨st, j5, j6, j8, j9, rfl, est, sh, sl⟩
    have hm := List.of_mem_zip (List.mem_of_getElem? hi)
    have ot := o.t t hm.1
    have ef := take_fold (f := goF N) (b := (h, rowA h.length fun _ => 0)) hi
    rw [← est] at ef
    refine ⟨[.c (netD N), .c (hD h), .c (mvsD mv), hT st.1, rowT st.2, .c (tieD t), .c (mvD q), .gone, j8, j9], by simp, ?_⟩
    cases q with
    | none =>
      refine Run.skip (Γ1 := [.c (netD N), .c (hD h), .c (mvsD mv), hT st.1, rowT st.2, .c (tieD t), .c (mvD none), .gone, j8, j9]) (by simp) (Run.nil ⟨st, _, _, _, _, rfl, ?_, sh, sl⟩)
      rw [ef]; rfl
    | some q =>
      obtain ⟨k, m⟩ := q
      have hk := om.k _ hm.2
      have hk : k < N.ends.length := hk
      obtain ⟨l, g1, g2, gl⟩ := sh.get hk ot.i
      have k1 := hT_kid g1
      have k2 := rowT_kid g2
      have pw := hT_put sh hk ot.i (cell st.1 k t.i - m)
      have sh2 := sh.setC hk t.i (cell st.1 k t.i - m)
      have ee : N.ends[k]? = some N.ends[k] := List.getElem?_eq_getElem hk
      refine Run.iteT (Γ1 := [.c (netD N), .c (hD h), .c (mvsD mv), hT st.1, rowT st.2, .c (tieD t), .c (mvD (some (k, m))), .gone, j8, j9]) (by simp) ?_
      refine Run.nx (Γ1 := [.c (netD N), .c (hD h), .c (mvsD mv), hT st.1, rowT st.2, .c (tieD t), .c (mvD (some (k, m))), .gone, .c (.int k), .c (.int m)]) (by simp) ?_
      refine Run.nx (Γ1 := [.c (netD N), .c (hD h), .c (mvsD mv), hT (setC st.1 k t.i (cell st.1 k t.i - m)), rowT st.2, .c (tieD t), .c (mvD (some (k, m))), .gone, .c (.int k), .c (.int m)]) ?_ ?_
      · have hh : hT st.1 = .l (st.1.map rowT) := rfl
        rw [hh] at k1 pw ⊢
        simp [tieD, k1, k2, rowT_stl, pw]
      generalize hH : setC st.1 k t.i (cell st.1 k t.i - m) = H2 at *
      have netk : kidD (netD N) 1 = some (.tuple (N.ends.map nD)) := rfl
      by_cases z : N.ends[k] = t.j
      · refine Run.iteT (Γ1 := [.c (netD N), .c (hD h), .c (mvsD mv), hT H2, rowT st.2, .c (tieD t), .c (mvD (some (k, m))), .gone, .c (.int k), .c (.int m)]) (by simp [tieD, netk, ee, nD, z]) ?_
        have hk2 : k < st.2.length := by omega
        have g3 : st.2[k]? = some st.2[k] := List.getElem?_eq_getElem hk2
        have k3 := rowT_kid g3
        have w3 := rowT_set (x := st.2[k] + m) hk2
        refine Run.nx (Γ1 := [.c (netD N), .c (hD h), .c (mvsD mv), hT H2, rowT (st.2.set k (st.2[k] + m)), .c (tieD t), .c (mvD (some (k, m))), .gone, .c (.int k), .c (.int m)]) ?_ (Run.nil (Run.nil (Run.nil ⟨(H2, st.2.set k (st.2[k] + m)), _, _, _, _, rfl, ?_, sh2, by simpa using sl⟩)))
        · simp only [rowT, mpT] at k3 w3 ⊢
          simp [k3, w3]
        · rw [ef]
          simp only [goF, ee, z, if_true, hH, g3, Option.getD_some]
      · refine Run.iteF (Γ1 := [.c (netD N), .c (hD h), .c (mvsD mv), hT H2, rowT st.2, .c (tieD t), .c (mvD (some (k, m))), .gone, .c (.int k), .c (.int m)]) (by
          have : ¬ t.j = N.ends[k] := fun e => z e.symm
          simp [tieD, netk, ee, nD, this]) ?_
        obtain ⟨l', h1, h2, _⟩ := sh2.get hk ot.j
        have k3 := hT_kid h1
        have k4 := rowT_kid h2
        have pw2 := hT_put sh2 hk ot.j (cell H2 k t.j + m)
        refine Run.nx (Γ1 := [.c (netD N), .c (hD h), .c (mvsD mv), hT (setC H2 k t.j (cell H2 k t.j + m)), rowT st.2, .c (tieD t), .c (mvD (some (k, m))), .gone, .c (.int k), .c (.int m)]) ?_ (Run.nil (Run.nil (Run.nil ⟨(setC H2 k t.j (cell H2 k t.j + m), st.2), _, _, _, _, rfl, ?_, sh2.setC hk _ _, sl⟩)))
        · have hh : hT H2 = .l (H2.map rowT) := rfl
          rw [hh] at k3 pw2 ⊢
          simp [tieD, k3, k4, rowT_stl, pw2]
        · rw [ef]
          have : ¬ (some N.ends[k] = some t.j) := fun e => z (by simpa using e)
          simp only [goF, ee, this, if_false, hH]
  · rintro Γ ⟨st, j5, j6, j8, j9, rfl, est, sh, sl⟩
    rw [List.take_length] at est
    have e0 : st = goneA N h mv := est
    rw [← e0]
    obtain ⟨Γ', e1, e2⟩ := rows_tup (F := F) (Γ := [.c (netD N), .c (hD h), .c (mvsD mv), hT st.1, rowT st.2, j5, j6, .gone, j8, j9]) (H := st.1) (s := 7) (u := 3) (by simp) (by decide) (by simp) (by rw [sh.len]; omega)
    have t1 := tuple_m lnD st.1
    have t2 := tuple_m iD st.2
    refine Run.rt (t := .c (.tuple [hD st.1, lnD st.2])) (Γ1 := Γ') ?_ ⟨_, rfl, by rw [e2]; rfl⟩
    have ok4 : slotOk Γ' 4 = true := by rw [e2]; rfl
    have g4 : Γ'[4]? = some (rowT st.2) := by rw [e2]; rfl
    have t1' : biEv .tuple [mpT lnD st.1] = some (.c (hD st.1)) := t1
    have t2' : biEv .tuple [rowT st.2] = some (.c (lnD st.2)) := t2
    simp [e1, ok4, g4, t1', t2']
/-! ### comers come -/
def addL (p : List Int × List Int) : List Int := (p.1.zip p.2).map fun q => q.1 + q.2
def addH (h c : List (List Int)) : List (List Int) := (h.zip c).map addL
theorem addH_sh {N : Net} {h c : List (List Int)} (s : Sh N h) (r : Sh N c) : Sh N (addH h c) := by
  refine ⟨by simp [addH, s.len, r.len], fun l hl => ?_⟩
  obtain ⟨p, hp, rfl⟩ := List.mem_map.mp hl
  have hp' := List.of_mem_zip (a := p.1) (b := p.2) hp
  simp [addL, s.l _ hp'.1, r.l _ hp'.2]
/-- [one + more for one, more in zip(a, b)] -/
theorem ev_addL {F : Genv} {Γ Γ2 : List Tr} {a b : List Int} {x y : Nat} {e1 e2 : CE} {d1 d2 : PyData} (hx : x < Γ2.length) (hy : y < Γ2.length) (hxy : x ≠ y) (h1 : ∃ Γ1 t1 t2, ev F e1 Γ = some (.ok t1 Γ1) ∧ ev F e2 Γ1 = some (.ok t2 Γ2) ∧ frz t1 = some d1 ∧ frz t2 = some d2) (s1 : seqD d1 = some (a.map iD)) (s2 : seqD d2 = some (b.map iD)) (hl : a.length ≤ 1000) :
    ev F (.lc [x, y] (.tp [x, y]) (.zip [.e e1, .e e2]) [] (.prim .add [.pk x, .pk y])) Γ = some (.ok (mpT iD (addL (a, b))) (wipeT Γ2 [x, y])) := by
  obtain ⟨Γ1, t1, t2, h1, h2, fa, fb⟩ := h1
  have := lc_map (F := F) (own := [x, y]) (tg := .tp [x, y]) (it := .zip [.e e1, .e e2]) (elt := .prim .add [.pk x, .pk y]) (c := fun q : Int × Int => .tuple [iD q.1, iD q.2]) (xs := a.zip b) (Γ := Γ) (Γ1 := Γ2) (Γ0 := wipeT Γ2 [x, y]) (fun q => .c (iD (q.1 + q.2))) (by
    rw [← zip_is]
    exact it_zip h1 h2 fa fb s1 s2) rfl (fun q hq => by
    let Γ3 := ((wipeT Γ2 [x, y]).set x (.c (iD q.1))).set y (.c (iD q.2))
    have lx : x < ((wipeT Γ2 [x, y])).length := by simp only [wipe1, wipe0, List.length_set]; exact hx
    have ly : y < ((wipeT Γ2 [x, y]).set x (.c (iD q.1))).length := by simp only [wipe1, wipe0, List.length_set]; exact hy
    have gx : Γ3[x]? = some (.c (iD q.1)) := by
      show (((wipeT Γ2 [x, y]).set x (.c (iD q.1))).set y (.c (iD q.2)))[x]? = _
      rw [List.getElem?_set_ne (fun z => hxy z.symm), List.getElem?_set_self lx]
    have gy : Γ3[y]? = some (.c (iD q.2)) := List.getElem?_set_self ly
    have ox : slotOk Γ3 x = true := by unfold slotOk; rw [gx]
    have oy : slotOk Γ3 y = true := by unfold slotOk; rw [gy]
    refine ⟨Γ3, Γ3, by simp [Γ3], ?_, ?_⟩
    · simp [ox, oy, gx, gy, iD]
    · simp only [Γ3, wipe1, wipe0]
      have e1 : ((Γ2.set y .gone).set x .gone).set y .gone = ((Γ2.set y .gone).set y .gone).set x .gone := List.set_comm _ _ hxy
      have e2 : ((((Γ2.set y .gone).set x .gone).set x (.c (iD q.1))).set y (.c (iD q.2))).set y .gone = ((Γ2.set y .gone).set x (.c (iD q.1))).set y .gone := by rw [List.set_set, List.set_set]
      have e3 : ((Γ2.set y .gone).set x (.c (iD q.1))).set y .gone = ((Γ2.set y .gone).set y .gone).set x (.c (iD q.1)) := List.set_comm _ _ hxy
      rw [e2, e3, List.set_set, List.set_set]) (sz (by rw [List.length_zip]; omega))
  rw [this]
  simp [mpT, addL]
def S_with_comers (run : List Tr → Option FR) : Prop := ∀ N h c, OkN N → Sh N h → Sh N c → run [.c (hD h), .c (hD c)] = some (.ok (.c (hD (addH h c))) [.gone, .gone])
theorem w_with_comers (F : Genv) : S_with_comers (r_with_comers F) := by
  intro N h c o s r
  have l4 := o.e4
  have n8 := o.n8
  refine run_ret rfl (by decide) ?_
  refine Run.nx (Γ1 := [.c (hD h), .c (hD c), .l [], .gone, .gone, .gone, .gone]) (by simp) ?_
  refine Run.forM (c := fun p : List Int × List Int => .tuple [lnD p.1, lnD p.2]) (xs := h.zip c) (Γ1 := [.c (hD h), .c (hD c), .l [], .gone, .gone, .gone, .gone])
    (fun i Γ => ∃ j3 j4, Γ = [.c (hD h), .c (hD c), mpT lnD (((h.zip c).take i).map addL), j3, j4, .gone, .gone]) ?_ ⟨_, _, rfl⟩ ?_ ?_
  · rw [← zip_is]
    exact it_zip (ta := .c (hD h)) (tb := .c (hD c)) (Γ1 := [.c (hD h), .c (hD c), .l [], .gone, .gone, .gone, .gone]) (by simp) (by simp) rfl rfl rfl rfl
  · rintro i p Γ hi ⟨j3, j4, rfl⟩
    have hp' := List.of_mem_zip (a := p.1) (b := p.2) (List.mem_of_getElem? hi)
    have hil := (List.getElem?_eq_some_iff.mp hi).1
    rw [List.length_zip, s.len] at hil
    rw [take_map hi]
    generalize hacc : ((h.zip c).take i).map addL = acc
    have al : acc.length ≤ 100 := by rw [← hacc]; simp; omega
    have hz : acc.length < sizeLine := Nat.lt_of_le_of_lt al (by decide)
    have e := ev_addL (F := F) (Γ := [.c (hD h), .c (hD c), mpT lnD acc, .c (lnD p.1), .c (lnD p.2), .gone, .gone]) (Γ2 := [.c (hD h), .c (hD c), mpT lnD acc, .c (lnD p.1), .c (lnD p.2), .gone, .gone]) (a := p.1) (b := p.2) (x := 5) (y := 6) (e1 := .var 3) (e2 := .var 4) (by simp) (by simp) (by decide) ⟨_, .c (lnD p.1), .c (lnD p.2), by simp; rfl, by simp, rfl, rfl⟩ rfl rfl (by rw [s.l _ hp'.1]; omega)
    have t1 : biEv .tuple [mpT iD (addL p)] = some (.c (lnD (addL p))) := tuple_m iD (addL p)
    refine ⟨[.c (hD h), .c (hD c), mpT lnD acc, .c (lnD p.1), .c (lnD p.2), .gone, .gone], by simp, ?_⟩
    refine Run.nx (Γ1 := [.c (hD h), .c (hD c), mpT lnD (acc ++ [addL p]), .c (lnD p.1), .c (lnD p.2), .gone, .gone]) ?_ (Run.nil ⟨_, _, rfl⟩)
    have ma : ∀ xs, mpT lnD xs = .l (xs.map fun x => .c (lnD x)) := fun _ => rfl
    rw [ma] at e ⊢
    simp [e, t1, hz, ma]
  · rintro Γ ⟨j3, j4, rfl⟩
    rw [List.take_length]
    have t1 : biEv .tuple [mpT lnD (addH h c)] = some (.c (hD (addH h c))) := tuple_m lnD (addH h c)
    have e : (h.zip c).map addL = addH h c := rfl
    rw [e]
    exact Run.rt (t := .c (hD (addH h c))) (Γ1 := [.c (hD h), .c (hD c), mpT lnD (addH h c), j3, j4, .gone, .gone]) (by simp [slotOk, mpT] at t1 ⊢; simp [t1]) ⟨_, rfl, rfl⟩
/-! ### beats -/
def S_moves_over (run : List Tr → Option FR) : Prop := ∀ N h st, OkN N → Sh N h → run [.c (netD N), .c (hD h), .c (.tuple (st.map nD))] = some (.ok (mpT mvD (movesA N h (offO N h st))) [.gone, .gone, .gone])
theorem offO_ok {N : Net} {h : List (List Int)} (s : Sh N h) (st : List Nat) : OkO N (offO N h st) := by
  refine ⟨by simp [offO], fun b hb => ?_⟩
  obtain ⟨p, hp, e⟩ := List.mem_map.mp hb
  split at e
  · have oi := offer_is h p.1
    rw [e] at oi
    have := oi.1; have := s.len; omega
  · cases e
theorem w_moves_over {F : Genv} (h1 : Fn F "moves_of" S_moves_of) (h2 : Fn F "offer_over" S_offer_over) : S_moves_over (r_moves_over F) := by
  obtain ⟨r1, f1, q1⟩ := h1
  obtain ⟨r2, f2, q2⟩ := h2
  intro N h st o s
  have e2 := q2 N h st o s
  have e1 := q1 N h (offO N h st) o s (offO_ok s st)
  generalize offO N h st = os at *
  refine run_ret rfl (by decide) (Run.rt (t := mpT mvD (movesA N h os)) (Γ1 := [.c (netD N), .c (hD h), .c (.tuple (st.map nD))]) ?_ ⟨_, rfl, rfl⟩)
  simp only [osD] at e1
  simp [f1, f2, e1, e2]
def beatA (N : Net) (h c : List (List Int)) (st : List Nat) : List (List Int) × List Int := (addH (goneA N h (movesA N h (offO N h st))).1 c, (goneA N h (movesA N h (offO N h st))).2)
def S_beat_over (run : List Tr → Option FR) : Prop := ∀ N h c st, OkN N → Sh N h → Sh N c → run [.c (netD N), .c (hD h), .c (hD c), .c (.tuple (st.map nD))] = some (.ok (.c (.tuple [hD (beatA N h c st).1, lnD (beatA N h c st).2])) [.gone, .gone, .gone, .gone])
theorem w_beat_over {F : Genv} (h1 : Fn F "gone_by" S_gone_by) (h2 : Fn F "moves_over" S_moves_over) (h3 : Fn F "with_comers" S_with_comers) : S_beat_over (r_beat_over F) := by
  obtain ⟨r1, f1, q1⟩ := h1
  obtain ⟨r2, f2, q2⟩ := h2
  obtain ⟨r3, f3, q3⟩ := h3
  intro N h c st o s sc
  have e2 := q2 N h st o s
  have om := mv_ok (h := h) (offO_ok s st)
  have e1 := q1 N h _ o s om
  have gs := gone_sh s om
  unfold beatA
  generalize movesA N h (offO N h st) = mv at *
  have e3 := q3 N (goneA N h mv).1 c o gs.1 sc
  refine run_ret rfl (by decide) ?_
  simp only [mvsD] at e1
  refine Run.nx (Γ1 := [.c (netD N), .c (hD h), .c (hD c), .c (.tuple (st.map nD)), .c (hD (goneA N h mv).1), .c (lnD (goneA N h mv).2)]) (by simp [f1, f2, e1, e2]) ?_
  exact Run.rt (t := .c (.tuple [hD (addH (goneA N h mv).1 c), lnD (goneA N h mv).2])) (Γ1 := [.c (netD N), .c (hD h), .c (hD c), .c (.tuple (st.map nD)), .c (hD (goneA N h mv).1), .c (lnD (goneA N h mv).2)]) (by simp [f3, e3]) ⟨_, rfl, rfl⟩
theorem beat_sh {N : Net} {h c : List (List Int)} (s : Sh N h) (r : Sh N c) (st : List Nat) : Sh N (beatA N h c st).1 ∧ (beatA N h c st).2.length = N.ends.length := by
  have := gone_sh s (mv_ok (h := h) (offO_ok s st))
  exact ⟨addH_sh this.1 r, this.2⟩
def allT (N : Net) : List Nat := List.range N.ties.length
def S_beat (run : List Tr → Option FR) : Prop := ∀ N h c, OkN N → OkH 1000000000 N h → OkH 9 N c → run [.c (netD N), .c (hD h), .c (hD c)] = some (.ok (.c (.tuple [hD (beatA N h c (allT N)).1, lnD (beatA N h c (allT N)).2])) [.gone, .gone, .gone])
theorem w_beat {F : Genv} (h1 : Fn F "need_net" S_need_net) (h2 : Fn F "need_heaps" (S_need_lines 1000000000 "NoHeaps")) (h3 : Fn F "need_comers" (S_need_lines 9 "NoComers")) (h4 : Fn F "beat_over" S_beat_over) (h5 : Fn F "all_ties" S_all_ties) : S_beat (r_beat F) := by
  obtain ⟨r1, f1, q1⟩ := h1
  obtain ⟨r2, f2, q2⟩ := h2
  obtain ⟨r3, f3, q3⟩ := h3
  obtain ⟨r4, f4, q4⟩ := h4
  obtain ⟨r5, f5, q5⟩ := h5
  intro N h c o oh oc
  refine run_ret rfl (by decide) ?_
  refine Run.nx (Γ1 := [.c (netD N), .c (hD h), .c (hD c)]) (by simp [f1, q1.1 N o]) ?_
  refine Run.nx (Γ1 := [.c (netD N), .c (hD h), .c (hD c)]) (by simp [f2, q2.1 N h o oh]) ?_
  refine Run.nx (Γ1 := [.c (netD N), .c (hD h), .c (hD c)]) (by simp [f3, q3.1 N c o oc]) ?_
  have e4 := q4 N h c (allT N) o oh.sh oc.sh
  have e5 := q5 N o
  unfold allT at *
  exact Run.rt (Γ1 := [.c (netD N), .c (hD h), .c (hD c)]) (by simp [f4, f5, e4, e5]) ⟨_, rfl, rfl⟩
def S_moves (run : List Tr → Option FR) : Prop := ∀ N h, OkN N → OkH 1000000000 N h → run [.c (netD N), .c (hD h)] = some (.ok (mpT mvD (movesA N h (N.ties.map (offerA h)))) [.gone, .gone])
theorem w_moves {F : Genv} (h1 : Fn F "need_net" S_need_net) (h2 : Fn F "need_heaps" (S_need_lines 1000000000 "NoHeaps")) (h4 : Fn F "moves_over" S_moves_over) (h5 : Fn F "all_ties" S_all_ties) : S_moves (r_moves F) := by
  obtain ⟨r1, f1, q1⟩ := h1
  obtain ⟨r2, f2, q2⟩ := h2
  obtain ⟨r4, f4, q4⟩ := h4
  obtain ⟨r5, f5, q5⟩ := h5
  intro N h o oh
  refine run_ret rfl (by decide) ?_
  refine Run.nx (Γ1 := [.c (netD N), .c (hD h)]) (by simp [f1, q1.1 N o]) ?_
  refine Run.nx (Γ1 := [.c (netD N), .c (hD h)]) (by simp [f2, q2.1 N h o oh]) ?_
  have e4 := q4 N h (List.range N.ties.length) o oh.sh
  rw [offO_all] at e4
  generalize movesA N h (N.ties.map (offerA h)) = mv at *
  exact Run.rt (t := mpT mvD mv) (Γ1 := [.c (netD N), .c (hD h)]) (by simp [f4, f5, q5 N o, e4]) ⟨_, rfl, rfl⟩
/-! ### runs -/
def runF (N : Net) (s : List (List (List Int)) × List Int) (c : List (List Int)) : List (List (List Int)) × List Int :=
  (s.1 ++ [(beatA N (s.1.getLast?.getD []) c (allT N)).1], addL (s.2, (beatA N (s.1.getLast?.getD []) c (allT N)).2))
def runA (N : Net) (h : List (List Int)) (rows : List (List (List Int))) : List (List (List Int)) × List Int := rows.foldl (runF N) ([h], rowA h.length fun _ => 0)
/-- what holds of a run under way -/
structure RunOk (N : Net) (s : List (List (List Int)) × List Int) : Prop where
  ne : s.1 ≠ []
  sh : ∀ h ∈ s.1, Sh N h
  len : s.2.length = N.ends.length
theorem RunOk.last {N : Net} {s : List (List (List Int)) × List Int} (r : RunOk N s) : Sh N (s.1.getLast?.getD []) := by
  cases e : s.1.getLast? with
  | none => exact absurd (List.getLast?_eq_none_iff.mp e) r.ne
  | some h => exact r.sh h (List.mem_of_getLast? e)
theorem RunOk.step {N : Net} {s : List (List (List Int)) × List Int} (r : RunOk N s) {c : List (List Int)} (sc : Sh N c) : RunOk N (runF N s c) := by
  have b := beat_sh r.last sc (allT N)
  refine ⟨by simp [runF], fun h hh => ?_, by simp [runF, addL, r.len, b.2]⟩
  rcases List.mem_append.mp hh with hh | hh
  · exact r.sh h hh
  · simp at hh; subst hh; exact b.1
theorem run_start {N : Net} {h : List (List Int)} (s : Sh N h) : RunOk N ([h], rowA h.length fun _ => 0) := ⟨by simp, by simpa using s, by rw [rowA_len]; exact s.len⟩
theorem run_fold {N : Net} : ∀ {rows : List (List (List Int))} {s : List (List (List Int)) × List Int}, RunOk N s → (∀ c ∈ rows, Sh N c) → RunOk N (rows.foldl (runF N) s) ∧ (rows.foldl (runF N) s).1.length = s.1.length + rows.length
  | [], s, r, _ => ⟨r, rfl⟩
  | c :: rows, s, r, h => by
    have := run_fold (rows := rows) (r.step (h c List.mem_cons_self)) fun x hx => h x (List.mem_cons_of_mem _ hx)
    refine ⟨this.1, ?_⟩
    show (rows.foldl (runF N) (runF N s c)).1.length = _
    rw [this.2]
    simp [runF]; omega
def rowsD (rows : List (List (List Int))) : PyData := .list (rows.map hD)
theorem atI_m1 {α : Type} (xs : List α) : atI xs (-1) = xs.getLast? := by
  rcases List.eq_nil_or_concat xs with rfl | ⟨ys, x, rfl⟩
  · rfl
  · rw [List.concat_eq_append, atI_last]; simp
def S_run_in (run : List Tr → Option FR) : Prop := ∀ N h rows, OkN N → Sh N h → (∀ c ∈ rows, Sh N c) → rows.length ≤ 1000 → run [.c (netD N), .c (hD h), .c (rowsD rows)] = some (.ok (.c (.tuple [rowsD (runA N h rows).1, lnD (runA N h rows).2])) [.gone, .gone, .gone])
theorem w_run_in {F : Genv} (h1 : Fn F "beat_over" S_beat_over) (h2 : Fn F "all_ties" S_all_ties) : S_run_in (r_run_in F) := by
  obtain ⟨r1, f1, q1⟩ := h1
  obtain ⟨r2, f2, q2⟩ := h2
  intro N h rows o s sr hr
  have l4 := o.e4
  have hl := s.len
  refine run_ret rfl (by decide) ?_
  refine Run.nx (Γ1 := [.c (netD N), .c (hD h), .c (rowsD rows), mpT hD [h], .gone, .gone, .gone, .gone, .gone, .gone]) (by simp [mpT]) ?_
  have rz := rep_zero h.length (by omega)
  have lz : biEv .len [.c (hD h)] = some (.c (.int (h.length : Nat))) := by simp [hD]
  refine Run.nx (Γ1 := [.c (netD N), .c (hD h), .c (rowsD rows), mpT hD [h], rowT (rowA h.length fun _ => 0), .gone, .gone, .gone, .gone, .gone]) (by simp [lz, rz]) ?_
  refine Run.forM (c := hD) (xs := rows) (Γ1 := [.c (netD N), .c (hD h), .c (rowsD rows), mpT hD [h], rowT (rowA h.length fun _ => 0), .gone, .gone, .gone, .gone, .gone])
    (fun i Γ => ∃ s x4 j5 j6 j7, Γ = [.c (netD N), .c (hD h), .c (rowsD rows), mpT hD s.1, rowT s.2, j5, j6, j7, .gone, .gone] ∧ s = (rows.take i).foldl (runF N) ([h], rowA h.length fun _ => 0) ∧ RunOk N s ∧ s.1.length = i + 1 ∧ x4 = s.2) (by simp [rowsD]) ⟨_, _, _, _, _, rfl, rfl, run_start s, rfl, rfl⟩ ?_ ?_
  · rintro i c Γ hi ⟨st, x4, j5, j6, j7, rfl, est, ro, sl, _⟩
    have sc := sr c (List.mem_of_getElem? hi)
    have hil := (List.getElem?_eq_some_iff.mp hi).1
    have ef := take_fold (f := runF N) (b := ([h], rowA h.length fun _ => 0)) hi
    rw [← est] at ef
    obtain ⟨g, eg⟩ : ∃ g, st.1.getLast? = some g := by
      cases e : st.1.getLast? with
      | none => exact absurd (List.getLast?_eq_none_iff.mp e) ro.ne
      | some g => exact ⟨g, rfl⟩
    have sg : Sh N g := ro.sh g (List.mem_of_getLast? eg)
    have e1 := q1 N g c (allT N) o sg sc
    have e2 : r2 [.c (netD N)] = some (.ok (.c (.tuple ((allT N).map nD))) [.gone]) := q2 N o
    have bs := beat_sh sg sc (allT N)
    have erf : runF N st c = (st.1 ++ [(beatA N g c (allT N)).1], addL (st.2, (beatA N g c (allT N)).2)) := by unfold runF; rw [eg]; rfl
    generalize (beatA N g c (allT N)) = bb at *
    have hz : st.1.length < sizeLine := Nat.lt_of_le_of_lt (show st.1.length ≤ 2000 by omega) (by decide)
    refine ⟨[.c (netD N), .c (hD h), .c (rowsD rows), mpT hD st.1, rowT st.2, .c (hD c), j6, j7, .gone, .gone], rfl, ?_⟩
    have kd : kidT (mpT hD st.1) (-1) = some (.c (hD g)) := by simp [mpT, atI_m1, eg]
    refine Run.nx (Γ1 := [.c (netD N), .c (hD h), .c (rowsD rows), mpT hD st.1, rowT st.2, .c (hD c), .c (hD bb.1), .c (lnD bb.2), .gone, .gone]) ?_ ?_
    · simp only [mpT] at kd ⊢
      simp [kd, f1, f2, e1, e2]
    · refine Run.nx (Γ1 := [.c (netD N), .c (hD h), .c (rowsD rows), mpT hD (st.1 ++ [bb.1]), rowT st.2, .c (hD c), .c (hD bb.1), .c (lnD bb.2), .gone, .gone]) (by
        have ma : mpT hD (st.1 ++ [bb.1]) = .l ((st.1.map fun x => .c (hD x)) ++ [.c (hD bb.1)]) := by simp [mpT]
        rw [ma]
        simp [mpT, hz]) ?_
      generalize eS : mpT hD (st.1 ++ [bb.1]) = S1
      have e := ev_addL (F := F) (Γ := [.c (netD N), .c (hD h), .c (rowsD rows), S1, rowT st.2, .c (hD c), .c (hD bb.1), .c (lnD bb.2), .gone, .gone]) (Γ2 := [.c (netD N), .c (hD h), .c (rowsD rows), S1, .c (.list (st.2.map iD)), .c (hD c), .c (hD bb.1), .c (lnD bb.2), .gone, .gone]) (a := st.2) (b := bb.2) (x := 8) (y := 9) (e1 := .var 4) (e2 := .var 7) (d1 := .list (st.2.map iD)) (d2 := lnD bb.2) (by simp) (by simp) (by decide) ⟨_, .c (.list (st.2.map iD)), .c (lnD bb.2), by
        have := rowT_frz st.2
        simp only [rowT, mpT] at this ⊢
        simp [this]; rfl, by simp, by simp, rfl⟩ rfl rfl (by rw [ro.len]; omega)
      have stp := ro.step sc
      rw [erf] at stp
      refine Run.nx (Γ1 := [.c (netD N), .c (hD h), .c (rowsD rows), S1, rowT (addL (st.2, bb.2)), .c (hD c), .c (hD bb.1), .c (lnD bb.2), .gone, .gone]) (by rw [sx1, e]; simp [rowT]) (Run.nil ⟨(st.1 ++ [bb.1], addL (st.2, bb.2)), _, _, _, _, by rw [eS], by rw [ef, erf], stp, by simp [sl], rfl⟩)
  · rintro Γ ⟨st, x4, j5, j6, j7, rfl, est, ro, sl, _⟩
    rw [List.take_length] at est
    have e0 : st = runA N h rows := est
    rw [← e0]
    have f3 : frz (mpT hD st.1) = some (rowsD st.1) := mpT_frz hD st.1
    have t1 : biEv .tuple [rowT st.2] = some (.c (lnD st.2)) := tuple_m iD st.2
    refine Run.rt (t := .c (.tuple [rowsD st.1, lnD st.2])) (Γ1 := [.c (netD N), .c (hD h), .c (rowsD rows), .c (rowsD st.1), rowT st.2, j5, j6, j7, .gone, .gone]) ?_ ⟨_, rfl, rfl⟩
    have ok4 : ∀ a b c d Γ, slotOk (a :: b :: c :: d :: rowT st.2 :: Γ) 4 = true := fun _ _ _ _ _ => rfl
    simp only [mpT] at f3 ⊢
    simp [f3, t1, ok4]
def S_need_rows (run : List Tr → Option FR) : Prop := ∀ N rows, OkN N → (∀ c ∈ rows, OkH 9 N c) → rows.length ≤ 1000 → run [.c (netD N), .c (rowsD rows)] = some (.ok (.c .none) [.gone, .gone])
theorem w_need_rows {F : Genv} (h1 : Fn F "need_comers" (S_need_lines 9 "NoComers")) (g : F.gl "MOST_BEATS" = some (.int 1000)) : S_need_rows (r_need_rows F) := by
  obtain ⟨r1, f1, q1⟩ := h1
  intro N rows o oc hl
  refine run_none rfl (by decide) ?_
  refine Run.skip (Γ1 := [.c (netD N), .c (rowsD rows), .gone]) (by simp [rowsD, isLst]) ?_
  refine Run.skip (Γ1 := [.c (netD N), .c (rowsD rows), .gone]) (by simp [rowsD, g]; omega) ?_
  refine Run.forM (c := hD) (xs := rows) (Γ1 := [.c (netD N), .c (rowsD rows), .gone]) (fun i Γ => ∃ j, Γ = [.c (netD N), .c (rowsD rows), j]) (by simp [rowsD]) ⟨_, rfl⟩ ?_ ?_
  · rintro i c Γ hi ⟨j, rfl⟩
    have := q1.1 N c o (oc c (List.mem_of_getElem? hi))
    exact ⟨[.c (netD N), .c (rowsD rows), .c (hD c)], rfl, Run.nx (Γ1 := [.c (netD N), .c (rowsD rows), .c (hD c)]) (by simp [f1, this]) (Run.nil ⟨_, rfl⟩)⟩
  · rintro Γ ⟨j, rfl⟩
    exact Run.nil ⟨_, rfl, rfl⟩
def S_run (run : List Tr → Option FR) : Prop := ∀ N h rows, OkN N → OkH 1000000000 N h → (∀ c ∈ rows, OkH 9 N c) → rows.length ≤ 1000 → run [.c (netD N), .c (hD h), .c (rowsD rows)] = some (.ok (.c (.tuple [rowsD (runA N h rows).1, lnD (runA N h rows).2])) [.gone, .gone, .gone])
theorem w_run {F : Genv} (h1 : Fn F "need_net" S_need_net) (h2 : Fn F "need_heaps" (S_need_lines 1000000000 "NoHeaps")) (h3 : Fn F "need_rows" S_need_rows) (h4 : Fn F "run_in" S_run_in) : S_run (r_run F) := by
  obtain ⟨r1, f1, q1⟩ := h1
  obtain ⟨r2, f2, q2⟩ := h2
  obtain ⟨r3, f3, q3⟩ := h3
  obtain ⟨r4, f4, q4⟩ := h4
  intro N h rows o oh oc hl
  refine run_ret rfl (by decide) ?_
  refine Run.nx (Γ1 := [.c (netD N), .c (hD h), .c (rowsD rows)]) (by simp [f1, q1.1 N o]) ?_
  refine Run.nx (Γ1 := [.c (netD N), .c (hD h), .c (rowsD rows)]) (by simp [f2, q2.1 N h o oh]) ?_
  refine Run.nx (Γ1 := [.c (netD N), .c (hD h), .c (rowsD rows)]) (by simp [f3, q3 N rows o oc hl]) ?_
  exact Run.rt (t := .c (.tuple [rowsD (runA N h rows).1, lnD (runA N h rows).2])) (Γ1 := [.c (netD N), .c (hD h), .c (rowsD rows)]) (by simp [f4, q4 N h rows o oh.sh (fun c hc => (oc c hc).sh) hl]) ⟨_, rfl, rfl⟩
end Hp
set_option Elab.async false
set_option linter.all false
set_option maxRecDepth 100000
set_option maxHeartbeats 400000
/-! no letter is lost, none is owed: beats and runs -/
namespace Hp
open PySem PySem.Spec PyProof.Rows L2 Hw
def rs (H : List (List Int)) (k : Nat) : Int := ((H[k]?).getD []).sum
theorem sum_set : ∀ {l : List Int} {p : Nat} {x : Int}, p < l.length → (l.set p x).sum = l.sum + (x - (l[p]?).getD 0)
  | [], p, x, h => by simp at h
  | y :: l, 0, x, _ => by simp; omega
  | y :: l, p + 1, x, h => by
    have := sum_set (l := l) (p := p) (x := x) (by simpa using h)
    simp only [List.set_cons_succ, List.sum_cons, List.getElem?_cons_succ]
    omega
theorem rs_setC {N : Net} {H : List (List Int)} (s : Sh N H) {k p : Nat} (hk : k < N.ends.length) (hp : p < N.n) (x : Int) (k' : Nat) : rs (setC H k p x) k' = rs H k' + if k' = k then x - cell H k p else 0 := by
  have hk' : k < H.length := by rw [s.len]; exact hk
  obtain ⟨l, g1, g2, gl⟩ := s.get hk hp
  have ll := s.l l gl
  unfold Hp.setC rs
  by_cases e : k' = k
  · subst e
    rw [List.getElem?_set_self hk', if_pos rfl, g1]
    show (l.set p x).sum = l.sum + _
    rw [sum_set (by omega), g2]; rfl
  · rw [List.getElem?_set_ne (fun z => e z.symm), if_neg e]; omega
structure Nn (N : Net) (H : List (List Int)) : Prop where
  sh : Sh N H
  nn : ∀ k p, k < N.ends.length → p < N.n → 0 ≤ cell H k p
  z : ∀ k e, N.ends[k]? = some e → cell H k e = 0
theorem OkH.nn {high : Int} {N : Net} {h : List (List Int)} (o : OkH high N h) : Nn N h := ⟨o.sh, fun k p hk hp => by
  obtain ⟨l, g1, g2, gl⟩ := o.sh.get hk hp
  exact (o.b l gl _ (List.mem_of_getElem? g2)).1, fun k e he => by
  have hk : k < h.length := by rw [o.len]; exact (List.getElem?_eq_some_iff.mp he).1
  have := (o.l k e _ he (List.getElem?_eq_getElem hk)).z
  unfold cell
  rw [List.getElem?_eq_getElem hk]
  show ((h[k])[e]?).getD 0 = 0
  rw [this]; rfl⟩
theorem Nn.ok {high : Int} {N : Net} {h : List (List Int)} (o : OkN N) (n : Nn N h) (b : ∀ l ∈ h, ∀ x ∈ l, x ≤ high) : OkH high N h := by
  refine ⟨n.sh.len, fun k e l he hl => ?_⟩
  have gl := List.mem_of_getElem? hl
  have ll := n.sh.l l gl
  have hk : k < N.ends.length := (List.getElem?_eq_some_iff.mp he).1
  have cl : ∀ p, cell h k p = (l[p]?).getD 0 := fun p => by unfold cell; rw [hl]; rfl
  refine ⟨ll, fun x hx => ⟨?_, b l gl x hx⟩, ?_⟩
  · obtain ⟨p, hp⟩ := List.mem_iff_getElem?.mp hx
    have hp2 := (List.getElem?_eq_some_iff.mp hp).1
    have := n.nn k p hk (by omega)
    rw [cl, hp] at this
    exact this
  · have he2 := o.e e (List.mem_of_getElem? he)
    have := n.z k e he
    rw [cl, List.getElem?_eq_getElem (by omega)] at this
    rw [List.getElem?_eq_getElem (by omega)]
    simp at this
    rw [this]
/-! ### moves one by one -/
def movesR (H : List (List Int)) : List (Tie × Option Nat) → List Mv
  | [] => []
  | p :: ps => (mvS H p).2 :: movesR (mvS H p).1 ps
theorem mv_eq : ∀ (ps : List (Tie × Option Nat)) (H : List (List Int)) (acc : List Mv), (ps.foldl mvF (H, acc)).2 = acc ++ movesR H ps
  | [], H, acc => by simp [movesR]
  | p :: ps, H, acc => by
    have := mv_eq ps (mvS H p).1 (acc ++ [(mvS H p).2])
    show (ps.foldl mvF ((mvS H p).1, acc ++ [(mvS H p).2])).2 = _
    rw [this, List.append_assoc]; rfl
structure Jn (N : Net) (S : Nat → Int) (H G : List (List Int)) (hm : List Int) : Prop where
  sH : Sh N H
  sG : Sh N G
  len : hm.length = N.ends.length
  le : ∀ k p, k < N.ends.length → p < N.n → 0 ≤ cell H k p ∧ cell H k p ≤ cell G k p
  z : ∀ k e, N.ends[k]? = some e → cell G k e = 0
  c : ∀ k, k < N.ends.length → rs G k + (hm[k]?).getD 0 = S k
theorem Jn.step {N : Net} {S : Nat → Int} {H G : List (List Int)} {hm : List Int} (on : OkN N) (j : Jn N S H G hm) {t : Tie} (ot : OkT N.n t) {o : Option Nat} (ho : ∀ k, o = some k → k < N.ends.length) :
    Jn N S (mvS H (t, o)).1 (goF N (G, hm) (t, (mvS H (t, o)).2)).1 (goF N (G, hm) (t, (mvS H (t, o)).2)).2 := by
  cases o with
  | none => exact j
  | some k =>
    have hk := ho k rfl
    have oi := ot.i
    have oj := ot.j
    have lo := ot.lo
    have a := j.le k t.i hk oi
    generalize hm' : (if cell H k t.i < t.m then cell H k t.i else t.m) = m
    have m1 : m ≤ cell H k t.i := by rw [← hm']; split <;> omega
    have m2 : 0 ≤ m := by rw [← hm']; split <;> omega
    have e1 : (mvS H (t, some k)).1 = setC H k t.i (cell H k t.i - m) := by rw [← hm']; rfl
    have e2 : (mvS H (t, some k)).2 = if 0 < m then some (k, m) else none := by rw [← hm']; rfl
    rw [e1, e2]
    have cH := fun k' p' => cell_setC j.sH hk oi (cell H k t.i - m) k' p'
    have sH' := j.sH.setC hk t.i (cell H k t.i - m)
    by_cases mp : 0 < m
    · rw [if_pos mp]
      have cG := fun k' p' => cell_setC j.sG hk oi (cell G k t.i - m) k' p'
      have sG' := j.sG.setC hk t.i (cell G k t.i - m)
      have rG := fun k' => rs_setC j.sG hk oi (cell G k t.i - m) k'
      have nz : ∀ e, N.ends[k]? = some e → t.i ≠ e := fun e he z => by
        have h1 := j.z k e he
        have h2 := j.le k e hk (on.e e (List.mem_of_getElem? he))
        rw [z] at m1; omega
      by_cases en : N.ends[k]? = some t.j
      · have eg : goF N (G, hm) (t, some (k, m)) = (setC G k t.i (cell G k t.i - m), hm.set k ((hm[k]?).getD 0 + m)) := by
          show (if N.ends[k]? = some t.j then _ else _) = _
          rw [if_pos en]
        rw [eg]
        refine ⟨sH', sG', by simpa using j.len, fun k' p' hk' hp' => ?_, fun k' e he => ?_, fun k' hk' => ?_⟩
        · rw [cH, cG]
          have := j.le k' p' hk' hp'
          split <;> omega
        · rw [cG]
          have := j.z k' e he
          split
          · rename_i q; obtain ⟨rfl, rfl⟩ := q; exact absurd rfl (nz _ he)
          · exact this
        · have := j.c k' hk'
          have hl : k < hm.length := by rw [j.len]; exact hk
          show rs (setC G k t.i (cell G k t.i - m)) k' + ((hm.set k ((hm[k]?).getD 0 + m))[k']?).getD 0 = _
          rw [rG]
          by_cases q : k' = k
          · subst q
            rw [if_pos rfl, List.getElem?_set_self hl]
            show _ + ((hm[k']?).getD 0 + m) = _
            omega
          · rw [if_neg q, List.getElem?_set_ne (fun z => q z.symm)]; omega
      · have eg : goF N (G, hm) (t, some (k, m)) = (setC (setC G k t.i (cell G k t.i - m)) k t.j (cell (setC G k t.i (cell G k t.i - m)) k t.j + m), hm) := by
          show (if N.ends[k]? = some t.j then _ else _) = _
          rw [if_neg en]
        rw [eg]
        generalize setC G k t.i (cell G k t.i - m) = G1 at *
        have cG1 := fun k' p' => cell_setC sG' hk oj (cell G1 k t.j + m) k' p'
        have rG1 := fun k' => rs_setC sG' hk oj (cell G1 k t.j + m) k'
        refine ⟨sH', sG'.setC hk _ _, j.len, fun k' p' hk' hp' => ?_, fun k' e he => ?_, fun k' hk' => ?_⟩
        · show 0 ≤ cell (setC H k t.i (cell H k t.i - m)) k' p' ∧ _ ≤ cell (setC G1 k t.j (cell G1 k t.j + m)) k' p'
          have := j.le k' p' hk' hp'
          have q1 := cH k' p'
          have q2 := cG k' p'
          rw [q1, cG1]
          by_cases q : k' = k ∧ p' = t.j
          · have hq : cell G1 k' p' = cell G1 k t.j := by rw [q.1, q.2]
            rw [if_pos q, ← hq, q2]
            split <;> omega
          · rw [if_neg q, q2]
            split <;> omega
        · show cell (setC G1 k t.j (cell G1 k t.j + m)) k' e = 0
          rw [cG1]
          by_cases q : k' = k ∧ e = t.j
          · obtain ⟨rfl, rfl⟩ := q; exact absurd he en
          · rw [if_neg q, cG]
            have := j.z k' e he
            split
            · rename_i q; obtain ⟨rfl, rfl⟩ := q; exact absurd rfl (nz _ he)
            · exact this
        · have := j.c k' hk'
          show rs (setC G1 k t.j (cell G1 k t.j + m)) k' + (hm[k']?).getD 0 = _
          rw [rG1, rG]
          by_cases q : k' = k
          · subst q; rw [if_pos rfl, if_pos rfl]; omega
          · rw [if_neg q, if_neg q]; omega
    · rw [if_neg mp]
      refine ⟨sH', j.sG, j.len, fun k' p' hk' hp' => ?_, j.z, j.c⟩
      rw [cH]
      have := j.le k' p' hk' hp'
      show _ ∧ _ ≤ cell G k' p'
      split
      · rename_i q; obtain ⟨rfl, rfl⟩ := q; omega
      · exact this
theorem jn_fold {N : Net} {S : Nat → Int} (on : OkN N) : ∀ (ts : List Tie) (os : List (Option Nat)) (H G : List (List Int)) (hm : List Int), (∀ t ∈ ts, OkT N.n t) → (∀ o ∈ os, ∀ k, o = some k → k < N.ends.length) → Jn N S H G hm →
    ∃ H', Jn N S H' ((ts.zip (movesR H (ts.zip os))).foldl (goF N) (G, hm)).1 ((ts.zip (movesR H (ts.zip os))).foldl (goF N) (G, hm)).2
  | [], _, H, G, hm, _, _, j => ⟨H, by simpa using j⟩
  | t :: ts, [], H, G, hm, _, _, j => ⟨H, by simpa [movesR] using j⟩
  | t :: ts, o :: os, H, G, hm, ht, ho, j => by
    have st := j.step on (ht t List.mem_cons_self) (ho o List.mem_cons_self)
    exact jn_fold on ts os (mvS H (t, o)).1 (goF N (G, hm) (t, (mvS H (t, o)).2)).1 (goF N (G, hm) (t, (mvS H (t, o)).2)).2 (fun x hx => ht x (List.mem_cons_of_mem _ hx)) (fun x hx => ho x (List.mem_cons_of_mem _ hx)) st
theorem gone_facts {N : Net} (on : OkN N) {h : List (List Int)} (n : Nn N h) {os : List (Option Nat)} (oo : OkO N os) : ∃ H', Jn N (rs h) H' (goneA N h (movesA N h os)).1 (goneA N h (movesA N h os)).2 := by
  have e : movesA N h os = movesR h (N.ties.zip os) := by
    have := mv_eq (N.ties.zip os) h []
    exact this
  rw [e]
  refine jn_fold on N.ties os h h (rowA h.length fun _ => 0) on.t (fun o ho k e => oo.k k (e ▸ ho)) ⟨n.sh, n.sh, by rw [rowA_len]; exact n.sh.len, fun k p hk hp => ⟨n.nn k p hk hp, Int.le_refl _⟩, n.z, fun k hk => ?_⟩
  rw [rowA_get (by rw [n.sh.len]; exact hk)]
  simp
/-! ### comers -/
theorem sum_addL : ∀ {a b : List Int}, a.length = b.length → (addL (a, b)).sum = a.sum + b.sum
  | [], [], _ => rfl
  | [], _ :: _, h => by simp at h
  | _ :: _, [], h => by simp at h
  | x :: a, y :: b, h => by
    have := sum_addL (a := a) (b := b) (by simpa using h)
    simp only [addL] at this ⊢
    simp only [List.zip_cons_cons, List.map_cons, List.sum_cons, this]
    omega
theorem addL_get {a b : List Int} {p : Nat} {x y : Int} (h1 : a[p]? = some x) (h2 : b[p]? = some y) : (addL (a, b))[p]? = some (x + y) := by
  simp only [addL]
  rw [List.getElem?_map]
  have : (a.zip b)[p]? = some (x, y) := by
    rw [List.getElem?_zip_eq_some]; exact ⟨h1, h2⟩
  rw [this]; rfl
theorem addH_get {h c : List (List Int)} {k : Nat} {l r : List Int} (h1 : h[k]? = some l) (h2 : c[k]? = some r) : (addH h c)[k]? = some (addL (l, r)) := by
  simp only [addH]
  rw [List.getElem?_map]
  have : (h.zip c)[k]? = some (l, r) := by
    rw [List.getElem?_zip_eq_some]; exact ⟨h1, h2⟩
  rw [this]; rfl
theorem cell_addH {N : Net} {h c : List (List Int)} (s : Sh N h) (r : Sh N c) {k p : Nat} (hk : k < N.ends.length) (hp : p < N.n) : cell (addH h c) k p = cell h k p + cell c k p := by
  obtain ⟨l, g1, g2, _⟩ := s.get hk hp
  obtain ⟨l', g3, g4, _⟩ := r.get hk hp
  unfold cell at g2 g4 ⊢
  rw [addH_get g1 g3]
  show ((addL (l, l'))[p]?).getD 0 = _
  rw [addL_get g2 g4]; rfl
theorem rs_addH {N : Net} {h c : List (List Int)} (on : OkN N) (s : Sh N h) (r : Sh N c) {k : Nat} (hk : k < N.ends.length) : rs (addH h c) k = rs h k + rs c k := by
  obtain ⟨l, g1, _, gl⟩ := s.get hk (p := 0) on.n1
  obtain ⟨l', g3, _, gl'⟩ := r.get hk (p := 0) on.n1
  unfold rs
  rw [addH_get g1 g3, g1, g3]
  exact sum_addL (by rw [s.l l gl, r.l l' gl'])
theorem beat_nn {N : Net} (on : OkN N) {h c : List (List Int)} (n : Nn N h) (nc : Nn N c) (st : List Nat) : Nn N (beatA N h c st).1 ∧ ∀ k, k < N.ends.length → rs h k + rs c k = rs (beatA N h c st).1 k + ((beatA N h c st).2[k]?).getD 0 := by
  obtain ⟨H', j⟩ := gone_facts on n (offO_ok n.sh st)
  unfold beatA
  generalize goneA N h (movesA N h (offO N h st)) = g at *
  refine ⟨⟨addH_sh j.sG nc.sh, fun k p hk hp => ?_, fun k e he => ?_⟩, fun k hk => ?_⟩
  · show 0 ≤ cell (addH g.1 c) k p
    rw [cell_addH j.sG nc.sh hk hp]
    have := j.le k p hk hp
    have := nc.nn k p hk hp
    omega
  · show cell (addH g.1 c) k e = 0
    rw [cell_addH j.sG nc.sh (List.getElem?_eq_some_iff.mp he).1 (on.e e (List.mem_of_getElem? he)), j.z k e he, nc.z k e he]; rfl
  · show _ = rs (addH g.1 c) k + (g.2[k]?).getD 0
    rw [rs_addH on j.sG nc.sh hk]
    have := j.c k hk
    omega
/-! ### runs one by one -/
def bt (N : Net) (H c : List (List Int)) : List (List Int) × List Int := beatA N H c (allT N)
def standsR (N : Net) : List (List Int) → List (List (List Int)) → List (List (List Int))
  | _, [] => []
  | H, c :: rows => (bt N H c).1 :: standsR N (bt N H c).1 rows
def homesR (N : Net) : List (List Int) → List (List (List Int)) → List (List Int)
  | _, [] => []
  | H, c :: rows => (bt N H c).2 :: homesR N (bt N H c).1 rows
def lastR (N : Net) : List (List Int) → List (List (List Int)) → List (List Int)
  | H, [] => H
  | H, c :: rows => lastR N (bt N H c).1 rows
def addAll (a : List Int) (hs : List (List Int)) : List Int := hs.foldl (fun a b => addL (a, b)) a
theorem run_fold_eq (N : Net) : ∀ (rows : List (List (List Int))) (acc : List (List (List Int))) (H : List (List Int)) (hm : List Int), rows.foldl (runF N) (acc ++ [H], hm) = (acc ++ [H] ++ standsR N H rows, addAll hm (homesR N H rows))
  | [], acc, H, hm => by simp [standsR, homesR, addAll]
  | c :: rows, acc, H, hm => by
    have e : runF N (acc ++ [H], hm) c = ((acc ++ [H]) ++ [(bt N H c).1], addL (hm, (bt N H c).2)) := by
      unfold runF bt
      simp
    show rows.foldl (runF N) (runF N (acc ++ [H], hm) c) = _
    rw [e, run_fold_eq N rows (acc ++ [H]) _ _]
    simp [standsR, homesR, addAll]
theorem runA_eq (N : Net) (h : List (List Int)) (rows : List (List (List Int))) : runA N h rows = (h :: standsR N h rows, addAll (rowA h.length fun _ => 0) (homesR N h rows)) := by
  have := run_fold_eq N rows [] h (rowA h.length fun _ => 0)
  unfold runA
  simpa using this
theorem stands_len (N : Net) : ∀ (rows : List (List (List Int))) (H : List (List Int)), (standsR N H rows).length = rows.length
  | [], _ => rfl
  | c :: rows, H => by simp [standsR, stands_len N rows]
theorem stands_app (N : Net) : ∀ (r1 r2 : List (List (List Int))) (H : List (List Int)), standsR N H (r1 ++ r2) = standsR N H r1 ++ standsR N (lastR N H r1) r2
  | [], _, _ => rfl
  | c :: r1, r2, H => by simp [standsR, lastR, stands_app N r1 r2]
theorem homes_app (N : Net) : ∀ (r1 r2 : List (List (List Int))) (H : List (List Int)), homesR N H (r1 ++ r2) = homesR N H r1 ++ homesR N (lastR N H r1) r2
  | [], _, _ => rfl
  | c :: r1, r2, H => by simp [homesR, lastR, homes_app N r1 r2]
theorem lastR_is (N : Net) : ∀ (rows : List (List (List Int))) (H : List (List Int)), (H :: standsR N H rows).getLast? = some (lastR N H rows)
  | [], H => rfl
  | c :: rows, H => by
    have := lastR_is N rows (bt N H c).1
    simp only [standsR, lastR]
    rw [List.getLast?_cons_cons]; exact this
theorem addL_assoc : ∀ a b c : List Int, addL (addL (a, b), c) = addL (a, addL (b, c))
  | [], _, _ => by simp [addL]
  | _ :: _, [], _ => by simp [addL]
  | _ :: _, _ :: _, [] => by simp [addL]
  | x :: a, y :: b, z :: c => by
    have := addL_assoc a b c
    simp only [addL] at this ⊢
    simp only [List.zip_cons_cons, List.map_cons, this, Int.add_assoc]
theorem addL_zero : ∀ x : List Int, addL (List.replicate x.length 0, x) = x
  | [] => by simp [addL]
  | x :: xs => by
    have := addL_zero xs
    simp only [addL] at this ⊢
    simp only [List.length_cons, List.replicate_succ, List.zip_cons_cons, List.map_cons, this, Int.zero_add]
theorem rowA_zero (n : Nat) : rowA n (fun _ => 0) = List.replicate n 0 := by
  apply List.ext_getElem?
  intro i
  by_cases h : i < n
  · rw [rowA_get h, List.getElem?_replicate, if_pos h]
  · rw [List.getElem?_eq_none (by rw [rowA_len]; omega), List.getElem?_eq_none (by simp; omega)]
theorem addL_len {n : Nat} {a b : List Int} (h1 : a.length = n) (h2 : b.length = n) : (addL (a, b)).length = n := by simp [addL, h1, h2]
theorem addAll_len {n : Nat} : ∀ {hs : List (List Int)} {a : List Int}, a.length = n → (∀ x ∈ hs, x.length = n) → (addAll a hs).length = n
  | [], a, h, _ => h
  | x :: hs, a, h, g => addAll_len (hs := hs) (a := addL (a, x)) (addL_len h (g x List.mem_cons_self)) fun y hy => g y (List.mem_cons_of_mem _ hy)
theorem addAll_add {n : Nat} : ∀ (hs : List (List Int)) (a : List Int), a.length = n → (∀ x ∈ hs, x.length = n) → addAll a hs = addL (a, addAll (List.replicate n 0) hs)
  | [], a, h, _ => by
    have : ∀ (a : List Int), addL (a, List.replicate a.length 0) = a := by
      intro a
      induction a with
      | nil => simp [addL]
      | cons x xs ih =>
        simp only [addL] at ih ⊢
        simp only [List.length_cons, List.replicate_succ, List.zip_cons_cons, List.map_cons, ih, Int.add_zero]
    subst h
    exact (this a).symm
  | x :: hs, a, h, g => by
    have gx := g x List.mem_cons_self
    have g' : ∀ y ∈ hs, y.length = n := fun y hy => g y (List.mem_cons_of_mem _ hy)
    have e1 := addAll_add hs (addL (a, x)) (addL_len h gx) g'
    have e2 := addAll_add hs (addL (List.replicate n 0, x)) (addL_len (by simp) gx) g'
    have z : addL (List.replicate n 0, x) = x := by have := addL_zero x; rw [gx] at this; exact this
    show addAll (addL (a, x)) hs = addL (a, addAll (addL (List.replicate n 0, x)) hs)
    rw [e1, e2, z, addL_assoc]
theorem runs_nn {N : Net} (on : OkN N) : ∀ {rows : List (List (List Int))} {H : List (List Int)}, Nn N H → (∀ c ∈ rows, Nn N c) → Nn N (lastR N H rows) ∧ (∀ G ∈ standsR N H rows, Nn N G) ∧ (∀ x ∈ homesR N H rows, x.length = N.ends.length) ∧
    ∀ k, k < N.ends.length → ∀ hm : List Int, hm.length = N.ends.length → rs H k + (rows.map fun c => rs c k).sum + (hm[k]?).getD 0 = rs (lastR N H rows) k + ((addAll hm (homesR N H rows))[k]?).getD 0
  | [], H, n, _ => ⟨n, fun G h => absurd h (by simp [standsR]), fun x h => absurd h (by simp [homesR]), fun k hk hm _ => by simp [lastR, addAll, homesR]⟩
  | c :: rows, H, n, nc => by
    have b := beat_nn on n (nc c List.mem_cons_self) (allT N)
    have bl := (beat_sh n.sh (nc c List.mem_cons_self).sh (allT N)).2
    obtain ⟨i1, i2, i3, i4⟩ := runs_nn on (rows := rows) (H := (bt N H c).1) b.1 fun x hx => nc x (List.mem_cons_of_mem _ hx)
    refine ⟨i1, fun G hG => ?_, fun x hx => ?_, fun k hk hm hl => ?_⟩
    · rcases List.mem_cons.mp hG with rfl | hG
      · exact b.1
      · exact i2 G hG
    · rcases List.mem_cons.mp hx with rfl | hx
      · exact bl
      · exact i3 x hx
    · have := i4 k hk (addL (hm, (bt N H c).2)) (addL_len hl bl)
      have e := addL_get (a := hm) (b := (bt N H c).2) (p := k) (List.getElem?_eq_getElem (by omega)) (List.getElem?_eq_getElem (by rw [show (bt N H c).2.length = _ from bl]; exact hk))
      rw [e] at this
      have q := b.2 k hk
      have q' : rs H k + rs c k = rs (bt N H c).1 k + ((bt N H c).2[k]?).getD 0 := q
      rw [List.getElem?_eq_getElem (by rw [show (bt N H c).2.length = _ from bl]; exact hk)] at q'
      rw [List.getElem?_eq_getElem (by omega : k < hm.length)]
      simp only [List.map_cons, List.sum_cons, lastR, homesR]
      show _ = rs _ k + ((addAll (addL (hm, (bt N H c).2)) _)[k]?).getD 0
      simp only [Option.getD_some] at this q' ⊢
      omega
end Hp
set_option Elab.async false
set_option linter.all false
set_option maxRecDepth 100000
set_option maxHeartbeats 400000
/-! k10's own words -/
namespace Hp
open PySem PySem.Spec PyProof.Rows L2 Hw
theorem cut_to {xs : List PyData} {a : Nat} (h : a ≤ xs.length) : Hw.cutD xs none (some (a : Int)) = xs.take a := by
  unfold Hw.cutD
  rw [HT.sIx_none, HT.sIx_nat, Nat.min_eq_left h]; rfl
theorem cut_from {xs : List PyData} {a : Nat} (h : a ≤ xs.length) : Hw.cutD xs (some (a : Int)) none = xs.drop a := by
  unfold Hw.cutD
  rw [HT.sIx_none, HT.sIx_nat, Nat.min_eq_left h]
  exact List.take_of_length_le (by simp)
theorem lT_mpT {α : Type} (h : α → PyData) (xs : List α) : lT (xs.map h) = mpT h xs := by
  unfold lT mpT; rw [List.map_map]; rfl
theorem sl_to {α : Type} (c : α → PyData) {xs : List α} {a : Nat} (h : a ≤ xs.length) : primEv (.sl false true) [.c (.list (xs.map c)), .c (.int (a : Int))] = some (mpT c (xs.take a)) := by
  have : primEv (.sl false true) [.c (.list (xs.map c)), .c (.int (a : Int))] = some (lT (Hw.cutD (xs.map c) none (some (a : Int)))) := rfl
  rw [this, cut_to (by simpa using h), ← List.map_take, lT_mpT]
theorem sl_from {α : Type} (c : α → PyData) {xs : List α} {a : Nat} (h : a ≤ xs.length) : primEv (.sl true false) [.c (.list (xs.map c)), .c (.int (a : Int))] = some (mpT c (xs.drop a)) := by
  have : primEv (.sl true false) [.c (.list (xs.map c)), .c (.int (a : Int))] = some (lT (Hw.cutD (xs.map c) (some (a : Int)) none)) := rfl
  rw [this, cut_from (by simpa using h), ← List.map_drop, lT_mpT]
theorem settle_mpT {α : Type} (c : α → PyData) (xs : List α) : Hw.settle (mpT c xs) = some (.c (.list (xs.map c))) := by
  have := mpT_frz c xs
  simp only [mpT] at this ⊢
  simp [Hw.settle, this]
def mx : List Int → Int
  | [] => 0
  | x :: xs => xs.foldl max x
theorem mx_le {l : List Int} : ∀ x ∈ l, x ≤ mx l := by
  cases l with
  | nil => intro x h; cases h
  | cons y ys =>
    obtain ⟨_, h1, h2⟩ := foldl_max ys y
    intro x hx
    rcases List.mem_cons.mp hx with rfl | hx
    · exact h1
    · exact h2 x hx
theorem max_t {l : List Int} (h : l ≠ []) : biEv .max1 [.c (lnD l)] = some (.c (.int (mx l))) := by
  cases l with
  | nil => exact absurd rfl h
  | cons x xs =>
    have e : intsOf ((x :: xs).map iD) = some (x :: xs) := by
      have := intsOf_map (fun x : Int => x) (x :: xs)
      rw [List.map_id'] at this
      exact this
    simp only [biEv, lnD, asList_t, asTup_c, e]; rfl
theorem max_l {α : Type} (f : α → Int) {xs : List α} (h : xs ≠ []) : biEv .max1 [.l (xs.map fun x => .c (.int (f x)))] = some (.c (.int (mx (xs.map f)))) := by
  simp only [biEv, asList_l]
  rw [stl_map (fun x => PyData.int (f x))]
  simp only [intsOf_map]
  cases xs with
  | nil => exact absurd rfl h
  | cons x xs => rfl
theorem sum_t (l : List Int) : biEv .sum [.c (lnD l)] = some (.c (.int l.sum)) := by
  have e : intsOf (l.map iD) = some l := by
    have := intsOf_map (fun x : Int => x) l
    rw [List.map_id'] at this
    exact this
  simp only [biEv, lnD, asList_t, asTup_c, e]; rfl
theorem ne_same {a : Tr} {d : PyData} {k : Nat} (h : see a = some d) (na : asStr a = none) (c : CD k d) (l : k ≤ 64) (b : Tr) (hb : see b = some d) : cmpEv .NotEq a b = some false := by
  rw [ne_see h hb na (c.plain l) (c.plain l), eqv_refl _ c.nd]; rfl
theorem CD.ln (l : List Int) : CD 1 (lnD l) := CD.tuple fun d hd => by obtain ⟨x, _, rfl⟩ := List.mem_map.mp hd; exact CD.int x
theorem CD.h (h : List (List Int)) : CD 2 (hD h) := CD.tuple fun d hd => by obtain ⟨x, _, rfl⟩ := List.mem_map.mp hd; exact CD.ln x
theorem CD.rows (h : List (List (List Int))) : CD 3 (rowsD h) := CD.list fun d hd => by obtain ⟨x, _, rfl⟩ := List.mem_map.mp hd; exact CD.h x
def S_some (ns : List Int) (run : List Tr → Option FR) : Prop := ∀ {α : Type} (c : α → PyData) (xs : List α) M t, Tp ns M t → M < 2 ^ 39 → xs ≠ [] → xs.length ≤ 1000 → ∃ x ∈ xs, ∃ t', run [t, .c (.list (xs.map c))] = some (.ok (.c (c x)) [t', .gone]) ∧ Tp ns (M + 1) t'
theorem w_some {F : Genv} {ns : List Int} (h1 : Fn F "_law_b_take" (S_take ns)) : S_some ns (r_law_b_some F) := by
  obtain ⟨r1, f1, q1⟩ := h1
  intro α c xs M t ht hM hne hl
  have l0 : 0 < xs.length := List.length_pos_iff.mpr hne
  obtain ⟨r, t1, e1, ht1, hr⟩ := q1 M t (xs.length : Int) ht hM (by omega) (Nat.lt_trans (lg_lt (k := 64) (by omega) (by decide)) (by decide))
  have hr' : r < xs.length := by omega
  refine ⟨xs[r], List.getElem_mem hr', t1, run_ret rfl (by decide) (Run.rt (t := .c (c xs[r])) (Γ1 := [t1, .c (.list (xs.map c))]) ?_ ⟨_, rfl, rfl⟩), ht1⟩
  have kd : kidD (.list (xs.map c)) (r : Int) = some (c xs[r]) := by
    have : atI (xs.map c) (r : Int) = some (c xs[r]) := by rw [atI_n, List.getElem?_map, List.getElem?_eq_getElem hr']; rfl
    exact this
  have ok1 : ∀ d Γ, slotOk (t :: .c d :: Γ) 1 = true := fun _ _ => rfl
  simp [f1, ht.ok, e1, ok1, kd]
def S_kept (run : List Tr → Option FR) : Prop := ∀ N rows stands home (a z : List (List Int)), OkN N → (∀ c ∈ rows, Sh N c) → rows.length ≤ 1000 → stands[0]? = some a → stands.getLast? = some z → Sh N a → Sh N z → home.length = N.ends.length →
  (∀ k, k < N.ends.length → rs a k + (rows.map fun c => rs c k).sum = rs z k + (home[k]?).getD 0) → run [.c (netD N), .c (rowsD rows), .c (rowsD stands), .c (lnD home)] = some (.ok (.c (.bool true)) [.gone, .gone, .gone, .gone])
theorem Sh.row {N : Net} {h : List (List Int)} (on : OkN N) (s : Sh N h) {k : Nat} (hk : k < N.ends.length) : ∃ l, h[k]? = some l ∧ l.sum = rs h k := by
  obtain ⟨l, g1, _, _⟩ := s.get hk (p := 0) on.n1
  exact ⟨l, g1, by unfold rs; rw [g1]; rfl⟩
theorem kid_row {h : List (List Int)} {k : Nat} {l : List Int} (e : h[k]? = some l) : kidD (hD h) (k : Int) = some (lnD l) := by
  simp [hD, kidD, e]
theorem w_kept (F : Genv) : S_kept (r_law_b_kept F) := by
  intro N rows stands home a z o sr hr ha hz sa sz' hl hc
  have e4 := o.e4
  refine run_ret rfl (by decide) ?_
  have r0 : kidD (rowsD stands) 0 = some (hD a) := by
    have : atI (stands.map hD) 0 = some (hD a) := by rw [atI_0, List.getElem?_map, ha]; rfl
    exact this
  have rz : kidD (rowsD stands) (-1) = some (hD z) := by
    have : atI (stands.map hD) (-1) = some (hD z) := by rw [atI_m1, List.getLast?_map, hz]; rfl
    exact this
  generalize hS : rowsD stands = S at *
  refine Run.forM (c := nD) (xs := List.range N.ends.length) (Γ1 := [.c (netD N), .c (rowsD rows), .c S, .c (lnD home), .gone, .gone, .gone])
    (fun i Γ => ∃ j4 j5 j6, Γ = [.c (netD N), .c (rowsD rows), .c S, .c (lnD home), j4, j5, j6]) (it_rng (by simp [netD]) (by omega)) ⟨_, _, _, rfl⟩ ?_ ?_
  · rintro i k Γ hi ⟨j4, j5, j6, rfl⟩
    obtain ⟨rfl, hk⟩ := range_get hi
    refine ⟨[.c (netD N), .c (rowsD rows), .c S, .c (lnD home), .c (nD k), j5, j6], rfl, ?_⟩
    have hlc : ev F (.lc [6] (.nm 6) (.sq (.var 1)) [] (.prim (.bi .sum) [.e (.pth 6 [.var 4])])) [.c (netD N), .c (rowsD rows), .c S, .c (lnD home), .c (nD k), j5, j6] = some (.ok (.l (rows.map fun c => .c (.int (rs c k)))) [.c (netD N), .c (rowsD rows), .c S, .c (lnD home), .c (nD k), j5, .gone]) := by
      refine lc_map (c := hD) (Γ1 := [.c (netD N), .c (rowsD rows), .c S, .c (lnD home), .c (nD k), j5, j6]) _ (by simp [rowsD]) (by simp) (fun c hc => ?_) (sz (by omega))
      obtain ⟨l, g1, g2⟩ := (sr c hc).row o hk
      have kd := kid_row g1
      have st := sum_t l
      rw [g2] at st
      refine ⟨_, [.c (netD N), .c (rowsD rows), .c S, .c (lnD home), .c (nD k), j5, .c (hD c)], rfl, ?_, by simp⟩
      have ok6 : ∀ a b c d e g x Γ, slotOk (a :: b :: c :: d :: e :: g :: .c x :: Γ) 6 = true := fun _ _ _ _ _ _ _ _ => rfl
      simp [nD, ok6, kd, st]
    have sm := sum_m (fun c : List (List Int) => rs c k) rows
    generalize hT1 : (rows.map fun c => rs c k).sum = T1 at *
    refine Run.nx (Γ1 := [.c (netD N), .c (rowsD rows), .c S, .c (lnD home), .c (nD k), .c (.int T1), .gone]) (by simp [hlc, sm]) ?_
    obtain ⟨la, a1, a2⟩ := sa.row o hk
    obtain ⟨lz, z1, z2⟩ := sz'.row o hk
    have ka := kid_row a1
    have kz := kid_row z1
    have s1 := sum_t la
    have s2 := sum_t lz
    rw [a2] at s1
    rw [z2] at s2
    have hh : home[k]? = some ((home[k]?).getD 0) := by rw [List.getElem?_eq_getElem (by omega)]; rfl
    have kh : kidD (lnD home) (k : Int) = some (.int ((home[k]?).getD 0)) := by
      have : atI (home.map iD) (k : Int) = some (.int ((home[k]?).getD 0)) := by rw [atI_n, List.getElem?_map, hh]; rfl
      exact this
    have eq := hc k hk
    rw [hT1] at eq
    refine Run.skip (Γ1 := [.c (netD N), .c (rowsD rows), .c S, .c (lnD home), .c (nD k), .c (.int T1), .gone]) ?_ (Run.nil ⟨_, _, _, rfl⟩)
    generalize (home[k]?).getD 0 = hk1 at *
    have ok2 : ∀ a b x Γ, slotOk (a :: b :: .c x :: Γ) 2 = true := fun _ _ _ _ => rfl
    have ok3 : ∀ a b c x Γ, slotOk (a :: b :: c :: .c x :: Γ) 3 = true := fun _ _ _ _ _ => rfl
    simp [nD, ok2, ok3, r0, rz, ka, kz, s1, s2, kh, eq]
  · rintro Γ ⟨j4, j5, j6, rfl⟩
    exact Run.rt (t := .c (.bool true)) (Γ1 := [.c (netD N), .c (rowsD rows), .c S, .c (lnD home), j4, j5, j6]) (by simp) ⟨_, rfl, rfl⟩
end Hp
set_option Elab.async false
set_option linter.all false
set_option maxRecDepth 100000
set_option maxHeartbeats 400000
/-! k10: a run parted -/
namespace Hp
open PySem PySem.Spec PyProof.Rows L2 Hw
theorem runA_parts {N : Net} (on : OkN N) {h : List (List Int)} {rows : List (List (List Int))} (n : Nn N h) (nc : ∀ c ∈ rows, Nn N c) {a : Nat} (ha : a ≤ rows.length) :
    (runA N h (rows.take a)).1 = (runA N h rows).1.take (a + 1) ∧ (runA N (lastR N h (rows.take a)) (rows.drop a)).1 = (runA N h rows).1.drop a ∧
    (runA N h rows).2 = addL ((runA N h (rows.take a)).2, (runA N (lastR N h (rows.take a)) (rows.drop a)).2) ∧ (runA N h (rows.take a)).1.getLast? = some (lastR N h (rows.take a)) ∧ Nn N (lastR N h (rows.take a)) := by
  have er : rows.take a ++ rows.drop a = rows := List.take_append_drop a rows
  have s1 := runs_nn on (rows := rows.take a) n fun c hc => nc c (List.mem_of_mem_take hc)
  have s2 := runs_nn on (rows := rows.drop a) s1.1 fun c hc => nc c (List.mem_of_mem_drop hc)
  have ln := s1.1.sh.len
  have e1 := stands_app N (rows.take a) (rows.drop a) h
  have e2 := homes_app N (rows.take a) (rows.drop a) h
  rw [er] at e1 e2
  have l1 : (standsR N h (rows.take a)).length = a := by rw [stands_len]; simp; omega
  simp only [runA_eq]
  refine ⟨?_, ?_, ?_, lastR_is N _ _, s1.1⟩
  · rw [List.take_succ_cons, e1, List.take_append_of_le_length (by omega), List.take_of_length_le (l := standsR N h (rows.take a)) (by omega)]
  · have e3 : h :: standsR N h rows = (h :: standsR N h (rows.take a)) ++ standsR N (lastR N h (rows.take a)) (rows.drop a) := by rw [e1]; rfl
    have e4 := lastR_is N (rows.take a) h
    obtain ⟨ini, e5⟩ : ∃ ini, h :: standsR N h (rows.take a) = ini ++ [lastR N h (rows.take a)] := by
      rcases List.eq_nil_or_concat (h :: standsR N h (rows.take a)) with z | ⟨ini, x, z⟩
      · cases z
      · rw [List.concat_eq_append] at z
        rw [z] at e4
        have : x = lastR N h (rows.take a) := by simpa using e4
        exact ⟨ini, by rw [z, this]⟩
    have li : ini.length = a := by
      have := congrArg List.length e5
      simp [l1] at this; omega
    rw [e3, e5, List.append_assoc, List.drop_append_of_le_length (by omega), List.drop_of_length_le (l := ini) (by omega)]; rfl
  · rw [e2, rowA_zero, rowA_zero, ln, n.sh.len]
    have : addAll (List.replicate N.ends.length 0) (homesR N h (rows.take a) ++ homesR N (lastR N h (rows.take a)) (rows.drop a)) = addAll (addAll (List.replicate N.ends.length 0) (homesR N h (rows.take a))) (homesR N (lastR N h (rows.take a)) (rows.drop a)) := by
      unfold addAll; rw [List.foldl_append]
    rw [this]
    exact addAll_add (n := N.ends.length) _ _ (addAll_len (by simp) s1.2.2.1) s2.2.2.1
theorem runA_len {N : Net} (h : List (List Int)) (rows : List (List (List Int))) : (runA N h rows).1.length = rows.length + 1 := by
  rw [runA_eq]; simp [stands_len]
theorem mx_all {h : List (List Int)} {B : Int} (b : mx (h.map mx) ≤ B) : ∀ l ∈ h, ∀ x ∈ l, x ≤ B := fun l hl x hx => by
  have h1 := mx_le x hx
  have h2 := mx_le (mx l) (List.mem_map_of_mem (f := mx) hl)
  omega
def S_parted (run : List Tr → Option FR) : Prop := ∀ N h rows (a : Nat), OkN N → OkH 1000000000 N h → (∀ c ∈ rows, OkH 9 N c) → rows.length ≤ 1000 → a ≤ rows.length → run [.c (netD N), .c (hD h), .c (rowsD rows), .c (.int (a : Int))] = some (.ok (.c (.bool true)) [.gone, .gone, .gone, .gone])
theorem w_parted {F : Genv} (h1 : Fn F "run" S_run) (h2 : Fn F "beat" S_beat) (h3 : Fn F "_law_b_kept" S_kept) : S_parted (r_law_b_parted F) := by
  obtain ⟨r1, f1, q1⟩ := h1
  obtain ⟨r2, f2, q2⟩ := h2
  obtain ⟨r3, f3, q3⟩ := h3
  intro N h rows a on oh oc hl ha
  have n8 := on.n8
  have n1 := on.n1
  have nh := oh.nn
  have ncs : ∀ c ∈ rows, Nn N c := fun c hc => (oc c hc).nn
  obtain ⟨p1, p2, p3, p4, p5⟩ := runA_parts on nh ncs ha
  have full := runs_nn on nh ncs
  have e1 := q1 N h rows on oh oc hl
  have e2 := q1 N h (rows.take a) on oh (fun c hc => oc c (List.mem_of_mem_take hc)) (by simp; omega)
  have lenS := runA_len (N := N) h rows
  have lenF := runA_len (N := N) h (rows.take a)
  have s0 : (runA N h rows).1[0]? = some h := by rw [runA_eq]; rfl
  have szl : (runA N h rows).1.getLast? = some (lastR N h rows) := by rw [runA_eq]; exact lastR_is N rows h
  have hlen : (runA N h rows).2.length = N.ends.length := by
    rw [runA_eq]; exact addAll_len (by rw [rowA_len]; exact nh.sh.len) full.2.2.1
  have flen : (runA N h (rows.take a)).2.length = N.ends.length := by
    have s1 := runs_nn on (rows := rows.take a) nh fun c hc => ncs c (List.mem_of_mem_take hc)
    rw [runA_eq]; exact addAll_len (by rw [rowA_len]; exact nh.sh.len) s1.2.2.1
  have cons : ∀ k, k < N.ends.length → rs h k + (rows.map fun c => rs c k).sum = rs (lastR N h rows) k + (((runA N h rows).2)[k]?).getD 0 := by
    intro k hk
    have := full.2.2.2 k hk (rowA h.length fun _ => 0) (by rw [rowA_len]; exact nh.sh.len)
    rw [rowA_get (by rw [nh.sh.len]; exact hk)] at this
    rw [runA_eq]
    simpa using this
  have e3 := q3 N rows (runA N h rows).1 (runA N h rows).2 h (lastR N h rows) on (fun c hc => (oc c hc).sh) hl s0 szl nh.sh full.1.sh hlen cons
  have nxt : ∀ (lt : a < rows.length), (runA N h rows).1[a + 1]? = some (beatA N (lastR N h (rows.take a)) (rows[a]) (allT N)).1 := by
    intro lt
    have d : (runA N h rows).1[a + 1]? = ((runA N h rows).1.drop a)[1]? := by rw [List.getElem?_drop]
    rw [d, ← p2, runA_eq, List.drop_eq_getElem_cons lt]; rfl
  generalize hL : lastR N h (rows.take a) = L at *
  have e4 := fun oL : OkH 1000000000 N L => q1 N L (rows.drop a) on oL (fun c hc => oc c (List.mem_of_mem_drop hc)) (by simp; omega)
  have e5 := fun (oL : OkH 1000000000 N L) (lt : a < rows.length) => q2 N L rows[a] on oL (oc _ (List.getElem_mem lt))
  generalize hS : runA N h rows = S at *
  generalize hFr : runA N h (rows.take a) = Fr at *
  generalize hSc : runA N L (rows.drop a) = Sc at *
  refine run_ret rfl (by decide) ?_
  have tk := sl_to hD (xs := rows) ha
  have tk2 : primEv (.sl false true) [.c (rowsD S.1), .c (.int ((a : Int) + 1))] = some (mpT hD (S.1.take (a + 1))) := sl_to hD (xs := S.1) (a := a + 1) (by omega)
  have dk := sl_from hD (xs := rows) ha
  have dk2 := sl_from hD (xs := S.1) (a := a) (by omega)
  have rD : ∀ xs, PyData.list (List.map hD xs) = rowsD xs := fun _ => rfl
  simp only [rD] at tk dk dk2
  have sm := settle_mpT hD
  simp only [rD] at sm
  refine Run.nx (Γ1 := [.c (netD N), .c (hD h), .c (rowsD rows), .c (.int a), .c (rowsD S.1), .c (lnD S.2), .gone, .gone, .gone, .gone, .gone, .gone, .gone]) (by simp [f1, e1]) ?_
  refine Run.nx (Γ1 := [.c (netD N), .c (hD h), .c (rowsD rows), .c (.int a), .c (rowsD S.1), .c (lnD S.2), .c (rowsD Fr.1), .c (lnD Fr.2), .gone, .gone, .gone, .gone, .gone]) (by simp [f1, tk, sm, e2]) ?_
  have c1 : cmpEv .NotEq (.c (rowsD Fr.1)) (mpT hD (S.1.take (a + 1))) = some false := ne_same (d := rowsD Fr.1) (see_c _) rfl (CD.rows _) (by decide) _ (by rw [p1]; exact mpT_see hD _)
  have c2 : cmpEv .NotEq (.c (hD h)) (.c (hD h)) = some false := ne_same (see_c _) rfl (CD.h _) (by decide) _ (see_c _)
  have ln1 : ∀ xs : List (List (List Int)), biEv .len [.c (rowsD xs)] = some (.c (.int (xs.length : Nat))) := fun xs => by simp [rowsD]
  have k0 : kidD (rowsD S.1) 0 = some (hD h) := by
    have : atI (S.1.map hD) 0 = some (hD h) := by rw [atI_0, List.getElem?_map, s0]; rfl
    exact this
  have kl : kidD (rowsD Fr.1) (-1) = some (hD L) := by
    have : atI (Fr.1.map hD) (-1) = some (hD L) := by rw [atI_m1, List.getLast?_map, p4]; rfl
    exact this
  have ok4 : ∀ a b c d x Γ, slotOk (a :: b :: c :: d :: .c x :: Γ) 4 = true := fun _ _ _ _ _ _ => rfl
  have ok2 : ∀ a b x Γ, slotOk (a :: b :: .c x :: Γ) 2 = true := fun _ _ _ _ => rfl
  have ok6 : ∀ a b c d e g x Γ, slotOk (a :: b :: c :: d :: e :: g :: .c x :: Γ) 6 = true := fun _ _ _ _ _ _ _ _ => rfl
  refine Run.skip (Γ1 := [.c (netD N), .c (hD h), .c (rowsD rows), .c (.int a), .c (rowsD S.1), .c (lnD S.2), .c (rowsD Fr.1), .c (lnD Fr.2), .gone, .gone, .gone, .gone, .gone]) ?_ ?_
  · simp [tk2, c1, ln1, lenS, ok4, k0, c2]
  have Lne : L ≠ [] := by
    have h1 := p5.sh.len; have h2 := on.e1
    intro z; rw [z] at h1; simp at h1; omega
  have hmx : ev F (.lc [10] (.nm 10) (.sq (.pth 6 [.prim .neg [.e (.lit (.int 1))]])) [] (.prim (.bi .max1) [.pk 10])) [.c (netD N), .c (hD h), .c (rowsD rows), .c (.int a), .c (rowsD S.1), .c (lnD S.2), .c (rowsD Fr.1), .c (lnD Fr.2), .gone, .gone, .gone, .gone, .gone]
      = some (.ok (.l (L.map fun l => .c (.int (mx l)))) [.c (netD N), .c (hD h), .c (rowsD rows), .c (.int a), .c (rowsD S.1), .c (lnD S.2), .c (rowsD Fr.1), .c (lnD Fr.2), .gone, .gone, .gone, .gone, .gone]) := by
    refine lc_map (c := lnD) (Γ1 := [.c (netD N), .c (hD h), .c (rowsD rows), .c (.int a), .c (rowsD S.1), .c (lnD S.2), .c (rowsD Fr.1), .c (lnD Fr.2), .gone, .gone, .gone, .gone, .gone]) _ ?_ (by simp) (fun l hl => ?_) (sz (by have := p5.sh.len; have := on.e4; omega))
    · have hd : hD L = .tuple (L.map lnD) := rfl
      rw [hd] at kl
      simp [ok6, kl]
    · have ll := p5.sh.l l hl
      have mt := max_t (l := l) (by intro z; rw [z] at ll; simp at ll; omega)
      have ok10 : ∀ b0 b1 b2 b3 b4 b5 b6 b7 b8 b9 x Γ, slotOk (b0 :: b1 :: b2 :: b3 :: b4 :: b5 :: b6 :: b7 :: b8 :: b9 :: .c x :: Γ) 10 = true := fun _ _ _ _ _ _ _ _ _ _ _ _ => rfl
      exact ⟨_, [.c (netD N), .c (hD h), .c (rowsD rows), .c (.int a), .c (rowsD S.1), .c (lnD S.2), .c (rowsD Fr.1), .c (lnD Fr.2), .gone, .gone, .c (lnD l), .gone, .gone], rfl, by simp [ok10, mt], by simp⟩
  have ml := max_l mx (xs := L) Lne
  refine Run.ite (k := decide (1000000000 < mx (L.map mx))) (Γ1 := [.c (netD N), .c (hD h), .c (rowsD rows), .c (.int a), .c (rowsD S.1), .c (lnD S.2), .c (rowsD Fr.1), .c (lnD Fr.2), .gone, .gone, .gone, .gone, .gone]) (by simp [hmx, ml]) (fun _ => ?_) (fun z => ?_)
  · exact Run.rt (t := .c (.bool true)) (Γ1 := [.c (netD N), .c (hD h), .c (rowsD rows), .c (.int a), .c (rowsD S.1), .c (lnD S.2), .c (rowsD Fr.1), .c (lnD Fr.2), .gone, .gone, .gone, .gone, .gone]) (by simp) ⟨_, rfl, rfl⟩
  · have z := of_decide_eq_false z
    have oL : OkH 1000000000 N L := p5.ok on (mx_all (by omega))
    have e4 := e4 oL
    have e5 := e5 oL
    refine Run.nil ?_
    refine Run.nx (Γ1 := [.c (netD N), .c (hD h), .c (rowsD rows), .c (.int a), .c (rowsD S.1), .c (lnD S.2), .c (rowsD Fr.1), .c (lnD Fr.2), .c (rowsD Sc.1), .c (lnD Sc.2), .gone, .gone, .gone]) (by simp [f1, ok6, kl, dk, sm, e4]) ?_
    have c3 : cmpEv .NotEq (.c (rowsD Sc.1)) (mpT hD (S.1.drop a)) = some false := ne_same (d := rowsD Sc.1) (see_c _) rfl (CD.rows _) (by decide) _ (by rw [p2]; exact mpT_see hD _)
    have ea := ev_addL (F := F) (Γ := [.c (netD N), .c (hD h), .c (rowsD rows), .c (.int a), .c (rowsD S.1), .c (lnD S.2), .c (rowsD Fr.1), .c (lnD Fr.2), .c (rowsD Sc.1), .c (lnD Sc.2), .gone, .gone, .gone]) (Γ2 := [.c (netD N), .c (hD h), .c (rowsD rows), .c (.int a), .c (rowsD S.1), .c (lnD S.2), .c (rowsD Fr.1), .c (lnD Fr.2), .c (rowsD Sc.1), .c (lnD Sc.2), .gone, .gone, .gone]) (a := Fr.2) (b := Sc.2) (x := 11) (y := 12) (e1 := .var 7) (e2 := .var 9) (d1 := lnD Fr.2) (d2 := lnD Sc.2) (by simp) (by simp) (by decide) ⟨_, .c (lnD Fr.2), .c (lnD Sc.2), by simp; rfl, by simp, by simp, by simp⟩ rfl rfl (by rw [flen]; have := on.e4; omega)
    have tp : biEv .tuple [mpT iD (addL (Fr.2, Sc.2))] = some (.c (lnD (addL (Fr.2, Sc.2)))) := tuple_m iD _
    have c4 : cmpEv .NotEq (.c (lnD (addL (Fr.2, Sc.2)))) (.c (lnD S.2)) = some false := ne_same (see_c _) rfl (CD.ln _) (by decide) _ (by rw [p3]; exact see_c _)
    refine Run.skip (Γ1 := [.c (netD N), .c (hD h), .c (rowsD rows), .c (.int a), .c (rowsD S.1), .c (lnD S.2), .c (rowsD Fr.1), .c (lnD Fr.2), .c (rowsD Sc.1), .c (lnD Sc.2), .gone, .gone, .gone]) ?_ ?_
    · simp [dk2, c3, ea, tp, c4]
    refine Run.skip (Γ1 := [.c (netD N), .c (hD h), .c (rowsD rows), .c (.int a), .c (rowsD S.1), .c (lnD S.2), .c (rowsD Fr.1), .c (lnD Fr.2), .c (rowsD Sc.1), .c (lnD Sc.2), .gone, .gone, .gone]) ?_ ?_
    · by_cases lt : a < rows.length
      · have e5 := e5 lt
        have nx := nxt lt
        have kr : kidD (rowsD rows) (a : Int) = some (hD rows[a]) := by
          have : atI (rows.map hD) (a : Int) = some (hD rows[a]) := by rw [atI_n, List.getElem?_map, List.getElem?_eq_getElem lt]; rfl
          exact this
        generalize beatA N L rows[a] (allT N) = bb at *
        have ks : kidD (rowsD S.1) ((a : Int) + 1) = some (hD bb.1) := by
          have : atI (S.1.map hD) ((a + 1 : Nat) : Int) = some (hD bb.1) := by rw [atI_n, List.getElem?_map, nx]; rfl
          exact this
        have c5 : cmpEv .NotEq (.c (hD bb.1)) (.c (hD bb.1)) = some false := ne_same (see_c _) rfl (CD.h _) (by decide) _ (see_c _)
        have i0 : ixEv (.c (.tuple [hD bb.1, lnD bb.2])) (.c (.int 0)) = some (.c (hD bb.1)) := rfl
        simp [ln1, lt, f2, ok6, ok2, ok4, kl, kr, e5, i0, ks, c5]
      · simp [ln1, lt]
    · exact Run.rt (t := .c (.bool true)) (Γ1 := [.c (netD N), .c (hD h), .c (rowsD rows), .c (.int a), .c (rowsD S.1), .c (lnD S.2), .c (rowsD Fr.1), .c (lnD Fr.2), .c (rowsD Sc.1), .c (lnD Sc.2), .gone, .gone, .gone]) (by simp [f3, e3]) ⟨_, rfl, rfl⟩
end Hp
set_option Elab.async false
set_option linter.all false
set_option maxRecDepth 100000
set_option maxHeartbeats 400000
/-! no offer weighs more -/
namespace Hp
open PySem PySem.Spec PyProof.Rows L2 Hw
theorem addD {a b : Tr} {xs ys : List PyData} (na : asInt a = none) (ha : asList a = some xs) (hb : asList b = some ys) (l : xs.length + ys.length ≤ sizeLine) : addEv a b = some (lT (xs ++ ys)) := by
  unfold addEv
  rw [na]
  simp only [ha, hb]
  rw [if_pos l]
theorem asList_lT' (ds : List PyData) : asList (lT ds) = some ds := stl_c ds
theorem add_m {α : Type} (c : α → PyData) {xs ys : List α} (l : xs.length + ys.length ≤ 1000) : addEv (mpT c xs) (mpT c ys) = some (mpT c (xs ++ ys)) := by
  rw [addD (xs := xs.map c) (ys := ys.map c) rfl (mpT_stl c xs) (mpT_stl c ys) (sz (by simp; omega)), ← List.map_append, lT_mpT]
/-! ### what an offer weighs -/
theorem mul_mono {m a b : Int} (hm : 0 ≤ m) (h : a ≤ b) : m * a ≤ m * b := Int.mul_le_mul_of_nonneg_left h hm
theorem wt_le {N : Net} {h : List (List Int)} (s : Sh N h) {t : Tie} (ot : OkT N.n t) {o : Option Nat} (ho : ∀ k, o = some k → k < N.ends.length) : wtA h (t, o) ≤ wtA h (t, offerA h t) := by
  have oi := offer_is h t
  have lo := ot.lo
  cases e : offerA h t with
  | none =>
    rw [e] at oi
    cases o with
    | none => exact Int.le_refl _
    | some k =>
      have := oi k (by rw [s.len]; exact ho k rfl)
      have := mul_mono (m := t.m) (by omega) this
      simpa [wtA] using this
  | some b =>
    rw [e] at oi
    cases o with
    | none =>
      have := mul_mono (m := t.m) (a := 0) (b := fallA h b t) (by omega) (by have := oi.2.1; omega)
      simpa [wtA] using this
    | some k =>
      exact mul_mono (m := t.m) (by omega) (oi.2.2.1 k (by rw [s.len]; exact ho k rfl))
theorem weight_le {N : Net} {h : List (List Int)} (s : Sh N h) : ∀ (ts : List Tie) (os : List (Option Nat)), (∀ t ∈ ts, OkT N.n t) → (∀ o ∈ os, ∀ k, o = some k → k < N.ends.length) → os.length = ts.length → ((ts.zip os).map (wtA h)).sum ≤ ((ts.zip (ts.map (offerA h))).map (wtA h)).sum
  | [], _, _, _, _ => by simp
  | t :: ts, [], _, _, l => by simp at l
  | t :: ts, o :: os, h1, h2, l => by
    have a := wt_le s (h1 t List.mem_cons_self) (h2 o List.mem_cons_self)
    have b := weight_le s ts os (fun x hx => h1 x (List.mem_cons_of_mem _ hx)) (fun x hx => h2 x (List.mem_cons_of_mem _ hx)) (by simpa using l)
    simp only [List.zip_cons_cons, List.map_cons, List.sum_cons]
    omega
theorem told_most {N : Net} {h : List (List Int)} (on : OkN N) (s : Sh N h) {os : List (Option Nat)} (oo : OkO N os) : weightA N h os ≤ weightA N h (N.ties.map (offerA h)) :=
  weight_le s N.ties os on.t (fun o ho k e => oo.k k (e ▸ ho)) oo.len
theorem weight_none (h : List (List Int)) : ∀ ts : List Tie, ((ts.zip (List.replicate ts.length none)).map (wtA h)).sum = 0
  | [] => rfl
  | t :: ts => by
    have := weight_none h ts
    simp only [List.length_cons, List.replicate_succ, List.zip_cons_cons, List.map_cons, List.sum_cons, this]
    simp [wtA]
theorem OkO.none {N : Net} : OkO N (List.replicate N.ties.length none) := ⟨by simp, fun b hb => by have := List.eq_of_mem_replicate hb; cases this⟩
theorem told_nn {N : Net} {h : List (List Int)} (on : OkN N) (s : Sh N h) : 0 ≤ weightA N h (N.ties.map (offerA h)) := by
  have := told_most on s (OkO.none (N := N))
  unfold weightA at this
  rw [weight_none] at this
  exact this
theorem weight_set (h : List (List Int)) : ∀ (ts : List Tie) (os : List (Option Nat)) (a : Nat) (o o' : Option Nat) (t : Tie), ts[a]? = some t → os[a]? = some o → ((ts.zip (os.set a o')).map (wtA h)).sum = ((ts.zip os).map (wtA h)).sum - wtA h (t, o) + wtA h (t, o')
  | [], _, _, _, _, _, h1, _ => by simp at h1
  | _ :: _, [], _, _, _, _, _, h2 => by simp at h2
  | t :: ts, x :: os, 0, o, o', t', h1, h2 => by
    simp at h1 h2
    subst h1 h2
    simp only [List.set_cons_zero, List.zip_cons_cons, List.map_cons, List.sum_cons]
    omega
  | t :: ts, x :: os, a + 1, o, o', t', h1, h2 => by
    have := weight_set h ts os a o o' t' (by simpa using h1) (by simpa using h2)
    simp only [List.set_cons_succ, List.zip_cons_cons, List.map_cons, List.sum_cons, this]
    omega
theorem set_parts {α : Type} (x : α) : ∀ (l : List α) (a : Nat), a < l.length → l.take a ++ [x] ++ l.drop (a + 1) = l.set a x
  | [], _, h => by simp at h
  | y :: l, 0, _ => by simp
  | y :: l, a + 1, h => by
    have := set_parts x l a (by simpa using h)
    simp only [List.take_succ_cons, List.cons_append, List.drop_succ_cons, List.set_cons_succ, this]
theorem OkO.set {N : Net} {os : List (Option Nat)} (oo : OkO N os) (a : Nat) {o : Option Nat} (ho : ∀ k, o = some k → k < N.ends.length) : OkO N (os.set a o) := ⟨by rw [List.length_set]; exact oo.len, fun b hb => by
  rcases List.mem_or_eq_of_mem_set hb with h | h
  · exact oo.k b h
  · exact ho b h.symm⟩
/-! ### bare heaps -/
def bareA (N : Net) : List (List Int) := N.ends.map fun _ => List.replicate N.n 0
def S_bare_in (run : List Tr → Option FR) : Prop := ∀ N, OkN N → run [.c (netD N)] = some (.ok (.c (hD (bareA N))) [.gone])
theorem mul_zero {n : Nat} (h0 : n ≤ 1000) : mulEv (.c (.tuple [.int 0])) (.c (.int (n : Nat))) = some (.c (lnD (List.replicate n 0))) := by
  have o : okR (n : Int) = true := okR_of (by omega) (by omega)
  have z : (1 : Nat) * n ≤ sizeLine := sz (by omega)
  have e : asInt (.c (.tuple [.int 0])) = none := rfl
  simp only [mulEv, asInt_c, e, asList_t, asTup_c, o, true_and, List.length_singleton, Int.toNat_natCast]
  rw [if_pos ⟨by simp, z⟩]
  have : ∀ m : Nat, (List.replicate m [PyData.int 0]).flatten = (List.replicate m (0 : Int)).map iD := by
    intro m
    induction m with
    | zero => rfl
    | succ m ih => rw [List.replicate_succ, List.flatten_cons, ih, List.replicate_succ]; rfl
  rw [this]; rfl
theorem w_bare_in (F : Genv) : S_bare_in (r_bare_in F) := by
  intro N on
  have n8 := on.n8
  have e4 := on.e4
  have mz := mul_zero (n := N.n) (by omega)
  have k1 : kidD (netD N) 1 = some (.tuple (N.ends.map nD)) := rfl
  have k0 : kidD (netD N) 0 = some (.int (N.n : Nat)) := rfl
  have ok0 : ∀ x Γ, slotOk (.c x :: Γ) 0 = true := fun _ _ => rfl
  have hlc : ev F (.lc [1] (.nm 1) (.sq (.pth 0 [.lit (.int 1)])) [] (.prim .mul [.e (.tup [.e (.lit (.int 0))]), .e (.pth 0 [.lit (.int 0)])])) [.c (netD N), .gone] = some (.ok (.l (N.ends.map fun _ => .c (lnD (List.replicate N.n 0)))) [.c (netD N), .gone]) := by
    refine lc_map (c := nD) (Γ1 := [.c (netD N), .gone]) _ (by simp [ok0, k1]) (by simp) (fun x hx => ?_) (sz (by omega))
    have z1 : (1 : Nat) ≤ sizeLine := sz (by decide)
    exact ⟨_, [.c (netD N), .c (nD x)], rfl, by simp [ok0, k0, mz, z1], by simp⟩
  have tm := tuple_m (fun _ : Nat => lnD (List.replicate N.n 0)) N.ends
  have e : hD (bareA N) = .tuple (N.ends.map fun _ => lnD (List.replicate N.n 0)) := by unfold hD bareA; rw [List.map_map]; rfl
  rw [e]
  exact run_ret rfl (by decide) (Run.rt (t := .c (.tuple (N.ends.map fun _ => lnD (List.replicate N.n 0)))) (Γ1 := [.c (netD N), .gone]) (by simp only [← e] at tm ⊢; simp [hlc, tm]) ⟨_, rfl, rfl⟩)
def S_bare (run : List Tr → Option FR) : Prop := ∀ N, OkN N → run [.c (netD N)] = some (.ok (.c (hD (bareA N))) [.gone])
theorem w_bare {F : Genv} (h1 : Fn F "need_net" S_need_net) (h2 : Fn F "bare_in" S_bare_in) : S_bare (r_bare F) := by
  obtain ⟨r1, f1, q1⟩ := h1
  obtain ⟨r2, f2, q2⟩ := h2
  intro N on
  refine run_ret rfl (by decide) ?_
  refine Run.nx (Γ1 := [.c (netD N)]) (by simp [f1, q1.1 N on]) ?_
  exact Run.rt (t := .c (hD (bareA N))) (Γ1 := [.c (netD N)]) (by simp [f2, q2 N on]) ⟨_, rfl, rfl⟩
theorem bare_ok {N : Net} (on : OkN N) : OkH 1000000000 N (bareA N) := ⟨by simp [bareA], fun k e l he hl => by
  have := List.mem_of_getElem? hl
  obtain ⟨_, _, rfl⟩ := List.mem_map.mp this
  exact ⟨by simp, fun x hx => by have := List.eq_of_mem_replicate hx; omega, by
    rw [List.getElem?_replicate, if_pos (on.e e (List.mem_of_getElem? he))]⟩⟩
theorem bare_cell (N : Net) (k p : Nat) : cell (bareA N) k p = 0 := by
  unfold cell bareA
  rw [List.getElem?_map]
  cases N.ends[k]? with
  | none => rfl
  | some e =>
    show ((List.replicate N.n (0 : Int))[p]?).getD 0 = 0
    rw [List.getElem?_replicate]
    split <;> rfl
theorem bare_offer (N : Net) : N.ties.map (offerA (bareA N)) = List.replicate N.ties.length none := by
  have : ∀ t, offerA (bareA N) t = none := fun t => by
    have oi := offer_is (bareA N) t
    cases e : offerA (bareA N) t with
    | none => rfl
    | some b =>
      rw [e] at oi
      have := oi.2.1
      unfold fallA at this
      rw [bare_cell, bare_cell] at this
      omega
  apply List.ext_getElem?
  intro i
  rw [List.getElem?_map, List.getElem?_replicate]
  by_cases h : i < N.ties.length
  · rw [List.getElem?_eq_getElem h, if_pos h]; simp [this]
  · rw [List.getElem?_eq_none (by omega), if_neg h]; rfl
theorem bare_sq (N : Net) : sqH (bareA N) = 0 := by
  have h1 : ∀ n : Nat, sqL (List.replicate n 0) = 0 := by
    intro n
    induction n with
    | zero => rfl
    | succ n ih => unfold sqL at ih ⊢; rw [List.replicate_succ, List.map_cons, List.sum_cons, ih]; rfl
  unfold sqH bareA
  induction N.ends with
  | nil => rfl
  | cons e es ih => rw [List.map_cons, List.map_cons, List.sum_cons, ih, h1]; rfl
/-! ### moves are of the offers, at most their mosts -/
theorem moves_of_offers : ∀ (ps : List (Tie × Option Nat)) (H : List (List Int)) (i : Nat) (p : Tie × Option Nat) (mv : Mv), ps[i]? = some p → (movesR H ps)[i]? = some mv → ∀ q, mv = some q → q.2 ≤ p.1.m ∧ p.2 = some q.1
  | [], _, _, _, _, h, _ => by simp at h
  | p :: ps, H, 0, p', mv, h1, h2 => by
    simp [movesR] at h1 h2
    subst h1 h2
    intro q hq
    unfold mvS at hq
    cases e : p.2 with
    | none => rw [e] at hq; cases hq
    | some k =>
      rw [e] at hq
      simp only at hq
      by_cases z : 0 < (if cell H k p.1.i < p.1.m then cell H k p.1.i else p.1.m)
      · rw [if_pos z] at hq
        cases hq
        refine ⟨?_, rfl⟩
        show (if cell H k p.1.i < p.1.m then cell H k p.1.i else p.1.m) ≤ _
        by_cases y : cell H k p.1.i < p.1.m
        · rw [if_pos y]; omega
        · rw [if_neg y]; exact Int.le_refl _
      · rw [if_neg z] at hq; cases hq
  | p :: ps, H, i + 1, p', mv, h1, h2 => moves_of_offers ps (mvS H p).1 i p' mv (by simpa using h1) (by simpa [movesR] using h2)
theorem movesA_R (N : Net) (h : List (List Int)) (os : List (Option Nat)) : movesA N h os = movesR h (N.ties.zip os) := mv_eq (N.ties.zip os) h []
/-! ### a tie otherwise -/
def S_otherwise (run : List Tr → Option FR) : Prop := ∀ N h os (a : Nat), OkN N → OkH 1000000000 N h → OkO N os → (∀ os', OkO N os' → weightA N h os' ≤ weightA N h os) → a < N.ties.length → run [.c (netD N), .c (hD h), .c (osD os), .c (.int (a : Int))] = some (.ok (.c (.bool true)) [.gone, .gone, .gone, .gone])
theorem w_otherwise {F : Genv} (h1 : Fn F "weight" S_weight) (h2 : Fn F "fall" S_fall) : S_otherwise (r_law_b_otherwise_right F) := by
  obtain ⟨r1, f1, q1⟩ := h1
  obtain ⟨r2, f2, q2⟩ := h2
  intro N h os a on oh oo most ha
  have l64 := on.tlen
  have e4 := on.e4
  have ol := oo.len
  obtain ⟨t, ht⟩ : ∃ t, N.ties[a]? = some t := ⟨_, List.getElem?_eq_getElem ha⟩
  obtain ⟨o, ho⟩ : ∃ o, os[a]? = some o := ⟨_, List.getElem?_eq_getElem (by omega)⟩
  have ot := on.t t (List.mem_of_getElem? ht)
  have kt : kidD (netD N) 2 = some (.tuple (N.ties.map tieD)) := rfl
  have kt2 : kidD (.tuple (N.ties.map tieD)) (a : Int) = some (tieD t) := by
    have : atI (N.ties.map tieD) (a : Int) = some (tieD t) := by rw [atI_n, List.getElem?_map, ht]; rfl
    exact this
  have kt3 : kidD (tieD t) 2 = some (.int t.m) := rfl
  have ko : kidD (osD os) (a : Int) = some (kD o) := by
    have : atI (os.map kD) (a : Int) = some (kD o) := by rw [atI_n, List.getElem?_map, ho]; rfl
    exact this
  have ok0 : ∀ x Γ, slotOk (.c x :: Γ) 0 = true := fun _ _ => rfl
  have ok2 : ∀ a b x Γ, slotOk (a :: b :: .c x :: Γ) 2 = true := fun _ _ _ _ => rfl
  have ok3 : ∀ a b c x Γ, slotOk (a :: b :: c :: .c x :: Γ) 3 = true := fun _ _ _ _ _ => rfl
  have ew := q1 N h os on oh oo
  have sl1 : primEv (.sl false true) [.c (osD os), .c (.int (a : Int))] = some (mpT kD (os.take a)) := sl_to kD (xs := os) (by omega)
  have sl2 : primEv (.sl true false) [.c (osD os), .c (.int ((a : Int) + 1))] = some (mpT kD (os.drop (a + 1))) := sl_from kD (xs := os) (a := a + 1) (by omega)
  have ad1 : ∀ o', addEv (mpT kD (os.take a)) (.l [.c (kD o')]) = some (mpT kD (os.take a ++ [o'])) := fun o' => add_m kD (ys := [o']) (by simp; omega)
  have ad2 : ∀ o', addEv (mpT kD (os.take a ++ [o'])) (mpT kD (os.drop (a + 1))) = some (mpT kD (os.set a o')) := fun o' => by
    rw [add_m kD (by simp; omega), set_parts o' os a (by omega)]
  have sm : ∀ xs : List (Option Nat), Hw.settle (mpT kD xs) = some (.c (osD xs)) := settle_mpT kD
  have okS : ∀ o', (∀ k, o' = some k → k < N.ends.length) → OkO N (os.set a o') := fun o' h => oo.set a h
  have ws : ∀ o', weightA N h (os.set a o') = weightA N h os - wtA h (t, o) + wtA h (t, o') := fun o' => weight_set h N.ties os a o o' t ht ho
  have hW : ∀ o', (∀ k, o' = some k → k < N.ends.length) → r1 [.c (netD N), .c (hD h), .c (osD (os.set a o'))] = some (.ok (.c (.int (weightA N h os - wtA h (t, o) + wtA h (t, o')))) [.gone, .gone, .gone]) := fun o' h' => by
    have := q1 N h (os.set a o') on oh (okS o' h')
    rw [ws] at this; exact this
  have most' : ∀ o', (∀ k, o' = some k → k < N.ends.length) → weightA N h os - wtA h (t, o) + wtA h (t, o') ≤ weightA N h os := fun o' h' => by
    have := most _ (okS o' h')
    rw [ws] at this; exact this
  have mm : ∀ k, k < N.ends.length → mulEv (.c (.int t.m)) (.c (.int (fallA h k t))) = some (.c (.int (wtA h (t, some k)))) := fun k hk =>
    mul_sm (i := t.m) (sm64 (by have := ot.lo; have := ot.hi; omega)) (sm64 (sm_fall oh.sh (oh.b62 (by decide)) hk ot))
  have hF := fun k (hk : k < N.ends.length) => q2 N h k a t on oh hk ht
  have w0 : wtA h (t, none) = 0 := rfl
  generalize weightA N h os = W at *
  refine run_ret rfl (by decide) ?_
  refine Run.nx (Γ1 := [.c (netD N), .c (hD h), .c (osD os), .c (.int a), .c (.int W), .gone, .gone, .gone, .gone]) (by simp [f1, ew]) ?_
  refine Run.nx (Γ1 := [.c (netD N), .c (hD h), .c (osD os), .c (.int a), .c (.int W), .c (.int t.m), .gone, .gone, .gone]) (by simp [ok0, kt, kt2, kt3]) ?_
  refine Run.nx (Γ1 := [.c (netD N), .c (hD h), .c (osD os), .c (.int a), .c (.int W), .c (.int t.m), .c (.int 0), .gone, .gone]) (by simp) ?_
  have rest : Run F (b_law_b_otherwise_right.drop 4) [.c (netD N), .c (hD h), .c (osD os), .c (.int a), .c (.int W), .c (.int t.m), .c (.int (wtA h (t, o))), .gone, .gone] (fun r => ∃ Γ, r = .rt (.c (.bool true)) Γ ∧ outsOf [false, false, false, false] Γ = [.gone, .gone, .gone, .gone]) := by
    refine Run.skip (Γ1 := [.c (netD N), .c (hD h), .c (osD os), .c (.int a), .c (.int W), .c (.int t.m), .c (.int (wtA h (t, o))), .gone, .gone]) ?_ ?_
    · have e := hW none (fun _ z => by cases z)
      have a1 := ad1 none
      rw [kD_n] at a1
      rw [w0] at e
      generalize wtA h (t, o) = wo at *
      simp [sl1, sl2, a1, ad2, sm, f1, e]
    refine Run.forM (c := nD) (xs := List.range N.ends.length) (Γ1 := [.c (netD N), .c (hD h), .c (osD os), .c (.int a), .c (.int W), .c (.int t.m), .c (.int (wtA h (t, o))), .gone, .gone])
      (fun i Γ => ∃ j7 j8, Γ = [.c (netD N), .c (hD h), .c (osD os), .c (.int a), .c (.int W), .c (.int t.m), .c (.int (wtA h (t, o))), j7, j8]) (it_rng (by simp [netD]) (by omega)) ⟨_, _, rfl⟩ ?_ ?_
    · rintro i k Γ hi ⟨j7, j8, rfl⟩
      obtain ⟨rfl, hk⟩ := range_get hi
      have hk' : ∀ k', some k = some k' → k' < N.ends.length := fun k' z => by cases z; exact hk
      have e := hW (some k) hk'
      have mo := most' (some k) hk'
      have a1 := ad1 (some k)
      rw [kD_s] at a1
      have m1 := mm k hk
      have f3 := hF k hk
      refine ⟨[.c (netD N), .c (hD h), .c (osD os), .c (.int a), .c (.int W), .c (.int t.m), .c (.int (wtA h (t, o))), .c (nD k), j8], rfl, ?_⟩
      generalize wtA h (t, o) = wo at *
      generalize wtA h (t, some k) = wk at *
      have z1 : (1 : Nat) ≤ sizeLine := sz (by decide)
      refine Run.nx (Γ1 := [.c (netD N), .c (hD h), .c (osD os), .c (.int a), .c (.int W), .c (.int t.m), .c (.int wo), .c (nD k), .c (.int (W - wo + wk))]) (by simp [nD, sl1, sl2, a1, ad2, sm, f1, e, z1]) ?_
      refine Run.skip (Γ1 := [.c (netD N), .c (hD h), .c (osD os), .c (.int a), .c (.int W), .c (.int t.m), .c (.int wo), .c (nD k), .c (.int (W - wo + wk))]) ?_ (Run.nil ⟨_, _, rfl⟩)
      have nl : ¬ (W < W - wo + wk) := by omega
      simp [nD, f2, f3, m1, nl]
    · rintro Γ ⟨j7, j8, rfl⟩
      exact Run.rt (t := .c (.bool true)) (Γ1 := [.c (netD N), .c (hD h), .c (osD os), .c (.int a), .c (.int W), .c (.int t.m), .c (.int (wtA h (t, o))), j7, j8]) (by simp) ⟨_, rfl, rfl⟩
  cases o with
  | none =>
    refine Run.skip (Γ1 := [.c (netD N), .c (hD h), .c (osD os), .c (.int a), .c (.int W), .c (.int t.m), .c (.int 0), .gone, .gone]) (by simp [ok2, ko]) ?_
    exact rest
  | some k =>
    have hk := oo.k k (List.mem_of_getElem? ho)
    have m1 := mm k hk
    have f3 := hF k hk
    refine Run.iteT (Γ1 := [.c (netD N), .c (hD h), .c (osD os), .c (.int a), .c (.int W), .c (.int t.m), .c (.int 0), .gone, .gone]) (by simp [ok2, ko]) ?_
    exact Run.nx (Γ1 := [.c (netD N), .c (hD h), .c (osD os), .c (.int a), .c (.int W), .c (.int t.m), .c (.int (wtA h (t, some k))), .gone, .gone]) (by simp [ok2, ko, f2, f3, m1]) (Run.nil rest)
end Hp
set_option Elab.async false
set_option linter.all false
set_option maxRecDepth 100000
set_option maxHeartbeats 400000
/-! a kind more that is bare; a place more without ties: beats and runs as without -/
namespace Hp
open PySem PySem.Spec PyProof.Rows L2 Hw
def sh1 (b : Bool) : Nat := if b then 1 else 0
def zr (n : Nat) : List Int := List.replicate n 0
def kmL {α : Type} (b : Bool) (z : α) (l : List α) : List α := if b then z :: l else l ++ [z]
def kmH (n : Nat) (b : Bool) (H : List (List Int)) : List (List Int) := kmL b (zr n) H
def kmN (N : Net) (b : Bool) (e : Nat) : Net := { N with ends := kmL b e N.ends }
theorem kmL_len {α : Type} (b : Bool) (z : α) (l : List α) : (kmL b z l).length = l.length + 1 := by cases b <;> simp [kmL]
theorem kmL_get {α : Type} (b : Bool) (z : α) {l : List α} {k : Nat} (h : k < l.length) : (kmL b z l)[k + sh1 b]? = l[k]? := by
  cases b
  · simp [kmL, sh1]; rw [List.getElem?_append_left h]
  · simp [kmL, sh1]
theorem kmL_z {α : Type} (b : Bool) (z : α) (l : List α) : ∀ {k : Nat} {x : α}, (kmL b z l)[k]? = some x → x = z ∨ ∃ k', k = k' + sh1 b ∧ k' < l.length ∧ l[k']? = some x := by
  intro k x h
  cases b
  · simp only [kmL, sh1] at h ⊢
    by_cases q : k < l.length
    · exact .inr ⟨k, rfl, q, by simpa [List.getElem?_append_left q] using h⟩
    · left
      have : k - l.length = 0 := by
        have := (List.getElem?_eq_some_iff.mp h).1
        simp at this; omega
      simp [List.getElem?_append_right (by omega : l.length ≤ k), this] at h
      exact h.symm
  · simp only [kmL, sh1] at h ⊢
    cases k with
    | zero => left; simpa using h.symm
    | succ k =>
      have h : l[k]? = some x := by simpa using h
      exact .inr ⟨k, rfl, (List.getElem?_eq_some_iff.mp h).1, h⟩
theorem kmL_set {α : Type} (b : Bool) (z : α) {l : List α} {k : Nat} (h : k < l.length) (x : α) : (kmL b z l).set (k + sh1 b) x = kmL b z (l.set k x) := by
  cases b
  · simp [kmL, sh1]; rw [List.set_append_left _ _ h]
  · simp [kmL, sh1]
theorem kmH_cell (n : Nat) (b : Bool) {H : List (List Int)} {k : Nat} (h : k < H.length) (p : Nat) : cell (kmH n b H) (k + sh1 b) p = cell H k p := by
  unfold cell kmH; rw [kmL_get b _ h]
theorem kmH_setC (n : Nat) (b : Bool) {H : List (List Int)} {k : Nat} (h : k < H.length) (p : Nat) (x : Int) : setC (kmH n b H) (k + sh1 b) p x = kmH n b (setC H k p x) := by
  unfold Hp.setC kmH
  rw [kmL_get b _ h, kmL_set b _ h]
theorem zr_get (n p : Nat) : ((zr n)[p]?).getD 0 = 0 := by
  unfold zr
  rw [List.getElem?_replicate]
  split <;> rfl
/-- every kind of the wider heaps is bare or one of the old ones -/
theorem kmH_old (n : Nat) (b : Bool) {H : List (List Int)} {k : Nat} (h : k < H.length + 1) : (∀ p, cell (kmH n b H) k p = 0) ∨ ∃ k', k = k' + sh1 b ∧ k' < H.length := by
  have hk : k < (kmH n b H).length := by unfold kmH; rw [kmL_len]; exact h
  rcases kmL_z b (zr n) H (List.getElem?_eq_getElem hk) with e | ⟨k', e1, e2, _⟩
  · left
    intro p
    unfold cell
    rw [List.getElem?_eq_getElem hk]
    show ((kmH n b H)[k][p]?).getD 0 = 0
    have e : (kmH n b H)[k] = zr n := e
    rw [e]; exact zr_get n p
  · exact .inr ⟨k', e1, e2⟩
theorem km_offer (n : Nat) (b : Bool) (H : List (List Int)) (t : Tie) : offerA (kmH n b H) t = (offerA H t).map (· + sh1 b) := by
  have o1 := offer_is (kmH n b H) t
  have o2 := offer_is H t
  have hl : (kmH n b H).length = H.length + 1 := kmL_len b _ H
  rw [hl] at o1
  have fo : ∀ k, k < H.length → fallA (kmH n b H) (k + sh1 b) t = fallA H k t := fun k hk => by unfold fallA; rw [kmH_cell n b hk, kmH_cell n b hk]
  have fz : ∀ k, k < H.length + 1 → fallA (kmH n b H) k t = 0 ∨ ∃ k', k = k' + sh1 b ∧ k' < H.length ∧ fallA (kmH n b H) k t = fallA H k' t := fun k hk => by
    rcases kmH_old n b hk with h | ⟨k', rfl, h⟩
    · left; unfold fallA; rw [h, h]; rfl
    · exact .inr ⟨k', rfl, h, fo k' h⟩
  refine o1.uniq ?_
  cases e : offerA H t with
  | none =>
    rw [e] at o2
    intro k hk
    rcases fz k hk with h | ⟨k', _, h, h2⟩
    · omega
    · have := o2 k' h; omega
  | some c =>
    rw [e] at o2
    obtain ⟨a1, a2, a3, a4⟩ := o2
    have fc := fo c a1
    refine ⟨by show c + sh1 b < _; cases b <;> simp [sh1] <;> omega, ?_, fun k hk => ?_, fun k hk => ?_⟩
    · show 0 < fallA (kmH n b H) (c + sh1 b) t; omega
    · show fallA (kmH n b H) k t ≤ fallA (kmH n b H) (c + sh1 b) t
      rcases fz k hk with h | ⟨k', _, h, h2⟩
      · omega
      · have := a3 k' h; omega
    · show fallA (kmH n b H) k t < fallA (kmH n b H) (c + sh1 b) t
      have hk : k < c + sh1 b := hk
      have hk2 : k < H.length + 1 := by cases b <;> simp [sh1] at hk <;> omega
      rcases fz k hk2 with h | ⟨k', h0, h, h2⟩
      · omega
      · have := a4 k' (by omega); omega
def shM (b : Bool) (m : Mv) : Mv := m.map fun q => (q.1 + sh1 b, q.2)
theorem km_mvS (n : Nat) (b : Bool) {H : List (List Int)} (t : Tie) {o : Option Nat} (ho : ∀ k, o = some k → k < H.length) : mvS (kmH n b H) (t, o.map (· + sh1 b)) = (kmH n b (mvS H (t, o)).1, shM b (mvS H (t, o)).2) := by
  cases o with
  | none => rfl
  | some k =>
    have hk := ho k rfl
    unfold mvS
    simp only [Option.map_some]
    rw [kmH_cell n b hk, kmH_setC n b hk]
    congr 1
    by_cases z : 0 < (if cell H k t.i < t.m then cell H k t.i else t.m)
    · rw [if_pos z, if_pos z]; rfl
    · rw [if_neg z, if_neg z]; rfl
theorem mvS_len (H : List (List Int)) (p : Tie × Option Nat) : (mvS H p).1.length = H.length := by
  unfold mvS
  cases p.2 with
  | none => rfl
  | some k => simp [Hp.setC]
theorem km_moves (n : Nat) (b : Bool) : ∀ (ts : List Tie) (os : List (Option Nat)) (H : List (List Int)), (∀ o ∈ os, ∀ k, o = some k → k < H.length) →
    movesR (kmH n b H) (ts.zip (os.map (Option.map (· + sh1 b)))) = (movesR H (ts.zip os)).map (shM b)
  | [], _, _, _ => rfl
  | _ :: _, [], _, _ => rfl
  | t :: ts, o :: os, H, ho => by
    have e := km_mvS n b t (ho o List.mem_cons_self)
    have ih := km_moves n b ts os (mvS H (t, o)).1 (fun o' h' k hk => by rw [mvS_len]; exact ho o' (List.mem_cons_of_mem _ h') k hk)
    simp only [List.map_cons, List.zip_cons_cons, movesR]
    rw [e]
    simp only [ih]
theorem km_go (N : Net) (b : Bool) (e : Nat) {G : List (List Int)} {hm : List Int} (hG : G.length = N.ends.length) (hl : hm.length = N.ends.length) (t : Tie) {m : Mv} (hk : ∀ q, m = some q → q.1 < N.ends.length) :
    goF (kmN N b e) (kmH N.n b G, kmL b 0 hm) (t, shM b m) = (kmH N.n b (goF N (G, hm) (t, m)).1, kmL b 0 (goF N (G, hm) (t, m)).2) := by
  cases m with
  | none => rfl
  | some q =>
    obtain ⟨k, m⟩ := q
    have hk := hk _ rfl
    have e1 : (kmN N b e).ends[k + sh1 b]? = N.ends[k]? := kmL_get b e hk
    show (if (kmN N b e).ends[k + sh1 b]? = some t.j then (setC (kmH N.n b G) (k + sh1 b) t.i (cell (kmH N.n b G) (k + sh1 b) t.i - m), (kmL b 0 hm).set (k + sh1 b) ((((kmL b 0 hm))[k + sh1 b]?).getD 0 + m))
      else (setC (setC (kmH N.n b G) (k + sh1 b) t.i (cell (kmH N.n b G) (k + sh1 b) t.i - m)) (k + sh1 b) t.j (cell (setC (kmH N.n b G) (k + sh1 b) t.i (cell (kmH N.n b G) (k + sh1 b) t.i - m)) (k + sh1 b) t.j + m), kmL b 0 hm)) = (kmH N.n b (if N.ends[k]? = some t.j then (setC G k t.i (cell G k t.i - m), hm.set k ((hm[k]?).getD 0 + m))
      else (setC (setC G k t.i (cell G k t.i - m)) k t.j (cell (setC G k t.i (cell G k t.i - m)) k t.j + m), hm)).1, kmL b 0 (if N.ends[k]? = some t.j then (setC G k t.i (cell G k t.i - m), hm.set k ((hm[k]?).getD 0 + m))
      else (setC (setC G k t.i (cell G k t.i - m)) k t.j (cell (setC G k t.i (cell G k t.i - m)) k t.j + m), hm)).2)
    have h1 : k < G.length := by omega
    have h2 : k < hm.length := by omega
    have h3 : k < (setC G k t.i (cell G k t.i - m)).length := by unfold Hp.setC; rw [List.length_set]; exact h1
    rw [e1, kmH_cell N.n b h1, kmH_setC N.n b h1, kmL_get b 0 h2, kmL_set b 0 h2]
    by_cases z : N.ends[k]? = some t.j
    · rw [if_pos z, if_pos z]
    · rw [if_neg z, if_neg z, kmH_cell N.n b h3, kmH_setC N.n b h3]
theorem km_gone (N : Net) (b : Bool) (e : Nat) : ∀ (ps : List (Tie × Mv)) (G : List (List Int)) (hm : List Int), G.length = N.ends.length → hm.length = N.ends.length → (∀ p ∈ ps, ∀ q, p.2 = some q → q.1 < N.ends.length) →
    (ps.map fun p => (p.1, shM b p.2)).foldl (goF (kmN N b e)) (kmH N.n b G, kmL b 0 hm) = (kmH N.n b (ps.foldl (goF N) (G, hm)).1, kmL b 0 (ps.foldl (goF N) (G, hm)).2)
  | [], _, _, _, _, _ => rfl
  | p :: ps, G, hm, hG, hl, hk => by
    have e0 := km_go N b e hG hl p.1 (hk p List.mem_cons_self)
    have lens : (goF N (G, hm) p).1.length = N.ends.length ∧ (goF N (G, hm) p).2.length = N.ends.length := by
      unfold goF
      cases p.2 with
      | none => exact ⟨hG, hl⟩
      | some q =>
        obtain ⟨k, m⟩ := q
        dsimp only
        split <;> simp [Hp.setC, hG, hl]
    have ih := km_gone N b e ps (goF N (G, hm) p).1 (goF N (G, hm) p).2 lens.1 lens.2 fun x hx => hk x (List.mem_cons_of_mem _ hx)
    simp only [List.map_cons, List.foldl_cons]
    rw [e0]
    exact ih
theorem addL_zr (n : Nat) : addL (zr n, zr n) = zr n := by
  unfold zr
  have := addL_zero (List.replicate n (0 : Int))
  simpa using this
theorem km_addH (n : Nat) (b : Bool) {G C : List (List Int)} (h : G.length = C.length) : addH (kmH n b G) (kmH n b C) = kmH n b (addH G C) := by
  have z := addL_zr n
  cases b
  · simp only [kmH, kmL, addH, Bool.false_eq_true, if_false]
    rw [List.zip_append h, List.map_append]
    simp [z]
  · simp only [kmH, kmL, addH, if_true, List.zip_cons_cons, List.map_cons, z]
theorem km_sh {N : Net} (b : Bool) (e : Nat) {H : List (List Int)} (s : Sh N H) : Sh (kmN N b e) (kmH N.n b H) := by
  refine ⟨by unfold kmN kmH; rw [kmL_len, kmL_len, s.len], fun l hl => ?_⟩
  obtain ⟨k, hk⟩ := List.mem_iff_getElem?.mp hl
  rcases kmL_z b _ H hk with h | ⟨k', _, _, h⟩
  · rw [h]; simp [zr, kmN]
  · exact s.l l (List.mem_of_getElem? h)
theorem km_beat {N : Net} (b : Bool) (e : Nat) {h c : List (List Int)} (s : Sh N h) (r : Sh N c) : beatA (kmN N b e) (kmH N.n b h) (kmH N.n b c) (allT (kmN N b e)) = (kmH N.n b (beatA N h c (allT N)).1, kmL b 0 (beatA N h c (allT N)).2) := by
  have a1 : offO N h (allT N) = N.ties.map (offerA h) := offO_all _ _
  have a2 : offO (kmN N b e) (kmH N.n b h) (allT (kmN N b e)) = (N.ties.map (offerA h)).map (Option.map (· + sh1 b)) := by
    have : offO (kmN N b e) (kmH N.n b h) (allT (kmN N b e)) = (kmN N b e).ties.map (offerA (kmH N.n b h)) := offO_all _ _
    rw [this, List.map_map]
    exact List.map_congr_left fun t _ => km_offer N.n b h t
  unfold beatA
  rw [a1, a2]
  have oo : OkO N (N.ties.map (offerA h)) := OkO.of s
  generalize N.ties.map (offerA h) = os at *
  have om := mv_ok (h := h) oo
  have m1 : movesA (kmN N b e) (kmH N.n b h) (os.map (Option.map (· + sh1 b))) = (movesA N h os).map (shM b) := by
    rw [movesA_R, movesA_R]
    exact km_moves N.n b N.ties os h fun o ho k hk => by rw [s.len]; exact oo.k k (hk ▸ ho)
  rw [m1]
  generalize movesA N h os = mv at *
  have g1 : goneA (kmN N b e) (kmH N.n b h) (mv.map (shM b)) = (kmH N.n b (goneA N h mv).1, kmL b 0 (goneA N h mv).2) := by
    unfold goneA
    have z : (kmN N b e).ties.zip (mv.map (shM b)) = (N.ties.zip mv).map fun p => (p.1, shM b p.2) := by
      show N.ties.zip (mv.map (shM b)) = _
      have := List.zip_map (f := id) (g := shM b) (l₁ := N.ties) (l₂ := mv)
      rw [List.map_id] at this
      rw [this]; rfl
    have z2 : (rowA (kmH N.n b h).length fun _ => 0) = kmL b 0 (rowA h.length fun _ => 0) := by
      have : (kmH N.n b h).length = h.length + 1 := kmL_len b _ h
      rw [this, rowA_zero, rowA_zero]
      cases b
      · simp only [kmL, Bool.false_eq_true, if_false]; rw [List.replicate_succ']
      · simp only [kmL, if_true]; rw [List.replicate_succ]
    rw [z, z2]
    exact km_gone N b e _ h _ s.len (by rw [rowA_len]; exact s.len) fun p hp q hq => om.k q (by rw [← hq]; exact (List.of_mem_zip (a := p.1) (b := p.2) hp).2)
  rw [g1]
  have gl := (gone_sh s om).1
  rw [km_addH N.n b (by rw [gl.len, r.len])]
theorem km_wt (n : Nat) (b : Bool) {H : List (List Int)} (t : Tie) {o : Option Nat} (ho : ∀ k, o = some k → k < H.length) : wtA (kmH n b H) (t, o.map (· + sh1 b)) = wtA H (t, o) := by
  cases o with
  | none => rfl
  | some k =>
    have hk := ho k rfl
    show t.m * fallA (kmH n b H) (k + sh1 b) t = t.m * fallA H k t
    unfold fallA
    rw [kmH_cell n b hk, kmH_cell n b hk]
theorem km_weight (N : Net) (b : Bool) (e : Nat) {H : List (List Int)} {os : List (Option Nat)} (ho : ∀ o ∈ os, ∀ k, o = some k → k < H.length) : weightA (kmN N b e) (kmH N.n b H) (os.map (Option.map (· + sh1 b))) = weightA N H os := by
  unfold weightA
  show (((N.ties.zip (os.map (Option.map (· + sh1 b))))).map _).sum = _
  have go : ∀ (ts : List Tie) (os : List (Option Nat)), (∀ o ∈ os, ∀ k, o = some k → k < H.length) → (ts.zip (os.map (Option.map (· + sh1 b)))).map (wtA (kmH N.n b H)) = (ts.zip os).map (wtA H) := by
    intro ts
    induction ts with
    | nil => intro os _; rfl
    | cons t ts ih =>
      intro os h
      cases os with
      | nil => rfl
      | cons o os =>
        simp only [List.map_cons, List.zip_cons_cons]
        rw [km_wt N.n b t (h o List.mem_cons_self), ih os fun x hx => h x (List.mem_cons_of_mem _ hx)]
  rw [go N.ties os ho]
theorem km_sq (n : Nat) (b : Bool) (H : List (List Int)) : sqH (kmH n b H) = sqH H := by
  have z : sqL (zr n) = 0 := by
    unfold zr
    induction n with
    | zero => rfl
    | succ n ih => unfold sqL at ih ⊢; rw [List.replicate_succ, List.map_cons, List.sum_cons, ih]; rfl
  unfold sqH kmH kmL
  cases b
  · simp [z]
  · simp [z]
end Hp
set_option Elab.async false
set_option linter.all false
set_option maxRecDepth 100000
set_option maxHeartbeats 400000
/-! a place more without ties; heaps lifted -/
namespace Hp
open PySem PySem.Spec PyProof.Rows L2 Hw
def pmH (H : List (List Int)) : List (List Int) := H.map fun l => l ++ [0]
def pmN (N : Net) : Net := { N with n := N.n + 1 }
theorem pm_cell {N : Net} {H : List (List Int)} (s : Sh N H) {k p : Nat} (hk : k < N.ends.length) (hp : p < N.n) : cell (pmH H) k p = cell H k p := by
  obtain ⟨l, g1, g2, gl⟩ := s.get hk hp
  have ll := s.l l gl
  unfold cell pmH
  rw [List.getElem?_map, g1]
  show (((l ++ [0])[p]?)).getD 0 = ((l[p]?)).getD 0
  rw [List.getElem?_append_left (by omega)]
theorem pm_setC {N : Net} {H : List (List Int)} (s : Sh N H) {k p : Nat} (hk : k < N.ends.length) (hp : p < N.n) (x : Int) : setC (pmH H) k p x = pmH (setC H k p x) := by
  obtain ⟨l, g1, g2, gl⟩ := s.get hk hp
  have ll := s.l l gl
  unfold Hp.setC pmH
  rw [List.getElem?_map, g1, List.map_set]
  show (H.map _).set k ((l ++ [0]).set p x) = (H.map _).set k (l.set p x ++ [0])
  rw [List.set_append_left _ _ (by omega)]
theorem pm_offer {N : Net} {H : List (List Int)} (s : Sh N H) {t : Tie} (ot : OkT N.n t) : offerA (pmH H) t = offerA H t := by
  have o1 := offer_is (pmH H) t
  have o2 := offer_is H t
  have hl : (pmH H).length = H.length := by simp [pmH]
  rw [hl] at o1
  have f : ∀ k, k < H.length → fallA (pmH H) k t = fallA H k t := fun k hk => by
    rw [s.len] at hk
    unfold fallA; rw [pm_cell s hk ot.i, pm_cell s hk ot.j]
  refine o1.uniq ?_
  cases e : offerA H t with
  | none => rw [e] at o2; exact fun k hk => by rw [f k hk]; exact o2 k hk
  | some c =>
    rw [e] at o2
    obtain ⟨a1, a2, a3, a4⟩ := o2
    refine ⟨a1, by rw [f c a1]; exact a2, fun k hk => by rw [f k hk, f c a1]; exact a3 k hk, fun k hk => by rw [f k (by omega), f c a1]; exact a4 k hk⟩
theorem pm_mvS {N : Net} {H : List (List Int)} (s : Sh N H) {t : Tie} (ot : OkT N.n t) {o : Option Nat} (ho : ∀ k, o = some k → k < N.ends.length) : mvS (pmH H) (t, o) = (pmH (mvS H (t, o)).1, (mvS H (t, o)).2) := by
  cases o with
  | none => rfl
  | some k =>
    have hk := ho k rfl
    unfold mvS
    simp only
    rw [pm_cell s hk ot.i, pm_setC s hk ot.i]
theorem mvS_sh {N : Net} {H : List (List Int)} (s : Sh N H) (t : Tie) {o : Option Nat} (ho : ∀ k, o = some k → k < N.ends.length) : Sh N (mvS H (t, o)).1 := mv_sh (s := (H, [])) (p := (t, o)) s ho
theorem pm_moves {N : Net} : ∀ (ts : List Tie) (os : List (Option Nat)) (H : List (List Int)), Sh N H → (∀ t ∈ ts, OkT N.n t) → (∀ o ∈ os, ∀ k, o = some k → k < N.ends.length) → movesR (pmH H) (ts.zip os) = movesR H (ts.zip os)
  | [], _, _, _, _, _ => rfl
  | _ :: _, [], _, _, _, _ => rfl
  | t :: ts, o :: os, H, s, ht, ho => by
    have e := pm_mvS s (ht t List.mem_cons_self) (ho o List.mem_cons_self)
    have ih := pm_moves ts os (mvS H (t, o)).1 (mvS_sh s t (ho o List.mem_cons_self)) (fun x hx => ht x (List.mem_cons_of_mem _ hx)) (fun x hx => ho x (List.mem_cons_of_mem _ hx))
    simp only [List.zip_cons_cons, movesR]
    rw [e]
    simp only [ih]
theorem pm_go {N : Net} {G : List (List Int)} {hm : List Int} (s : Sh N G) {t : Tie} (ot : OkT N.n t) {m : Mv} (hk : ∀ q, m = some q → q.1 < N.ends.length) : goF (pmN N) (pmH G, hm) (t, m) = (pmH (goF N (G, hm) (t, m)).1, (goF N (G, hm) (t, m)).2) := by
  cases m with
  | none => rfl
  | some q =>
    obtain ⟨k, m⟩ := q
    have hk := hk _ rfl
    show (if N.ends[k]? = some t.j then (setC (pmH G) k t.i (cell (pmH G) k t.i - m), hm.set k ((hm[k]?).getD 0 + m))
      else (setC (setC (pmH G) k t.i (cell (pmH G) k t.i - m)) k t.j (cell (setC (pmH G) k t.i (cell (pmH G) k t.i - m)) k t.j + m), hm)) = (pmH (if N.ends[k]? = some t.j then (setC G k t.i (cell G k t.i - m), hm.set k ((hm[k]?).getD 0 + m))
      else (setC (setC G k t.i (cell G k t.i - m)) k t.j (cell (setC G k t.i (cell G k t.i - m)) k t.j + m), hm)).1, (if N.ends[k]? = some t.j then (setC G k t.i (cell G k t.i - m), hm.set k ((hm[k]?).getD 0 + m))
      else (setC (setC G k t.i (cell G k t.i - m)) k t.j (cell (setC G k t.i (cell G k t.i - m)) k t.j + m), hm)).2)
    have s2 := s.setC hk t.i (cell G k t.i - m)
    rw [pm_cell s hk ot.i, pm_setC s hk ot.i, pm_cell s2 hk ot.j, pm_setC s2 hk ot.j]
    by_cases z : N.ends[k]? = some t.j
    · rw [if_pos z, if_pos z]
    · rw [if_neg z, if_neg z]
theorem pm_gone {N : Net} : ∀ (ps : List (Tie × Mv)) (G : List (List Int)) (hm : List Int), Sh N G → hm.length = N.ends.length → (∀ p ∈ ps, OkT N.n p.1 ∧ ∀ q, p.2 = some q → q.1 < N.ends.length) →
    ps.foldl (goF (pmN N)) (pmH G, hm) = (pmH (ps.foldl (goF N) (G, hm)).1, (ps.foldl (goF N) (G, hm)).2)
  | [], _, _, _, _, _ => rfl
  | p :: ps, G, hm, s, hl, hk => by
    obtain ⟨k1, k2⟩ := hk p List.mem_cons_self
    have e := pm_go (hm := hm) s k1 k2
    have st := go_sh (s := (G, hm)) (p := p) s hl k2
    have ih := pm_gone ps (goF N (G, hm) p).1 (goF N (G, hm) p).2 st.1 st.2 fun x hx => hk x (List.mem_cons_of_mem _ hx)
    simp only [List.foldl_cons]
    rw [e]
    exact ih
theorem addL_snoc {a b : List Int} (h : a.length = b.length) : addL (a ++ [0], b ++ [0]) = addL (a, b) ++ [0] := by
  simp only [addL]
  rw [List.zip_append h, List.map_append]; rfl
theorem pm_addH {n : Nat} : ∀ (G C : List (List Int)), (∀ l ∈ G, l.length = n) → (∀ l ∈ C, l.length = n) → addH (pmH G) (pmH C) = pmH (addH G C)
  | [], _, _, _ => rfl
  | _ :: _, [], _, _ => rfl
  | l :: G, r :: C, h1, h2 => by
    have ih := pm_addH G C (fun x hx => h1 x (List.mem_cons_of_mem _ hx)) (fun x hx => h2 x (List.mem_cons_of_mem _ hx))
    simp only [pmH, addH] at ih ⊢
    simp only [List.map_cons, List.zip_cons_cons, ih]
    rw [addL_snoc (by rw [h1 l List.mem_cons_self, h2 r List.mem_cons_self])]
theorem pm_sh {N : Net} {H : List (List Int)} (s : Sh N H) : Sh (pmN N) (pmH H) := ⟨by simp [pmH, pmN, s.len], fun l hl => by
  obtain ⟨r, hr, rfl⟩ := List.mem_map.mp hl
  simp [pmN, s.l r hr]⟩
theorem pm_beat {N : Net} (on : OkN N) {h c : List (List Int)} (s : Sh N h) (r : Sh N c) : bt (pmN N) (pmH h) (pmH c) = (pmH (bt N h c).1, (bt N h c).2) := by
  have a1 : offO N h (allT N) = N.ties.map (offerA h) := offO_all _ _
  have a2 : offO (pmN N) (pmH h) (allT (pmN N)) = N.ties.map (offerA h) := by
    have : offO (pmN N) (pmH h) (allT (pmN N)) = N.ties.map (offerA (pmH h)) := offO_all _ _
    rw [this]
    exact List.map_congr_left fun t ht => pm_offer s (on.t t ht)
  unfold bt beatA
  rw [a1, a2]
  have oo : OkO N (N.ties.map (offerA h)) := OkO.of s
  generalize N.ties.map (offerA h) = os at *
  have om := mv_ok (h := h) oo
  have m1 : movesA (pmN N) (pmH h) os = movesA N h os := by
    rw [movesA_R, movesA_R]
    exact pm_moves N.ties os h s on.t fun o ho k hk => oo.k k (hk ▸ ho)
  rw [m1]
  generalize movesA N h os = mv at *
  have g1 : goneA (pmN N) (pmH h) mv = (pmH (goneA N h mv).1, (goneA N h mv).2) := by
    unfold goneA
    have z2 : (rowA (pmH h).length fun _ => 0) = (rowA h.length fun _ => 0) := by simp [pmH]
    rw [z2]
    exact pm_gone _ h _ s (by rw [rowA_len]; exact s.len) fun p hp => ⟨on.t p.1 (List.of_mem_zip (a := p.1) (b := p.2) hp).1, fun q hq => om.k q (by rw [← hq]; exact (List.of_mem_zip (a := p.1) (b := p.2) hp).2)⟩
  rw [g1]
  have gl := (gone_sh s om).1
  rw [pm_addH _ _ gl.l r.l]
theorem pm_run {N : Net} (on : OkN N) : ∀ (rows : List (List (List Int))) (h : List (List Int)), Sh N h → (∀ c ∈ rows, Sh N c) → standsR (pmN N) (pmH h) (rows.map pmH) = (standsR N h rows).map pmH ∧ homesR (pmN N) (pmH h) (rows.map pmH) = homesR N h rows
  | [], _, _, _ => ⟨rfl, rfl⟩
  | c :: rows, h, s, r => by
    have e := pm_beat on s (r c List.mem_cons_self)
    have b := (beat_sh s (r c List.mem_cons_self) (allT N)).1
    have ih := pm_run on rows (bt N h c).1 b fun x hx => r x (List.mem_cons_of_mem _ hx)
    simp only [List.map_cons, standsR, homesR]
    rw [e]
    exact ⟨by simp only [ih.1], by simp only [ih.2]⟩
theorem pm_runA {N : Net} (on : OkN N) {rows : List (List (List Int))} {h : List (List Int)} (s : Sh N h) (r : ∀ c ∈ rows, Sh N c) : runA (pmN N) (pmH h) (rows.map pmH) = ((runA N h rows).1.map pmH, (runA N h rows).2) := by
  have := pm_run on rows h s r
  rw [runA_eq, runA_eq, this.1, this.2]
  have : (pmH h).length = h.length := by simp [pmH]
  rw [this]; rfl
theorem pm_great {N : Net} (on : OkN N) : greatA (pmN N) 0 = greatA N 0 := by
  have z : ∀ side, outA N side N.n = 0 := fun side => by
    unfold outA
    have : N.ties.filter (fun t => decide (endp side t = N.n)) = [] := by
      rw [List.filter_eq_nil_iff]
      intro t ht
      have ot := on.t t ht
      have := ot.i; have := ot.j
      simp only [decide_eq_true_eq]
      unfold endp
      split <;> omega
    rw [this]; rfl
  have g : grK N 0 N.n = 0 := by unfold grK; rw [z, z]; rfl
  unfold greatA
  show (N.ends.map fun e => ((placesOf (N.n + 1) e).map (grK N 0)).sum).sum = _
  have : ∀ e ∈ N.ends, ((placesOf (N.n + 1) e).map (grK N 0)).sum = ((placesOf N.n e).map (grK N 0)).sum := fun e he => by
    have := on.e e he
    unfold placesOf
    rw [List.range_succ, List.filter_append, List.map_append, List.sum_append]
    have : ([N.n].filter fun p => !decide (p = e)) = [N.n] := by
      have : ¬ (N.n = e) := by omega
      simp [this]
    rw [this]
    simp [g]
  rw [List.map_congr_left this]
/-! ### heaps lifted -/
def liftL (m : Int) (e : Nat) (l : List Int) : List Int := l.zipIdx.map fun q => q.1 + m * (if q.2 = e then 0 else 1)
def liftH (m : Int) (es : List Nat) (h : List (List Int)) : List (List Int) := (h.zip es).map fun p => liftL m p.2 p.1
theorem lift_get {m : Int} {es : List Nat} {h : List (List Int)} {k : Nat} {l : List Int} {e : Nat} (h1 : h[k]? = some l) (h2 : es[k]? = some e) : (liftH m es h)[k]? = some (liftL m e l) := by
  unfold liftH
  rw [List.getElem?_map]
  have : (h.zip es)[k]? = some (l, e) := by rw [List.getElem?_zip_eq_some]; exact ⟨h1, h2⟩
  rw [this]; rfl
theorem liftL_get {m : Int} {e p : Nat} {l : List Int} {x : Int} (h : l[p]? = some x) : (liftL m e l)[p]? = some (x + m * (if p = e then 0 else 1)) := by
  unfold liftL
  rw [List.getElem?_map, List.getElem?_zipIdx, h]; simp
theorem lift_cell {N : Net} {m : Int} {h : List (List Int)} (s : Sh N h) {k p : Nat} (hk : k < N.ends.length) (hp : p < N.n) (hn : p ∉ N.ends) : cell (liftH m N.ends h) k p = cell h k p + m := by
  obtain ⟨l, g1, g2, gl⟩ := s.get hk hp
  have he := List.getElem?_eq_getElem hk
  have ne : ¬ (p = N.ends[k]) := fun z => hn (z ▸ List.getElem_mem hk)
  unfold cell at g2 ⊢
  rw [lift_get g1 he]
  show ((liftL m N.ends[k] l)[p]?).getD 0 = _
  rw [liftL_get g2, if_neg ne]
  simp
theorem lift_offer {N : Net} {m : Int} {h : List (List Int)} (s : Sh N h) {t : Tie} (ot : OkT N.n t) (hi : t.i ∉ N.ends) (hj : t.j ∉ N.ends) : offerA (liftH m N.ends h) t = offerA h t := by
  have o1 := offer_is (liftH m N.ends h) t
  have o2 := offer_is h t
  have hl : (liftH m N.ends h).length = h.length := by simp [liftH, s.len]
  rw [hl] at o1
  have f : ∀ k, k < h.length → fallA (liftH m N.ends h) k t = fallA h k t := fun k hk => by
    rw [s.len] at hk
    unfold fallA; rw [lift_cell s hk ot.i hi, lift_cell s hk ot.j hj]; omega
  refine o1.uniq ?_
  cases e : offerA h t with
  | none => rw [e] at o2; exact fun k hk => by rw [f k hk]; exact o2 k hk
  | some c =>
    rw [e] at o2
    obtain ⟨a1, a2, a3, a4⟩ := o2
    refine ⟨a1, by rw [f c a1]; exact a2, fun k hk => by rw [f k hk, f c a1]; exact a3 k hk, fun k hk => by rw [f k (by omega), f c a1]; exact a4 k hk⟩
theorem lift_ok {N : Net} {m : Int} {h : List (List Int)} (oh : OkH 1000000000 N h) (b : ∀ l ∈ h, ∀ x ∈ l, x ≤ 100000000) (m0 : 0 ≤ m) (m1 : m ≤ 1000) : OkH 1000000000 N (liftH m N.ends h) := by
  refine ⟨by simp [liftH, oh.len], fun k e l he hl => ?_⟩
  have hk : k < h.length := by rw [oh.len]; exact (List.getElem?_eq_some_iff.mp he).1
  have ol := oh.l k e _ he (List.getElem?_eq_getElem hk)
  rw [lift_get (List.getElem?_eq_getElem hk) he] at hl
  cases hl
  refine ⟨by simp [liftL, ol.len], fun x hx => ?_, ?_⟩
  · obtain ⟨q, hq, rfl⟩ := List.mem_map.mp hx
    have hq1 : q.1 ∈ h[k] := by
      have := (List.mem_zipIdx_iff_getElem? (x := q)).mp hq
      exact List.mem_of_getElem? this
    have b0 := (ol.b _ hq1).1
    have b1 := b _ (List.getElem_mem hk) _ hq1
    show 0 ≤ q.1 + m * (if q.2 = e then 0 else 1) ∧ q.1 + m * (if q.2 = e then 0 else 1) ≤ 1000000000
    split <;> omega
  · rw [liftL_get ol.z, if_pos rfl]; simp
end Hp
set_option Elab.async false
set_option linter.all false
set_option maxRecDepth 100000
set_option maxHeartbeats 400000
/-! a kind more, a place more: the law's own functions -/
namespace Hp
open PySem PySem.Spec PyProof.Rows L2 Hw
theorem add_t {xs ys : List PyData} (l : xs.length + ys.length ≤ 1000) : addEv (.c (.tuple xs)) (.c (.tuple ys)) = some (.c (.tuple (xs ++ ys))) := by
  have z : xs.length + ys.length ≤ sizeLine := sz (by omega)
  have e1 : asInt (.c (.tuple xs)) = none := rfl
  simp only [addEv, e1, asList_t, asTup_c]
  rw [if_pos z]
theorem eq_same {a : Tr} {d : PyData} {k : Nat} (h : see a = some d) (na : asStr a = none) (c : CD k d) (l : k ≤ 64) (b : Tr) (hb : see b = some d) : cmpEv .Eq a b = some true := by
  rw [eq_see h hb na (c.plain l) (c.plain l), eqv_refl _ c.nd]
theorem ev_varM {F : Genv} {α : Type} (c : α → PyData) (xs : List α) {Γ : List Tr} {i : Nat} (h : Γ[i]? = some (mpT c xs)) : ev F (.var i) Γ = some (.ok (.c (.list (xs.map c))) (Γ.set i (.c (.list (xs.map c))))) := by
  have fz := mpT_frz c xs
  unfold mpT at h fz
  simp only [ev, h, fz]; rfl
theorem CD.os (os : List (Option Nat)) : CD 1 (osD os) := CD.list fun d hd => by
  obtain ⟨x, _, rfl⟩ := List.mem_map.mp hd
  cases x with
  | none => exact CD.none
  | some k => exact CD.int _
theorem km_okN {N : Net} (on : OkN N) (b : Bool) {e : Nat} (he : e < N.n) (h3 : N.ends.length ≤ 3) : OkN (kmN N b e) := by
  have l : (kmN N b e).ends.length = N.ends.length + 1 := kmL_len b e N.ends
  refine ⟨on.n1, on.n8, by omega, by omega, fun x hx => ?_, on.t, on.s⟩
  obtain ⟨k, hk⟩ := List.mem_iff_getElem?.mp hx
  rcases kmL_z b e N.ends hk with h | ⟨k', _, _, h⟩
  · rw [h]; exact he
  · exact on.e x (List.mem_of_getElem? h)
theorem km_okH {high : Int} {N : Net} {h : List (List Int)} (oh : OkH high N h) (hh : 0 ≤ high) (b : Bool) {e : Nat} (he : e < N.n) : OkH high (kmN N b e) (kmH N.n b h) := by
  refine ⟨by unfold kmN kmH; rw [kmL_len, kmL_len, oh.len], fun k e' l g1 g2 => ?_⟩
  have len := oh.len
  have g1 : (kmL b e N.ends)[k]? = some e' := g1
  have g2 : (kmL b (zr N.n) h)[k]? = some l := g2
  by_cases hz : ∃ k', k = k' + sh1 b ∧ k' < h.length
  · obtain ⟨k', rfl, hk'⟩ := hz
    rw [kmL_get b _ hk'] at g2
    rw [kmL_get b _ (by omega)] at g1
    exact oh.l k' e' l g1 g2
  · have hl : l = zr N.n := by
      rcases kmL_z b _ h g2 with r | ⟨k', r1, r2, _⟩
      · exact r
      · exact absurd ⟨k', r1, r2⟩ hz
    have he' : e' < N.n := by
      rcases kmL_z b _ N.ends g1 with r | ⟨k', r1, r2, r3⟩
      · rw [r]; exact he
      · exact absurd ⟨k', r1, by omega⟩ hz
    subst hl
    refine ⟨by simp [zr, kmN], fun x hx => ?_, ?_⟩
    · have := List.eq_of_mem_replicate hx
      subst this; exact ⟨Int.le_refl _, hh⟩
    · show (zr N.n)[e']? = some 0
      unfold zr
      rw [List.getElem?_replicate, if_pos he']
theorem kmD {α : Type} (c : α → PyData) (b : Bool) (z : α) (l : List α) : (kmL b z l).map c = if b then c z :: l.map c else l.map c ++ [c z] := by cases b <;> simp [kmL]
def S_kind_more (run : List Tr → Option FR) : Prop := ∀ N h (b : Bool) (e : Nat), OkN N → h.length ≤ 10 → run [.c (netD N), .c (hD h), .c (.bool b), .c (.int (e : Nat))] = some (.ok (.c (.tuple [netD (kmN N b e), hD (kmH N.n b h)])) [.gone, .gone, .gone, .gone])
theorem w_kind_more (F : Genv) : S_kind_more (r_law_b_kind_more F) := by
  intro N h b e on hl
  have n8 := on.n8
  have e4 := on.e4
  have mz := mul_zero (n := N.n) (by omega)
  have k0 : kidD (netD N) 0 = some (.int (N.n : Nat)) := rfl
  have k1 : kidD (netD N) 1 = some (.tuple (N.ends.map nD)) := rfl
  have k2 : kidD (netD N) 2 = some (.tuple (N.ties.map tieD)) := rfl
  have z1 : (1 : Nat) ≤ sizeLine := sz (by decide)
  have z2 : (2 : Nat) ≤ sizeLine := sz (by decide)
  have z3 : (3 : Nat) ≤ sizeLine := sz (by decide)
  refine run_ret rfl (by decide) ?_
  refine Run.nx (Γ1 := [.c (netD N), .c (hD h), .c (.bool b), .c (.int e), .c (lnD (zr N.n))]) (by simp [k0, mz, z1, zr]) ?_
  have dn : netD (kmN N b e) = .tuple [.int (N.n : Nat), .tuple ((kmL b e N.ends).map nD), .tuple (N.ties.map tieD)] := rfl
  have dh : hD (kmH N.n b h) = .tuple ((kmL b (zr N.n) h).map lnD) := rfl
  rw [kmD] at dn dh
  generalize zr N.n = Z at *
  have hd : hD h = .tuple (h.map lnD) := rfl
  have ok0 : ∀ x Γ, slotOk (.c x :: Γ) 0 = true := fun _ _ => rfl
  cases b with
  | true =>
    have a1 := add_t (xs := [nD e]) (ys := N.ends.map nD) (by simp; omega)
    have a2 := add_t (xs := [lnD Z]) (ys := h.map lnD) (by simp; omega)
    simp only [if_true] at dn dh
    rw [dn, dh]
    refine Run.iteT (Γ1 := [.c (netD N), .c (hD h), .c (.bool true), .c (.int e), .c (lnD Z)]) (by simp) ?_
    refine Run.rt (t := .c (.tuple [.tuple [.int (N.n : Nat), .tuple (nD e :: N.ends.map nD), .tuple (N.ties.map tieD)], .tuple (lnD Z :: h.map lnD)])) (Γ1 := [.c (netD N), .c (hD h), .c (.bool true), .c (.int e), .c (lnD Z)]) ?_ ⟨_, rfl, rfl⟩
    simp only [nD] at a1
    simp [ok0, k0, k1, k2, z1, z2, z3, a1, a2, hd, nD]
  | false =>
    have a1 := add_t (xs := N.ends.map nD) (ys := [nD e]) (by simp; omega)
    have a2 := add_t (xs := h.map lnD) (ys := [lnD Z]) (by simp; omega)
    simp only [Bool.false_eq_true, if_false] at dn dh
    rw [dn, dh]
    refine Run.skip (Γ1 := [.c (netD N), .c (hD h), .c (.bool false), .c (.int e), .c (lnD Z)]) (by simp) ?_
    refine Run.rt (t := .c (.tuple [.tuple [.int (N.n : Nat), .tuple (N.ends.map nD ++ [nD e]), .tuple (N.ties.map tieD)], .tuple (h.map lnD ++ [lnD Z])])) (Γ1 := [.c (netD N), .c (hD h), .c (.bool false), .c (.int e), .c (lnD Z)]) ?_ ⟨_, rfl, rfl⟩
    simp only [nD] at a1
    simp [ok0, k0, k1, k2, z1, z2, z3, a1, a2, hd, nD]
def S_kind_right (run : List Tr → Option FR) : Prop := ∀ N h c (b : Bool) (e : Nat), OkN N → N.ends.length ≤ 3 → e < N.n → OkH 1000000000 N h → OkH 9 N c → run [.c (netD N), .c (hD h), .c (hD c), .c (.bool b), .c (.int (e : Nat))] = some (.ok (.c (.bool true)) [.gone, .gone, .gone, .gone, .gone])
theorem w_kind_right {F : Genv} (h1 : Fn F "_law_b_kind_more" S_kind_more) (h2 : Fn F "offer" S_offer) (h3 : Fn F "weight" S_weight) (h4 : Fn F "beat" S_beat) (h5 : Fn F "squares" S_squares) : S_kind_right (r_law_b_kind_right F) := by
  obtain ⟨r1, f1, q1⟩ := h1
  obtain ⟨r2, f2, q2⟩ := h2
  obtain ⟨r3, f3, q3⟩ := h3
  obtain ⟨r4, f4, q4⟩ := h4
  obtain ⟨r5, f5, q5⟩ := h5
  intro N h c b e on n3 he oh oc
  have l64 := on.tlen
  have oW := km_okN on b he n3
  have oM := km_okH oh (by decide) b he
  have oC := km_okH oc (by decide) b he
  have hl := oh.len
  have cl := oc.len
  have e1 := q1 N h b e on (by omega)
  have e2 := q1 N c b e on (by omega)
  have e3 := q2 N h on oh
  have e4 := q2 (kmN N b e) (kmH N.n b h) oW oM
  have e4' : (kmN N b e).ties.map (offerA (kmH N.n b h)) = (N.ties.map (offerA h)).map (Option.map (· + sh1 b)) := by
    rw [List.map_map]
    exact List.map_congr_left fun t _ => km_offer N.n b h t
  rw [e4'] at e4
  have oo : OkO N (N.ties.map (offerA h)) := OkO.of oh.sh
  have oo2 : OkO (kmN N b e) ((N.ties.map (offerA h)).map (Option.map (· + sh1 b))) := by
    rw [← e4']; exact OkO.of oM.sh
  have wk := km_weight N b e (H := h) (os := N.ties.map (offerA h)) fun o ho k hk => by rw [hl]; exact oo.k k (hk ▸ ho)
  have e5 := q3 N h _ on oh oo
  have e6 := q3 (kmN N b e) (kmH N.n b h) _ oW oM oo2
  rw [wk] at e6
  have kb := km_beat b e oh.sh oc.sh
  have e7 := q4 (kmN N b e) (kmH N.n b h) (kmH N.n b c) oW oM oC
  rw [kb] at e7
  have e8 := q4 N h c on oh oc
  have bs := beat_sh oh.sh oc.sh (allT N)
  have e9 := q1 N (beatA N h c (allT N)).1 b e on (by rw [bs.1.len]; omega)
  have e10 := q5 N h on oh
  have e11 := q5 (kmN N b e) (kmH N.n b h) oW oM
  rw [km_sq] at e11
  have bl := bs.2
  have ne4 := on.e4
  generalize beatA N h c (allT N) = B at *
  have ol : (N.ties.map (offerA h)).length ≤ 64 := by simp; omega
  generalize N.ties.map (offerA h) = os at *
  generalize kmH N.n b h = M at *
  generalize kmH N.n b c = C at *
  generalize kmH N.n b B.1 = BM at *
  generalize kmN N b e = W at *
  generalize weightA N h os = wt at *
  generalize sqH h = sq at *
  refine run_ret rfl (by decide) ?_
  have i1 : ∀ a b : PyData, ixEv (.c (.tuple [a, b])) (.c (.int 1)) = some (.c b) := fun _ _ => rfl
  refine Run.nx (Γ1 := [.c (netD N), .c (hD h), .c (hD c), .c (.bool b), .c (.int e), .gone, .gone, .gone, .c (netD W), .c (hD M), .gone, .gone, .gone, .gone, .gone]) (by simp [f1, e1]) ?_
  refine Run.nx (Γ1 := [.c (netD N), .c (hD h), .c (hD c), .c (.bool b), .c (.int e), .c (hD C), .gone, .gone, .c (netD W), .c (hD M), .gone, .gone, .gone, .gone, .gone]) (by simp [f1, e2, i1]) ?_
  refine Run.nx (Γ1 := [.c (netD N), .c (hD h), .c (hD c), .c (.bool b), .c (.int e), .c (hD C), mpT kD os, .gone, .c (netD W), .c (hD M), .gone, .gone, .gone, .gone, .gone]) (by simp [f2, e3]) ?_
  have ev6 := ev_varM (F := F) kD os (Γ := [.c (netD N), .c (hD h), .c (hD c), .c (.bool b), .c (.int e), .c (hD C), mpT kD os, .gone, .c (netD W), .c (hD M), .gone, .gone, .gone, .gone, .gone]) (i := 6) rfl
  have hlc : ev F (.lc [14] (.nm 14) (.sq (.var 6)) [] (.ife (.e (.prim (.cmp .Is) [.pk 14, .e (.lit .none)])) (.lit .none) (.prim .add [.pk 14, .e (.prim (.bi .int) [.pk 3])]))) [.c (netD N), .c (hD h), .c (hD c), .c (.bool b), .c (.int e), .c (hD C), mpT kD os, .gone, .c (netD W), .c (hD M), .gone, .gone, .gone, .gone, .gone]
      = some (.ok (.l (os.map fun o => .c (kD (o.map (· + sh1 b))))) [.c (netD N), .c (hD h), .c (hD c), .c (.bool b), .c (.int e), .c (hD C), .c (osD os), .gone, .c (netD W), .c (hD M), .gone, .gone, .gone, .gone, .gone]) := by
    refine lc_map (c := kD) (Γ1 := [.c (netD N), .c (hD h), .c (hD c), .c (.bool b), .c (.int e), .c (hD C), .c (osD os), .gone, .c (netD W), .c (hD M), .gone, .gone, .gone, .gone, .gone]) _ (by simp [ev6]; rfl) (by simp) (fun o ho => ?_) (sz (by omega))
    have ok14 : ∀ b0 b1 b2 b3 b4 b5 b6 b7 b8 b9 b10 b11 b12 b13 x Γ, slotOk (b0 :: b1 :: b2 :: b3 :: b4 :: b5 :: b6 :: b7 :: b8 :: b9 :: b10 :: b11 :: b12 :: b13 :: .c x :: Γ) 14 = true := fun _ _ _ _ _ _ _ _ _ _ _ _ _ _ _ _ => rfl
    have ok3 : ∀ b0 b1 b2 x Γ, slotOk (b0 :: b1 :: b2 :: .c x :: Γ) 3 = true := fun _ _ _ _ _ => rfl
    refine ⟨_, [.c (netD N), .c (hD h), .c (hD c), .c (.bool b), .c (.int e), .c (hD C), .c (osD os), .gone, .c (netD W), .c (hD M), .gone, .gone, .gone, .gone, .c (kD o)], rfl, ?_, by simp⟩
    cases o with
    | none => simp [ok14, kD]
    | some k => cases b <;> simp [ok14, ok3, kD, sh1]
  have mp : (Tr.l (os.map fun o => .c (kD (o.map (· + sh1 b))))) = mpT kD (os.map (Option.map (· + sh1 b))) := by unfold mpT; rw [List.map_map]; rfl
  rw [mp] at hlc
  generalize os.map (Option.map (· + sh1 b)) = due at *
  refine Run.nx (Γ1 := [.c (netD N), .c (hD h), .c (hD c), .c (.bool b), .c (.int e), .c (hD C), .c (osD os), mpT kD due, .c (netD W), .c (hD M), .gone, .gone, .gone, .gone, .gone]) (by simp [hlc]) ?_
  have c1 : cmpEv .NotEq (mpT kD due) (mpT kD due) = some false := ne_same (d := osD due) (mpT_see kD _) rfl (CD.os _) (by decide) _ (mpT_see kD _)
  have ev7 := ev_varM (F := F) kD due (Γ := [.c (netD N), .c (hD h), .c (hD c), .c (.bool b), .c (.int e), .c (hD C), .c (osD os), mpT kD due, .c (netD W), .c (hD M), .gone, .gone, .gone, .gone, .gone]) (i := 7) rfl
  have oD : ∀ os : List (Option Nat), PyData.list (os.map kD) = osD os := fun _ => rfl
  rw [oD] at ev7
  refine Run.skip (Γ1 := [.c (netD N), .c (hD h), .c (hD c), .c (.bool b), .c (.int e), .c (hD C), .c (osD os), .c (osD due), .c (netD W), .c (hD M), .gone, .gone, .gone, .gone, .gone]) ?_ ?_
  · generalize hZ : mpT kD due = Z at *
    have okZ : ∀ a0 a1 a2 a3 a4 a5 a6 Γ, slotOk (a0 :: a1 :: a2 :: a3 :: a4 :: a5 :: a6 :: Z :: Γ) 7 = true := fun _ _ _ _ _ _ _ _ => by subst hZ; rfl
    simp [f2, e4, okZ, c1, f3, ev7, e5, e6]
  refine Run.nx (Γ1 := [.c (netD N), .c (hD h), .c (hD c), .c (.bool b), .c (.int e), .c (hD C), .c (osD os), .c (osD due), .c (netD W), .c (hD M), .c (hD BM), .c (lnD (kmL b 0 B.2)), .gone, .gone, .gone]) (by simp [f4, e7]) ?_
  refine Run.nx (Γ1 := [.c (netD N), .c (hD h), .c (hD c), .c (.bool b), .c (.int e), .c (hD C), .c (osD os), .c (osD due), .c (netD W), .c (hD M), .c (hD BM), .c (lnD (kmL b 0 B.2)), .c (hD B.1), .c (lnD B.2), .gone]) (by simp [f4, e8]) ?_
  have c2 : cmpEv .NotEq (.c (hD BM)) (.c (hD BM)) = some false := ne_same (see_c _) rfl (CD.h _) (by decide) _ (see_c _)
  refine Run.skip (Γ1 := [.c (netD N), .c (hD h), .c (hD c), .c (.bool b), .c (.int e), .c (hD C), .c (osD os), .c (osD due), .c (netD W), .c (hD M), .c (hD BM), .c (lnD (kmL b 0 B.2)), .c (hD B.1), .c (lnD B.2), .gone]) (by simp [f1, e9, i1, c2, f5, e10, e11]) ?_
  have z1 : (1 : Nat) ≤ sizeLine := sz (by decide)
  have z2 : (2 : Nat) ≤ sizeLine := sz (by decide)
  have hb : lnD B.2 = .tuple (B.2.map iD) := rfl
  have a1 := add_t (xs := B.2.map iD) (ys := [.int 0]) (by simp; omega)
  have a2 := add_t (xs := [.int 0]) (ys := B.2.map iD) (by simp; omega)
  have c3 : cmpEv .Eq (.c (lnD (kmL b 0 B.2))) (.c (lnD (kmL b 0 B.2))) = some true := eq_same (see_c _) rfl (CD.ln _) (by decide) _ (see_c _)
  have ok13 : ∀ b0 b1 b2 b3 b4 b5 b6 b7 b8 b9 b10 b11 b12 x Γ, slotOk (b0 :: b1 :: b2 :: b3 :: b4 :: b5 :: b6 :: b7 :: b8 :: b9 :: b10 :: b11 :: b12 :: .c x :: Γ) 13 = true := fun _ _ _ _ _ _ _ _ _ _ _ _ _ _ _ => rfl
  have dk : lnD (kmL b 0 B.2) = .tuple (if b then .int 0 :: B.2.map iD else B.2.map iD ++ [.int 0]) := by unfold lnD; rw [kmD]; rfl
  refine Run.rt (t := .c (.bool true)) (Γ1 := [.c (netD N), .c (hD h), .c (hD c), .c (.bool b), .c (.int e), .c (hD C), .c (osD os), .c (osD due), .c (netD W), .c (hD M), .c (hD BM), .c (lnD (kmL b 0 B.2)), .c (hD B.1), .c (lnD B.2), .gone]) ?_ ⟨_, rfl, rfl⟩
  have iF : ∀ a c : PyData, ixEv (.l [.c a, .c c]) (.c (.int 0)) = some (.c a) := fun _ _ => rfl
  have iT' : ∀ a c : PyData, ixEv (.l [.c a, .c c]) (.c (.int 1)) = some (.c c) := fun _ _ => rfl
  cases b
  · simp only [Bool.false_eq_true, if_false] at dk
    rw [dk] at c3 ⊢
    simp only [hb]
    simp [ok13, a1, a2, z1, z2, iF, c3]
  · simp only [if_true] at dk
    rw [dk] at c3 ⊢
    simp only [hb]
    simp [ok13, a1, a2, z1, z2, iT', c3]
end Hp
set_option Elab.async false
set_option linter.all false
set_option maxRecDepth 100000
set_option maxHeartbeats 400000
namespace Hp
open PySem PySem.Spec PyProof.Rows L2 Hw
theorem pm_okN {N : Net} (on : OkN N) (h7 : N.n ≤ 7) : OkN (pmN N) :=
  ⟨by show 1 ≤ N.n + 1; omega, by show N.n + 1 ≤ 8; omega, on.e1, on.e4, fun x hx => by have := on.e x hx; show x < N.n + 1; omega, fun t ht => by
    have o := on.t t ht
    exact ⟨by have := o.i; show t.i < N.n + 1; omega, by have := o.j; show t.j < N.n + 1; omega, o.ne, o.lo, o.hi⟩, on.s⟩
theorem pm_okH {high : Int} {N : Net} {h : List (List Int)} (on : OkN N) (hh : 0 ≤ high) (oh : OkH high N h) : OkH high (pmN N) (pmH h) := by
  refine ⟨by simp [pmH, pmN, oh.len], fun k e l g1 g2 => ?_⟩
  unfold pmH at g2
  rw [List.getElem?_map] at g2
  obtain ⟨l0, g3, rfl⟩ := Option.map_eq_some_iff.mp g2
  have o := oh.l k e l0 g1 g3
  have he := on.e e (List.mem_of_getElem? g1)
  refine ⟨by simp [pmN, o.len], fun x hx => ?_, ?_⟩
  · rcases List.mem_append.mp hx with hx | hx
    · exact o.b x hx
    · simp at hx; subst hx; exact ⟨Int.le_refl _, hh⟩
  · rw [List.getElem?_append_left (by rw [o.len]; exact he)]; exact o.z
theorem ev_pm {F : Genv} {Γ : List Tr} {h : List (List Int)} {s u : Nat} (hs : s < Γ.length) (hu : s ≠ u) (he : Γ[u]? = some (.c (hD h))) (hl : h.length ≤ 1000) (hw : ∀ l ∈ h, l.length ≤ 500) :
    ev F (.lc [s] (.nm s) (.sq (.var u)) [] (.prim .add [.pk s, .e (.tup [.e (.lit (.int 0))])])) Γ = some (.ok (mpT lnD (pmH h)) (Γ.set s .gone)) := by
  have := lc_map (F := F) (own := [s]) (tg := .nm s) (it := .sq (.var u)) (elt := .prim .add [.pk s, .e (.tup [.e (.lit (.int 0))])]) (c := lnD) (xs := h) (Γ := Γ) (Γ1 := Γ) (Γ0 := Γ.set s .gone) (fun l => .c (lnD (l ++ [0]))) (by simp [he, hD]) rfl (fun l hl => by
    have g1 : ((Γ.set s .gone).set s (.c (lnD l)))[s]? = some (.c (.tuple (l.map iD))) := List.getElem?_set_self (by rw [List.length_set]; exact hs)
    have o1 : slotOk ((Γ.set s .gone).set s (.c (lnD l))) s = true := by unfold slotOk; rw [g1]
    refine ⟨(Γ.set s .gone).set s (.c (lnD l)), (Γ.set s .gone).set s (.c (lnD l)), rfl, ?_, by simp only [wipe1, wipe0, List.set_set]⟩
    have z1 : (1 : Nat) ≤ sizeLine := sz (by decide)
    have a1 := add_t (xs := l.map iD) (ys := [.int 0]) (by simp; have := hw l hl; omega)
    have e : lnD (l ++ [0]) = .tuple (l.map iD ++ [.int 0]) := by simp [lnD, iD]
    rw [e]
    rw [List.set_set] at *
    simp [o1, g1, z1, a1]) (sz (by omega))
  have mp : Tr.l (h.map fun l => .c (lnD (l ++ [0]))) = mpT lnD (pmH h) := by unfold mpT pmH; rw [List.map_map]; rfl
  rw [mp] at this
  exact this
theorem pm_d (G : List (List Int)) : hD (pmH G) = .tuple (G.map fun l => lnD (l ++ [0])) := by unfold hD pmH; rw [List.map_map]; rfl
theorem cut_last (l : List Int) : slEv (.c (lnD (l ++ [0]))) none (some (-1)) = some (.c (lnD l)) := by
  have e : asList (.c (lnD (l ++ [0]))) = none := rfl
  have e2 : asTup (.c (lnD (l ++ [0]))) = some (l.map iD ++ [iD 0]) := by simp [lnD]
  unfold slEv
  rw [e, e2]
  have : Hw.cutD (l.map iD ++ [iD 0]) none (some (-1)) = l.map iD := by
    have h1 : HT.sIx (l.map iD ++ [iD 0]).length 0 none = 0 := rfl
    have h2 : HT.sIx (l.map iD ++ [iD 0]).length (l.map iD ++ [iD 0]).length (some (-1)) = l.length := by
      unfold HT.sIx
      simp only [List.length_append, List.length_map, List.length_singleton]
      rw [if_pos (by decide)]
      omega
    unfold Hw.cutD
    rw [h1, h2, List.drop_zero, Nat.sub_zero]
    exact List.take_left' (by simp)
  simp only [this]; rfl
theorem ev_cut {F : Genv} {Γ : List Tr} {G : List (List Int)} {s u : Nat} (hs : s < Γ.length) (hu : s ≠ u) (he : Γ[u]? = some (.c (hD (pmH G)))) (hl : G.length ≤ 1000) :
    ev F (.lc [s] (.nm s) (.sq (.var u)) [] (.prim (.sl false true) [.pk s, .e (.prim .neg [.e (.lit (.int 1))])])) Γ = some (.ok (mpT lnD G) (Γ.set s .gone)) := by
  rw [pm_d] at he
  have := lc_map (F := F) (own := [s]) (tg := .nm s) (it := .sq (.var u)) (elt := .prim (.sl false true) [.pk s, .e (.prim .neg [.e (.lit (.int 1))])]) (c := fun l : List Int => lnD (l ++ [0])) (xs := G) (Γ := Γ) (Γ1 := Γ) (Γ0 := Γ.set s .gone) (fun l => .c (lnD l)) (by simp [he]) rfl (fun l hl => by
    have g1 : ((Γ.set s .gone).set s (.c (lnD (l ++ [0]))))[s]? = some (.c (lnD (l ++ [0]))) := List.getElem?_set_self (by rw [List.length_set]; exact hs)
    have o1 : slotOk ((Γ.set s .gone).set s (.c (lnD (l ++ [0])))) s = true := by unfold slotOk; rw [g1]
    refine ⟨(Γ.set s .gone).set s (.c (lnD (l ++ [0]))), (Γ.set s .gone).set s (.c (lnD (l ++ [0]))), rfl, ?_, by simp only [wipe1, wipe0, List.set_set]⟩
    have c1 := cut_last l
    rw [List.set_set] at *
    generalize lnD (l ++ [0]) = d at *
    simp [o1, g1, c1]) (sz (by omega))
  exact this
theorem ev_last {F : Genv} {Γ : List Tr} {G : List (List Int)} {s u : Nat} (hs : s < Γ.length) (hu : s ≠ u) (he : Γ[u]? = some (.c (hD (pmH G)))) (hl : G.length ≤ 1000) :
    ev F (.lc [s] (.nm s) (.sq (.var u)) [] (.pth s [.prim .neg [.e (.lit (.int 1))]])) Γ = some (.ok (.l (G.map fun _ => .c (.int 0))) (Γ.set s .gone)) := by
  rw [pm_d] at he
  have := lc_map (F := F) (own := [s]) (tg := .nm s) (it := .sq (.var u)) (elt := .pth s [.prim .neg [.e (.lit (.int 1))]]) (c := fun l : List Int => lnD (l ++ [0])) (xs := G) (Γ := Γ) (Γ1 := Γ) (Γ0 := Γ.set s .gone) (fun l => .c (.int 0)) (by simp [he]) rfl (fun l hl => by
    have g1 : ((Γ.set s .gone).set s (.c (lnD (l ++ [0]))))[s]? = some (.c (lnD (l ++ [0]))) := List.getElem?_set_self (by rw [List.length_set]; exact hs)
    have o1 : slotOk ((Γ.set s .gone).set s (.c (lnD (l ++ [0])))) s = true := by unfold slotOk; rw [g1]
    refine ⟨(Γ.set s .gone).set s (.c (lnD (l ++ [0]))), (Γ.set s .gone).set s (.c (lnD (l ++ [0]))), rfl, ?_, by simp only [wipe1, wipe0, List.set_set]⟩
    have k1 : kidD (lnD (l ++ [0])) (-1) = some (.int 0) := by
      have : atI ((l ++ [0]).map iD) (-1) = some (.int 0) := by rw [atI_m1]; simp [iD]
      exact this
    rw [List.set_set] at *
    generalize lnD (l ++ [0]) = d at *
    simp [o1, g1, k1]) (sz (by omega))
  exact this
theorem mx_zero {α : Type} {xs : List α} (h : xs ≠ []) : mx (xs.map fun _ => (0 : Int)) = 0 := by
  cases xs with
  | nil => exact absurd rfl h
  | cons x xs =>
    have : ∀ xs : List α, (xs.map fun _ => (0 : Int)).foldl max 0 = 0 := by
      intro xs
      induction xs with
      | nil => rfl
      | cons y ys ih => simpa using ih
    exact this xs
def S_place_right (run : List Tr → Option FR) : Prop := ∀ N h rows, OkN N → N.n ≤ 7 → OkH 1000000000 N h → (∀ c ∈ rows, OkH 9 N c) → rows.length ≤ 100 → run [.c (netD N), .c (hD h), .c (rowsD rows)] = some (.ok (.c (.bool true)) [.gone, .gone, .gone])
theorem w_place_right {F : Genv} (h1 : Fn F "run" S_run) (h2 : Fn F "greatest" S_greatest) : S_place_right (r_law_b_place_right F) := by
  obtain ⟨r1, f1, q1⟩ := h1
  obtain ⟨r2, f2, q2⟩ := h2
  intro N h rows on n7 oh oc hl
  have ne4 := on.e4
  have ne1 := on.e1
  have oW := pm_okN on n7
  have oM := pm_okH on (by decide) oh
  have oC : ∀ c ∈ rows.map pmH, OkH 9 (pmN N) c := fun c hc => by
    obtain ⟨c0, h0, rfl⟩ := List.mem_map.mp hc
    exact pm_okH on (by decide) (oc c0 h0)
  have sc : ∀ c ∈ rows, Sh N c := fun c hc => (oc c hc).sh
  have e1 := q1 (pmN N) (pmH h) (rows.map pmH) oW oM oC (by simp; omega)
  rw [pm_runA on oh.sh sc] at e1
  have e2 := q1 N h rows on oh oc (by omega)
  have e3 := q2 (pmN N) 0 oW (by decide) (by decide)
  rw [pm_great on] at e3
  have e4 := q2 N 0 on (by decide) (by decide)
  have full := runs_nn on (oh.nn) (fun c hc => (oc c hc).nn)
  have lenS := runA_len (N := N) h rows
  have shS : ∀ G ∈ (runA N h rows).1, Sh N G := fun G hG => by
    rw [runA_eq] at hG
    rcases List.mem_cons.mp hG with rfl | hG
    · exact oh.sh
    · exact (full.2.1 G hG).sh
  generalize runA N h rows = S at *
  have k0 : kidD (netD N) 0 = some (.int (N.n : Nat)) := rfl
  have k1 : kidD (netD N) 1 = some (.tuple (N.ends.map nD)) := rfl
  have k2 : kidD (netD N) 2 = some (.tuple (N.ties.map tieD)) := rfl
  have dW : netD (pmN N) = .tuple [.int ((N.n : Int) + 1), .tuple (N.ends.map nD), .tuple (N.ties.map tieD)] := rfl
  have z3 : (3 : Nat) ≤ sizeLine := sz (by decide)
  have ok0 : ∀ x Γ, slotOk (.c x :: Γ) 0 = true := fun _ _ => rfl
  refine run_ret rfl (by decide) ?_
  refine Run.nx (Γ1 := [.c (netD N), .c (hD h), .c (rowsD rows), .c (netD (pmN N)), .gone, .gone, .gone, .gone, .gone, .gone, .gone, .gone, .gone, .gone]) (by simp [ok0, k0, k1, k2, z3, dW]) ?_
  generalize netD (pmN N) = W at *
  have tM : biEv .tuple [mpT lnD (pmH h)] = some (.c (hD (pmH h))) := tuple_m lnD _
  have p1 := ev_pm (F := F) (Γ := [.c (netD N), .c (hD h), .c (rowsD rows), .c W, .gone, .gone, .gone, .gone, .gone, .gone, .gone, .gone, .gone, .gone]) (h := h) (s := 13) (u := 1) (by simp) (by decide) rfl (by have := oh.len; omega) (fun l hl => by have := oh.sh.l l hl; omega)
  refine Run.nx (Γ1 := [.c (netD N), .c (hD h), .c (rowsD rows), .c W, .c (hD (pmH h)), .gone, .gone, .gone, .gone, .gone, .gone, .gone, .gone, .gone]) (by simp [p1, tM]) ?_
  have p2 : ev F (.lc [11] (.nm 11) (.sq (.var 2)) [] (.prim (.bi .tuple) [.e (.lc [13] (.nm 13) (.sq (.var 11)) [] (.prim .add [.pk 13, .e (.tup [.e (.lit (.int 0))])]))])) [.c (netD N), .c (hD h), .c (rowsD rows), .c W, .c (hD (pmH h)), .gone, .gone, .gone, .gone, .gone, .gone, .gone, .gone, .gone]
      = some (.ok (.l (rows.map fun c => .c (hD (pmH c)))) [.c (netD N), .c (hD h), .c (rowsD rows), .c W, .c (hD (pmH h)), .gone, .gone, .gone, .gone, .gone, .gone, .gone, .gone, .gone]) := by
    refine lc_map (c := hD) (Γ1 := [.c (netD N), .c (hD h), .c (rowsD rows), .c W, .c (hD (pmH h)), .gone, .gone, .gone, .gone, .gone, .gone, .gone, .gone, .gone]) _ (by simp [rowsD]) (by simp) (fun c hc => ?_) (sz (by omega))
    have p := ev_pm (F := F) (Γ := [.c (netD N), .c (hD h), .c (rowsD rows), .c W, .c (hD (pmH h)), .gone, .gone, .gone, .gone, .gone, .gone, .c (hD c), .gone, .gone]) (h := c) (s := 13) (u := 11) (by simp) (by decide) rfl (by have := (sc c hc).len; omega) (fun l hl => by have := (sc c hc).l l hl; omega)
    have tC : biEv .tuple [mpT lnD (pmH c)] = some (.c (hD (pmH c))) := tuple_m lnD _
    exact ⟨_, [.c (netD N), .c (hD h), .c (rowsD rows), .c W, .c (hD (pmH h)), .gone, .gone, .gone, .gone, .gone, .gone, .c (hD c), .gone, .gone], rfl, by simp [p, tC], by simp⟩
  have mp2 : (Tr.l (rows.map fun c => .c (hD (pmH c)))) = mpT hD (rows.map pmH) := by unfold mpT; rw [List.map_map]; rfl
  rw [mp2] at p2
  refine Run.nx (Γ1 := [.c (netD N), .c (hD h), .c (rowsD rows), .c W, .c (hD (pmH h)), mpT hD (rows.map pmH), .gone, .gone, .gone, .gone, .gone, .gone, .gone, .gone]) (by simp [p2]) ?_
  have ev5 := ev_varM (F := F) hD (rows.map pmH) (Γ := [.c (netD N), .c (hD h), .c (rowsD rows), .c W, .c (hD (pmH h)), mpT hD (rows.map pmH), .gone, .gone, .gone, .gone, .gone, .gone, .gone, .gone]) (i := 5) rfl
  have rD : ∀ xs, PyData.list (List.map hD xs) = rowsD xs := fun _ => rfl
  rw [rD] at ev5
  generalize mpT hD (rows.map pmH) = Z at *
  generalize rowsD (rows.map pmH) = C at *
  generalize hD (pmH h) = M at *
  refine Run.nx (Γ1 := [.c (netD N), .c (hD h), .c (rowsD rows), .c W, .c M, .c C, .gone, .c (rowsD (S.1.map pmH)), .c (lnD S.2), .gone, .gone, .gone, .gone, .gone]) (by simp [f1, ev5, e1]) ?_
  refine Run.nx (Γ1 := [.c (netD N), .c (hD h), .c (rowsD rows), .c W, .c M, .c C, .gone, .c (rowsD (S.1.map pmH)), .c (lnD S.2), .c (rowsD S.1), .c (lnD S.2), .gone, .gone, .gone]) (by simp [f1, e2]) ?_
  have dS : rowsD (S.1.map pmH) = .list (S.1.map fun G => hD (pmH G)) := by unfold rowsD; rw [List.map_map]; rfl
  rw [dS]
  have hit : ∀ Γ : List Tr, Γ[7]? = some (.c (.list (S.1.map fun G => hD (pmH G)))) → evIt F (.sq (.var 7)) Γ = some (.ok (S.1.map fun G => hD (pmH G)) Γ) := fun Γ h => by simp [h]
  have p3 : ev F (.lc [12] (.nm 12) (.sq (.var 7)) [] (.prim (.bi .tuple) [.e (.lc [13] (.nm 13) (.sq (.var 12)) [] (.prim (.sl false true) [.pk 13, .e (.prim .neg [.e (.lit (.int 1))])]))])) [.c (netD N), .c (hD h), .c (rowsD rows), .c W, .c M, .c C, .gone, .c (.list (S.1.map fun G => hD (pmH G))), .c (lnD S.2), .c (rowsD S.1), .c (lnD S.2), .gone, .gone, .gone]
      = some (.ok (.l (S.1.map fun G => .c (hD G))) [.c (netD N), .c (hD h), .c (rowsD rows), .c W, .c M, .c C, .gone, .c (.list (S.1.map fun G => hD (pmH G))), .c (lnD S.2), .c (rowsD S.1), .c (lnD S.2), .gone, .gone, .gone]) := by
    refine lc_map (c := fun G => hD (pmH G)) (Γ1 := [.c (netD N), .c (hD h), .c (rowsD rows), .c W, .c M, .c C, .gone, .c (.list (S.1.map fun G => hD (pmH G))), .c (lnD S.2), .c (rowsD S.1), .c (lnD S.2), .gone, .gone, .gone]) _ (hit _ rfl) (by simp) (fun G hG => ?_) (sz (by omega))
    have p := ev_cut (F := F) (Γ := [.c (netD N), .c (hD h), .c (rowsD rows), .c W, .c M, .c C, .gone, .c (.list (S.1.map fun G => hD (pmH G))), .c (lnD S.2), .c (rowsD S.1), .c (lnD S.2), .gone, .c (hD (pmH G)), .gone]) (G := G) (s := 13) (u := 12) (by simp) (by decide) rfl (by have := (shS G hG).len; omega)
    have tC : biEv .tuple [mpT lnD G] = some (.c (hD G)) := tuple_m lnD _
    exact ⟨_, [.c (netD N), .c (hD h), .c (rowsD rows), .c W, .c M, .c C, .gone, .c (.list (S.1.map fun G => hD (pmH G))), .c (lnD S.2), .c (rowsD S.1), .c (lnD S.2), .gone, .c (hD (pmH G)), .gone], rfl, by simp [p, tC], by simp⟩
  have p4 : ev F (.lc [12] (.nm 12) (.sq (.var 7)) [] (.prim (.bi .max1) [.e (.lc [13] (.nm 13) (.sq (.var 12)) [] (.pth 13 [.prim .neg [.e (.lit (.int 1))]]))])) [.c (netD N), .c (hD h), .c (rowsD rows), .c W, .c M, .c C, .gone, .c (.list (S.1.map fun G => hD (pmH G))), .c (lnD S.2), .c (rowsD S.1), .c (lnD S.2), .gone, .gone, .gone]
      = some (.ok (.l (S.1.map fun G => .c (.int 0))) [.c (netD N), .c (hD h), .c (rowsD rows), .c W, .c M, .c C, .gone, .c (.list (S.1.map fun G => hD (pmH G))), .c (lnD S.2), .c (rowsD S.1), .c (lnD S.2), .gone, .gone, .gone]) := by
    refine lc_map (c := fun G => hD (pmH G)) (Γ1 := [.c (netD N), .c (hD h), .c (rowsD rows), .c W, .c M, .c C, .gone, .c (.list (S.1.map fun G => hD (pmH G))), .c (lnD S.2), .c (rowsD S.1), .c (lnD S.2), .gone, .gone, .gone]) _ (hit _ rfl) (by simp) (fun G hG => ?_) (sz (by omega))
    have p := ev_last (F := F) (Γ := [.c (netD N), .c (hD h), .c (rowsD rows), .c W, .c M, .c C, .gone, .c (.list (S.1.map fun G => hD (pmH G))), .c (lnD S.2), .c (rowsD S.1), .c (lnD S.2), .gone, .c (hD (pmH G)), .gone]) (G := G) (s := 13) (u := 12) (by simp) (by decide) rfl (by have := (shS G hG).len; omega)
    have ng : G ≠ [] := fun z => by have := (shS G hG).len; rw [z] at this; simp at this; omega
    have m := max_l (fun _ : List Int => (0 : Int)) ng
    rw [mx_zero ng] at m
    exact ⟨_, [.c (netD N), .c (hD h), .c (rowsD rows), .c W, .c M, .c C, .gone, .c (.list (S.1.map fun G => hD (pmH G))), .c (lnD S.2), .c (rowsD S.1), .c (lnD S.2), .gone, .c (hD (pmH G)), .gone], rfl, by simp [p, m], by simp⟩
  have c1 : cmpEv .NotEq (.c (lnD S.2)) (.c (lnD S.2)) = some false := ne_same (see_c _) rfl (CD.ln _) (by decide) _ (see_c _)
  have c2 : cmpEv .NotEq (mpT hD S.1) (.c (rowsD S.1)) = some false := ne_same (d := rowsD S.1) (mpT_see hD _) rfl (CD.rows _) (by decide) _ (see_c _)
  have mp3 : (Tr.l (S.1.map fun G => .c (hD G))) = mpT hD S.1 := rfl
  rw [mp3] at p3
  generalize hB : PyData.list (S.1.map fun G => hD (pmH G)) = B at *
  have zS : S.1 ≠ [] := fun z => by rw [z] at lenS; simp at lenS
  have m2 := max_l (fun _ : List (List Int) => (0 : Int)) zS
  rw [mx_zero zS] at m2
  refine Run.skip (Γ1 := [.c (netD N), .c (hD h), .c (rowsD rows), .c W, .c M, .c C, .gone, .c B, .c (lnD S.2), .c (rowsD S.1), .c (lnD S.2), .gone, .gone, .gone]) (by simp [c1, p3, c2]) ?_
  refine Run.nx (Γ1 := [.c (netD N), .c (hD h), .c (rowsD rows), .c W, .c M, .c C, .l (S.1.map fun G => .c (.int 0)), .c B, .c (lnD S.2), .c (rowsD S.1), .c (lnD S.2), .gone, .gone, .gone]) (by simp [p4]) ?_
  generalize hY : (S.1.map fun G => Tr.c (.int 0)) = Y at *
  have ok6 : ∀ a0 a1 a2 a3 a4 a5 Γ, slotOk (a0 :: a1 :: a2 :: a3 :: a4 :: a5 :: .l Y :: Γ) 6 = true := fun _ _ _ _ _ _ _ => rfl
  exact Run.rt (t := .c (.bool true)) (Γ1 := [.c (netD N), .c (hD h), .c (rowsD rows), .c W, .c M, .c C, .l Y, .c B, .c (lnD S.2), .c (rowsD S.1), .c (lnD S.2), .gone, .gone, .gone]) (by simp [f2, e3, e4, ok6, m2]) ⟨_, rfl, rfl⟩
end Hp
set_option Elab.async false
set_option linter.all false
set_option maxRecDepth 100000
namespace Hp
open PySem PySem.Spec PyProof.Rows L2 Hw
def b_law_b_lifted_right_v2 : List CS :=
  [.set 3 (.lst []),
  .for_ (.tp [6, 7]) (.zip [.e (.var 1), .e (.pth 0 [.lit (.int 1)])])
    [.app 3 [] (.prim (.bi .tuple) [.e (.lc [9, 11] (.tp [11, 9]) (.enm (.var 6)) [] (.prim .add [.pk 9, .e (.prim .mul [.pk 2, .e (.prim (.bi .int) [.e (.prim (.cmp .NotEq) [.pk 11, .pk 7])])])]))])],
  .set 4 (.call ("offer" : Str) [.e (.var 0), .e (.var 1)]),
  .set 5 (.call ("offer" : Str) [.e (.var 0), .e (.prim (.bi .tuple) [.pk 3])]),
  .for_ (.tp [8, 9, 10]) (.zip3 [.e (.pth 0 [.lit (.int 2)]), .e (.var 4), .e (.var 5)])
    [.ite (.and_ (.e (.prim (.cmp .NotIn) [.e (.pth 8 [.lit (.int 0)]), .e (.pth 0 [.lit (.int 1)])])) (.and_ (.e (.prim (.cmp .NotIn) [.e (.pth 8 [.lit (.int 1)]), .e (.pth 0 [.lit (.int 1)])])) (.e (.prim (.cmp .NotEq) [.pk 9, .pk 10]))))
      [.ret (.lit (.bool false))]
      []],
  .ret (.lit (.bool true))]
def r_law_b_lifted_right_v2 (F : Genv) : List Tr → Option FR := runDef F 12 [false, false, false] b_law_b_lifted_right_v2
def b_law_b_whole : List CS :=
  [.ret (.and_ (.prim (.isi "int") [.pk 0]) (.not_ (.prim (.isi "bool") [.pk 0])))]
def r_law_b_whole (F : Genv) : List Tr → Option FR := runDef F 1 [false] b_law_b_whole
def b_law_b_are : List CS :=
  [.ite (.or_ (.not_ (.e (.prim (.isi "tuple") [.pk 1]))) (.e (.prim (.cmp .NotEq) [.e (.prim (.bi .len) [.pk 1]), .e (.prim (.bi .len) [.e (.pth 0 [.lit (.int 1)])])])))
    [.ret (.lit (.bool false))]
    [],
  .ret (.prim (.bi .all) [.e (.lc [2] (.nm 2) (.sq (.var 1)) [] (.and_ (.call ("_law_b_whole" : Str) [.e (.var 2)]) (.chain .LtE .LtE [.e (.lit (.int 1)), .pk 2] (.lit (.int 99)))))])]
def r_law_b_are (F : Genv) : List Tr → Option FR := runDef F 3 [false, false] b_law_b_are
def b_law_b_bent : List CS :=
  [.set 2 (.call ("_law_b_take" : Str) [.io 0, .e (.prim .pow [.e (.lit (.int 10)), .e (.lit (.int 20))])]),
  .set 3 (.call ("_law_b_take" : Str) [.io 0, .e (.prim (.bi .len) [.pk 1])]),
  .set 4 (.lst [.e (.var 1), .e (.stl (.prim (.bi .list) [.pk 1])), .e (.prim .add [.pk 1, .e (.tup [.e (.lit (.int 1))])]), .e (.prim (.sl true false) [.pk 1, .e (.lit (.int 1))]), .e (.prim .rev [.pk 1]), .e (.tup [.e (.var 1)]), .e (.lit .none), .e (.lit (.str ("" : Str))), .e (.lit (.str ("1" : Str))), .e (.lit (.int 0)), .e (.lit (.int 1)), .e (.emp), .e (.tup []), .e (.stl (.lst []))]),
  .for_ (.nm 5) (.sq (.lst [.e (.lit (.int 1)), .e (.lit (.int 99)), .e (.lit (.int 0)), .e (.lit (.int 100)), .e (.prim .add [.e (.lit (.int 100)), .pk 2]), .e (.prim .neg [.e (.lit (.int 1))]), .e (.prim .sub [.e (.prim .neg [.e (.lit (.int 100))]), .pk 2]), .e (.lit (.bool true)), .e (.lit (.bool false)), .e (.lit .none), .e (.lit (.str ("1" : Str))), .e (.tup [.e (.lit (.int 1))]), .e (.stl (.lst [.e (.lit (.int 1))])), .e (.emp), .e (.lit (.str ("" : Str)))]))
    [.set 4 (.prim .add [.pk 4, .e (.lst [.e (.prim .add [.e (.prim .add [.e (.prim (.sl false true) [.pk 1, .pk 3]), .e (.tup [.e (.var 5)])]), .e (.prim (.sl true false) [.pk 1, .e (.prim .add [.pk 3, .e (.lit (.int 1))])])]), .e (.prim .add [.e (.prim .add [.e (.prim (.sl false true) [.pk 1, .pk 3]), .e (.tup [.e (.var 5)])]), .e (.prim (.sl true false) [.pk 1, .pk 3])])])])],
  .ret (.mv 4)]
def r_law_b_bent (F : Genv) : List Tr → Option FR := runDef F 6 [true, false] b_law_b_bent
def b_are_comers : List CS :=
  [.ex (.call ("need_net" : Str) [.e (.var 0)]),
  .ret (.call ("are_lines" : Str) [.e (.var 0), .e (.var 1), .e (.glb ("MOST_COMING" : Str))])]
def r_are_comers (F : Genv) : List Tr → Option FR := runDef F 2 [false, false] b_are_comers
def b_law_b_are_v2 : List CS :=
  [.ite (.or_ (.not_ (.e (.prim (.isi "tuple") [.pk 1]))) (.e (.prim (.cmp .NotEq) [.e (.prim (.bi .len) [.pk 1]), .e (.prim (.bi .len) [.e (.pth 0 [.lit (.int 1)])])])))
    [.ret (.lit (.bool false))]
    [],
  .for_ (.tp [3, 4]) (.zip [.e (.pth 0 [.lit (.int 1)]), .e (.var 1)])
    [.ite (.or_ (.not_ (.e (.prim (.isi "tuple") [.pk 4]))) (.e (.prim (.cmp .NotEq) [.e (.prim (.bi .len) [.pk 4]), .e (.pth 0 [.lit (.int 0)])])))
      [.ret (.lit (.bool false))]
      [],
    .ite (.or_ (.not_ (.e (.prim (.bi .all) [.e (.lc [5] (.nm 5) (.sq (.var 4)) [] (.and_ (.call ("_law_b_whole" : Str) [.e (.var 5)]) (.chain .LtE .LtE [.e (.lit (.int 0)), .pk 5] (.var 2))))]))) (.e (.prim (.cmp .NotEq) [.e (.pth 4 [.var 3]), .e (.lit (.int 0))])))
      [.ret (.lit (.bool false))]
      []],
  .ret (.lit (.bool true))]
def r_law_b_are_v2 (F : Genv) : List Tr → Option FR := runDef F 6 [false, false, false] b_law_b_are_v2
def b_law_b_bent_lines : List CS :=
  [.set 4 (.call ("_law_b_take" : Str) [.io 0, .e (.prim .pow [.e (.lit (.int 10)), .e (.lit (.int 20))])]),
  .set 5 (.call ("_law_b_take" : Str) [.io 0, .e (.prim (.bi .len) [.pk 3])]),
  .set 6 (.pth 1 [.lit (.int 1), .var 2]),
  .set 7 (.lst [.e (.stl (.prim (.bi .list) [.pk 3])), .e (.lit .none), .e (.lit (.str ("" : Str))), .e (.lit (.int 0)), .e (.emp), .e (.tup []), .e (.prim (.sl true false) [.pk 3, .e (.lit (.int 1))]), .e (.prim .add [.pk 3, .e (.tup [.e (.lit (.int 0))])]), .e (.prim .rev [.pk 3]), .e (.tup [.e (.var 3)]), .e (.prim .mul [.e (.tup [.e (.lit (.int 0))]), .e (.prim (.bi .len) [.pk 3])])]),
  .set 8 (.lst [.e (.lit (.int 0)), .e (.lit (.int 1)), .e (.lit (.int 9)), .e (.lit (.int 10)), .e (.prim .pow [.e (.lit (.int 10)), .e (.lit (.int 9))]), .e (.prim .add [.e (.prim .pow [.e (.lit (.int 10)), .e (.lit (.int 9))]), .e (.lit (.int 1))]), .e (.prim .add [.e (.prim .add [.e (.prim .pow [.e (.lit (.int 10)), .e (.lit (.int 9))]), .e (.lit (.int 2))]), .pk 4]), .e (.prim .neg [.e (.lit (.int 1))]), .e (.prim .sub [.e (.prim .neg [.e (.lit (.int 100))]), .pk 4]), .e (.lit (.bool true)), .e (.lit (.bool false)), .e (.lit .none)]),
  .for_ (.nm 9) (.sq (.prim .add [.pk 8, .e (.lst [.e (.lit (.str ("1" : Str))), .e (.tup [.e (.lit (.int 0))]), .e (.stl (.lst [.e (.lit (.int 0))])), .e (.emp)])]))
    [.set 7 (.prim .add [.pk 7, .e (.lst [.e (.prim .add [.e (.prim .add [.e (.prim (.sl false true) [.pk 3, .pk 5]), .e (.tup [.e (.var 9)])]), .e (.prim (.sl true false) [.pk 3, .e (.prim .add [.pk 5, .e (.lit (.int 1))])])]), .e (.prim .add [.e (.prim .add [.e (.prim (.sl false true) [.pk 3, .pk 5]), .e (.tup [.e (.var 9)])]), .e (.prim (.sl true false) [.pk 3, .pk 5])])])]),
    .app 7 [] (.prim .add [.e (.prim .add [.e (.prim (.sl false true) [.pk 3, .pk 6]), .e (.tup [.e (.var 9)])]), .e (.prim (.sl true false) [.pk 3, .e (.prim .add [.pk 6, .e (.lit (.int 1))])])])],
  .ret (.mv 7)]
def r_law_b_bent_lines (F : Genv) : List Tr → Option FR := runDef F 10 [true, false, false, false] b_law_b_bent_lines
def b_law_b_bent_v2 : List CS :=
  [.set 3 (.call ("_law_b_take" : Str) [.io 0, .e (.prim (.bi .len) [.pk 2])]),
  .set 4 (.lst [.e (.var 2), .e (.stl (.prim (.bi .list) [.pk 2])), .e (.prim .add [.pk 2, .e (.prim (.sl false true) [.pk 2, .e (.lit (.int 1))])]), .e (.prim (.sl true false) [.pk 2, .e (.lit (.int 1))]), .e (.prim .rev [.pk 2]), .e (.tup [.e (.var 2)]), .e (.lit .none), .e (.lit (.str ("" : Str))), .e (.lit (.int 0)), .e (.lit (.bool true)), .e (.emp), .e (.tup [])]),
  .app 4 [] (.prim .add [.e (.prim .add [.e (.prim (.sl false true) [.pk 2, .pk 3]), .e (.prim .rev [.e (.sl2 (.var 2) (.var 3) (.prim .add [.pk 3, .e (.lit (.int 2))]))])]), .e (.prim (.sl true false) [.pk 2, .e (.prim .add [.pk 3, .e (.lit (.int 2))])])]),
  .set 4 (.prim .add [.pk 4, .e (.lst [.e (.pth 2 [.var 3]), .e (.var 1)])]),
  .for_ (.nm 5) (.sq (.call ("_law_b_bent_lines" : Str) [.io 0, .e (.var 1), .e (.var 3), .e (.pth 2 [.var 3])]))
    [.app 4 [] (.prim .add [.e (.prim .add [.e (.prim (.sl false true) [.pk 2, .pk 3]), .e (.tup [.e (.var 5)])]), .e (.prim (.sl true false) [.pk 2, .e (.prim .add [.pk 3, .e (.lit (.int 1))])])])],
  .ret (.mv 4)]
def r_law_b_bent_v2 (F : Genv) : List Tr → Option FR := runDef F 6 [true, false, false] b_law_b_bent_v2
def b_law_b_between : List CS :=
  [.ret (.and_ (.call ("_law_b_whole" : Str) [.e (.var 0)]) (.chain .LtE .LtE [.pk 1, .pk 0] (.var 2)))]
def r_law_b_between (F : Genv) : List Tr → Option FR := runDef F 3 [false, false, false] b_law_b_between
def b_law_b_is_tie : List CS :=
  [.ite (.or_ (.not_ (.e (.prim (.isi "tuple") [.pk 1]))) (.or_ (.e (.prim (.cmp .NotEq) [.e (.prim (.bi .len) [.pk 1]), .e (.lit (.int 3))])) (.not_ (.e (.call ("_law_b_between" : Str) [.e (.pth 1 [.lit (.int 2)]), .e (.lit (.int 1)), .e (.lit (.int 9))])))))
    [.ret (.lit (.bool false))]
    [],
  .ret (.and_ (.call ("_law_b_between" : Str) [.e (.pth 1 [.lit (.int 0)]), .e (.lit (.int 0)), .e (.prim .sub [.pk 0, .e (.lit (.int 1))])]) (.and_ (.call ("_law_b_between" : Str) [.e (.pth 1 [.lit (.int 1)]), .e (.lit (.int 0)), .e (.prim .sub [.pk 0, .e (.lit (.int 1))])]) (.prim (.cmp .NotEq) [.e (.pth 1 [.lit (.int 0)]), .e (.pth 1 [.lit (.int 1)])])))]
def r_law_b_is_tie (F : Genv) : List Tr → Option FR := runDef F 2 [false, false] b_law_b_is_tie
def b_law_b_odds : List CS :=
  [.set 1 (.call ("_law_b_take" : Str) [.io 0, .e (.prim .pow [.e (.lit (.int 10)), .e (.lit (.int 20))])]),
  .ret (.lst [.e (.prim .add [.e (.lit (.int 100)), .pk 1]), .e (.prim .sub [.e (.prim .neg [.e (.lit (.int 100))]), .pk 1]), .e (.prim .neg [.e (.lit (.int 1))]), .e (.lit (.int 0)), .e (.lit (.int 1)), .e (.lit (.int 7)), .e (.lit (.int 8)), .e (.lit (.int 9)), .e (.lit (.int 10)), .e (.lit (.bool true)), .e (.lit (.bool false)), .e (.lit .none), .e (.lit (.str ("1" : Str))), .e (.tup [.e (.lit (.int 1))]), .e (.stl (.lst [.e (.lit (.int 1))])), .e (.emp), .e (.lit (.str ("" : Str))), .e (.tup [])])]
def r_law_b_odds (F : Genv) : List Tr → Option FR := runDef F 2 [true] b_law_b_odds
def b_law_b_bent_ties : List CS :=
  [.set 3 (.call ("_law_b_take" : Str) [.io 0, .e (.prim .add [.e (.prim (.bi .len) [.pk 2]), .e (.lit (.int 1))])]),
  .set 4 (.lst [.e (.stl (.prim (.bi .list) [.pk 2])), .e (.lit .none), .e (.lit (.str ("" : Str))), .e (.emp), .e (.lit (.int 0)), .e (.prim .add [.e (.prim (.sl false true) [.pk 2, .pk 3]), .e (.prim (.sl true false) [.pk 2, .e (.prim .add [.pk 3, .e (.lit (.int 1))])])])]),
  .app 4 [] (.prim .add [.e (.prim .add [.e (.prim (.sl false true) [.pk 2, .pk 3]), .e (.prim .rev [.e (.sl2 (.var 2) (.var 3) (.prim .add [.pk 3, .e (.lit (.int 2))]))])]), .e (.prim (.sl true false) [.pk 2, .e (.prim .add [.pk 3, .e (.lit (.int 2))])])]),
  .set 4 (.prim .add [.pk 4, .e (.lst [.e (.prim .add [.e (.prim .add [.e (.prim (.sl false true) [.pk 2, .pk 3]), .e (.sl2 (.var 2) (.var 3) (.prim .add [.pk 3, .e (.lit (.int 1))]))]), .e (.prim (.sl true false) [.pk 2, .pk 3])]), .e (.prim .rev [.pk 2]), .e (.tup [.e (.var 2)]), .e (.prim .add [.pk 2, .e (.tup [.e (.tup [.e (.lit (.int 0)), .e (.lit (.int 1)), .e (.lit (.int 1))])])])])]),
  .set 5 (.prim .ix [.e (.prim .add [.pk 2, .e (.tup [.e (.tup [.e (.lit (.int 0)), .e (.prim .sub [.pk 1, .e (.lit (.int 1))]), .e (.lit (.int 3))])])]), .pk 3]),
  .set 6 (.lst [.e (.prim .rev [.pk 5]), .e (.prim (.sl false true) [.pk 5, .e (.lit (.int 2))]), .e (.prim .add [.pk 5, .e (.tup [.e (.lit (.int 1))])]), .e (.stl (.prim (.bi .list) [.pk 5])), .e (.tup [.e (.pth 5 [.lit (.int 1)]), .e (.pth 5 [.lit (.int 0)]), .e (.pth 5 [.lit (.int 2)])]), .e (.tup [.e (.pth 5 [.lit (.int 0)]), .e (.pth 5 [.lit (.int 0)]), .e (.lit (.int 1))]), .e (.lit .none), .e (.lit (.int 0)), .e (.lit (.str ("" : Str))), .e (.tup [])]),
  .set 6 (.prim .add [.pk 6, .e (.lst [.e (.tup [.e (.pth 5 [.lit (.int 0)]), .e (.pth 5 [.lit (.int 1)]), .e (.prim .add [.e (.prim .mod [.e (.pth 5 [.lit (.int 2)]), .e (.lit (.int 9))]), .e (.lit (.int 1))])]), .e (.tup [.e (.pth 5 [.lit (.int 0)]), .e (.var 1), .e (.lit (.int 1))]), .e (.tup [.e (.var 1), .e (.pth 5 [.lit (.int 1)]), .e (.lit (.int 1))]), .e (.tup [.e (.var 5)])])]),
  .for_ (.nm 7) (.sq (.call ("_law_b_odds" : Str) [.io 0]))
    [.set 6 (.prim .add [.pk 6, .e (.lc [9] (.nm 9) (.rng1 (.lit (.int 3))) [] (.prim .add [.e (.prim .add [.e (.prim (.sl false true) [.pk 5, .pk 9]), .e (.tup [.e (.var 7)])]), .e (.prim (.sl true false) [.pk 5, .e (.prim .add [.pk 9, .e (.lit (.int 1))])])]))])],
  .for_ (.nm 8) (.sq (.var 6))
    [.set 4 (.prim .add [.pk 4, .e (.lst [.e (.prim .add [.e (.prim .add [.e (.prim (.sl false true) [.pk 2, .pk 3]), .e (.tup [.e (.var 8)])]), .e (.prim (.sl true false) [.pk 2, .e (.prim .add [.pk 3, .e (.lit (.int 1))])])]), .e (.prim .add [.e (.prim .add [.e (.prim (.sl false true) [.pk 2, .pk 3]), .e (.tup [.e (.var 8)])]), .e (.prim (.sl true false) [.pk 2, .pk 3])])])])],
  .ret (.mv 4)]
def r_law_b_bent_ties (F : Genv) : List Tr → Option FR := runDef F 10 [true, false, false] b_law_b_bent_ties
def b_law_b_bent_v3 : List CS :=
  [.setT [5, 6, 7] (.var 1),
  .set 2 (.call ("_law_b_take" : Str) [.io 0, .e (.prim (.bi .len) [.pk 6])]),
  .set 3 (.lst [.e (.var 1), .e (.stl (.prim (.bi .list) [.pk 1])), .e (.tup [.e (.var 5), .e (.var 6)]), .e (.tup [.e (.var 5), .e (.var 6), .e (.var 7), .e (.tup [])]), .e (.tup [.e (.var 6), .e (.var 5), .e (.var 7)]), .e (.tup [.e (.var 5), .e (.var 7), .e (.var 6)]), .e (.var 5), .e (.var 6), .e (.var 7), .e (.lit .none), .e (.lit (.str ("" : Str)))]),
  .set 3 (.prim .add [.pk 3, .e (.lst [.e (.emp), .e (.tup []), .e (.lit (.str ("net" : Str))), .e (.stl (.tup [.e (.var 5), .e (.prim (.bi .list) [.pk 6]), .e (.var 7)])), .e (.tup [.e (.var 5), .e (.tup []), .e (.var 7)]), .e (.tup [.e (.var 5), .e (.prim .add [.pk 6, .e (.prim .mul [.e (.tup [.e (.lit (.int 0))]), .e (.lit (.int 4))])]), .e (.var 7)])])]),
  .app 3 [] (.tup [.e (.var 5), .e (.prim (.sl true false) [.pk 6, .e (.lit (.int 1))]), .e (.var 7)]),
  .set 3 (.prim .add [.pk 3, .e (.lst [.e (.tup [.e (.var 5), .e (.prim .add [.pk 6, .e (.prim (.sl false true) [.pk 6, .e (.lit (.int 1))])]), .e (.var 7)]), .e (.tup [.e (.var 5), .e (.lit .none), .e (.var 7)]), .e (.tup [.e (.var 5), .e (.lit (.str ("" : Str))), .e (.var 7)]), .e (.tup [.e (.var 5), .e (.pth 6 [.lit (.int 0)]), .e (.var 7)])])]),
  .for_ (.nm 4) (.sq (.prim .add [.e (.call ("_law_b_odds" : Str) [.io 0]), .e (.lst [.e (.var 5), .e (.prim .sub [.pk 5, .e (.lit (.int 1))]), .e (.prim .add [.pk 5, .e (.lit (.int 1))])])]))
    [.set 3 (.prim .add [.pk 3, .e (.lst [.e (.tup [.e (.var 4), .e (.var 6), .e (.var 7)]), .e (.tup [.e (.var 5), .e (.prim .add [.e (.prim .add [.e (.prim (.sl false true) [.pk 6, .pk 2]), .e (.tup [.e (.var 4)])]), .e (.prim (.sl true false) [.pk 6, .e (.prim .add [.pk 2, .e (.lit (.int 1))])])]), .e (.var 7)])])])],
  .ret (.prim .add [.pk 3, .e (.lc [8] (.nm 8) (.sq (.call ("_law_b_bent_ties" : Str) [.io 0, .e (.var 5), .e (.var 7)])) [] (.tup [.e (.var 5), .e (.var 6), .e (.var 8)]))])]
def r_law_b_bent_v3 (F : Genv) : List Tr → Option FR := runDef F 9 [true, false] b_law_b_bent_v3
def b_law_b_alone_right : List CS :=
  [.set 4 (.tup [.e (.pth 0 [.lit (.int 0)]), .e (.sl2 (.pth 0 [.lit (.int 1)]) (.var 3) (.prim .add [.pk 3, .e (.lit (.int 1))])), .e (.pth 0 [.lit (.int 2)])]),
  .setT [8, 9] (.call ("beat" : Str) [.e (.var 4), .e (.sl2 (.var 1) (.var 3) (.prim .add [.pk 3, .e (.lit (.int 1))])), .e (.sl2 (.var 2) (.var 3) (.prim .add [.pk 3, .e (.lit (.int 1))]))]),
  .set 5 (.call ("bare" : Str) [.e (.var 0)]),
  .set 6 (.prim .add [.e (.prim .add [.e (.prim (.sl false true) [.pk 5, .pk 3]), .e (.sl2 (.var 1) (.var 3) (.prim .add [.pk 3, .e (.lit (.int 1))]))]), .e (.prim (.sl true false) [.pk 5, .e (.prim .add [.pk 3, .e (.lit (.int 1))])])]),
  .set 7 (.prim .add [.e (.prim .add [.e (.prim (.sl false true) [.pk 5, .pk 3]), .e (.sl2 (.var 2) (.var 3) (.prim .add [.pk 3, .e (.lit (.int 1))]))]), .e (.prim (.sl true false) [.pk 5, .e (.prim .add [.pk 3, .e (.lit (.int 1))])])]),
  .setT [10, 11] (.call ("beat" : Str) [.e (.var 0), .e (.var 6), .e (.var 7)]),
  .ret (.and_ (.prim (.cmp .Eq) [.e (.pth 10 [.var 3]), .e (.pth 8 [.lit (.int 0)])]) (.and_ (.prim (.cmp .Eq) [.e (.pth 11 [.var 3]), .e (.pth 9 [.lit (.int 0)])]) (.prim (.cmp .Eq) [.e (.prim (.bi .sum) [.pk 11]), .e (.pth 9 [.lit (.int 0)])])))]
def r_law_b_alone_right (F : Genv) : List Tr → Option FR := runDef F 12 [false, false, false, false] b_law_b_alone_right
end Hp
set_option Elab.async false
set_option linter.all false
set_option maxRecDepth 100000
set_option maxHeartbeats 400000
namespace Hp
open PySem PySem.Spec PyProof.Rows L2 Hw
theorem it_zip3 {F : Genv} {a b c : CE} {Γ Γ1 Γ2 Γ3 : List Tr} {ta tb tc : Tr} {da db dc : PyData} {xs ys zs : List PyData} (h1 : ev F a Γ = some (.ok ta Γ1)) (h2 : ev F b Γ1 = some (.ok tb Γ2)) (h3 : ev F c Γ2 = some (.ok tc Γ3)) (fa : frz ta = some da) (fb : frz tb = some db) (fc : frz tc = some dc) (sa : seqD da = some xs) (sb : seqD db = some ys) (sc : seqD dc = some zs) :
    evIt F (.zip3 [.e a, .e b, .e c]) Γ = some (.ok ((xs.zip (ys.zip zs)).map fun p => .tuple [p.1, p.2.1, p.2.2]) Γ3) := by
  simp [h1, h2, h3, fa, fb, fc, sa, sb, sc]
theorem zip3_is {α β γ : Type} (f : α → PyData) (g : β → PyData) (h : γ → PyData) (xs : List α) (ys : List β) (zs : List γ) : ((xs.map f).zip ((ys.map g).zip (zs.map h))).map (fun p => PyData.tuple [p.1, p.2.1, p.2.2]) = (xs.zip (ys.zip zs)).map fun p => .tuple [f p.1, g p.2.1, h p.2.2] := by
  rw [List.zip_map (f := g) (g := h), List.zip_map, List.map_map]; rfl
theorem it_enmI {F : Genv} {a : CE} {Γ Γ1 : List Tr} {l : List Int} (h : ev F a Γ = some (.ok (.c (lnD l)) Γ1)) : evIt F (.enm a) Γ = some (.ok (l.zipIdx.map fun p => .tuple [.int (p.2 : Nat), iD p.1]) Γ1) := by
  have e : ((l.map iD).zipIdx.map fun p => PyData.tuple [.int (p.2 : Nat), p.1]) = l.zipIdx.map fun p => .tuple [.int (p.2 : Nat), iD p.1] := by
    rw [List.zipIdx_map, List.map_map]; rfl
  rw [← e]; simp [h, lnD]
theorem notin_nats (k : Nat) (st : List Nat) : cmpEv .NotIn (.c (.int k)) (.c (.tuple (st.map nD))) = some (!decide (k ∈ st)) := by
  have : cmpEv .NotIn (.c (.int k)) (.c (.tuple (st.map nD))) = (cmpEv .In (.c (.int k)) (.c (.tuple (st.map nD)))).map (!·) := rfl
  rw [this, in_nats]; rfl
def S_lifted (run : List Tr → Option FR) : Prop := ∀ N h (m : Nat), OkN N → OkH 1000000000 N h → (∀ l ∈ h, ∀ x ∈ l, x ≤ 100000000) → m ≤ 1000 → run [.c (netD N), .c (hD h), .c (.int (m : Nat))] = some (.ok (.c (.bool true)) [.gone, .gone, .gone])
theorem w_lifted {F : Genv} (h1 : Fn F "offer" S_offer) : S_lifted (r_law_b_lifted_right_v2 F) := by
  obtain ⟨r1, f1, q1⟩ := h1
  intro N h m on oh hb hm
  have ne4 := on.e4
  have hl := oh.len
  have l64 := on.tlen
  have oL := lift_ok (m := (m : Int)) oh hb (by omega) (by omega)
  have e1 := q1 N h on oh
  have e2 := q1 N _ on oL
  have k1 : kidD (netD N) 1 = some (.tuple (N.ends.map nD)) := rfl
  have k2 : kidD (netD N) 2 = some (.tuple (N.ties.map tieD)) := rfl
  have ok0 : ∀ x Γ, slotOk (.c x :: Γ) 0 = true := fun _ _ => rfl
  have same := fun t (ot : OkT N.n t) hi hj => lift_offer (m := (m : Int)) oh.sh ot hi hj
  refine run_ret rfl (by decide) ?_
  refine Run.nx (Γ1 := [.c (netD N), .c (hD h), .c (.int m), .l [], .gone, .gone, .gone, .gone, .gone, .gone, .gone, .gone]) (by simp) ?_
  refine Run.forM (c := fun p : List Int × Nat => .tuple [lnD p.1, nD p.2]) (xs := h.zip N.ends) (Γ1 := [.c (netD N), .c (hD h), .c (.int m), .l [], .gone, .gone, .gone, .gone, .gone, .gone, .gone, .gone])
    (fun i Γ => ∃ j6 j7 j9 j11, Γ = [.c (netD N), .c (hD h), .c (.int m), mpT lnD (((h.zip N.ends).take i).map fun p => liftL m p.2 p.1), .gone, .gone, j6, j7, .gone, j9, .gone, j11]) ?_ ⟨_, _, _, _, rfl⟩ ?_ ?_
  · rw [← zip_is]
    exact it_zip (ta := .c (hD h)) (tb := .c (.tuple (N.ends.map nD))) (Γ1 := [.c (netD N), .c (hD h), .c (.int m), .l [], .gone, .gone, .gone, .gone, .gone, .gone, .gone, .gone]) (by simp) (by simp [ok0, k1]) rfl rfl rfl rfl
  · rintro i ⟨l, e⟩ Γ hi ⟨j6, j7, j9, j11, rfl⟩
    have hm' := List.of_mem_zip (List.mem_of_getElem? hi)
    have hil := (List.getElem?_eq_some_iff.mp hi).1
    rw [List.length_zip] at hil
    have ll := oh.sh.l l hm'.1
    have n8 := on.n8
    have ts := take_map (f := fun p : List Int × Nat => liftL m p.2 p.1) hi
    have lenA : (((h.zip N.ends).take i).map fun p => liftL (m : Int) p.2 p.1).length ≤ 100 := by simp; omega
    generalize (((h.zip N.ends).take i).map fun p => liftL (m : Int) p.2 p.1) = A at *
    have zA : A.length < sizeLine := Nat.lt_of_le_of_lt lenA (by decide)
    refine ⟨[.c (netD N), .c (hD h), .c (.int m), mpT lnD A, .gone, .gone, .c (lnD l), .c (nD e), .gone, j9, .gone, j11], by simp, ?_⟩
    have hlc : ev F (.lc [9, 11] (.tp [11, 9]) (.enm (.var 6)) [] (.prim .add [.pk 9, .e (.prim .mul [.pk 2, .e (.prim (.bi .int) [.e (.prim (.cmp .NotEq) [.pk 11, .pk 7])])])])) [.c (netD N), .c (hD h), .c (.int m), mpT lnD A, .gone, .gone, .c (lnD l), .c (nD e), .gone, j9, .gone, j11]
        = some (.ok (.l (l.zipIdx.map fun q => .c (.int (q.1 + m * (if q.2 = e then 0 else 1))))) [.c (netD N), .c (hD h), .c (.int m), mpT lnD A, .gone, .gone, .c (lnD l), .c (nD e), .gone, .gone, .gone, .gone]) := by
      refine lc_map (c := fun q : Int × Nat => .tuple [.int (q.2 : Nat), iD q.1]) (Γ1 := [.c (netD N), .c (hD h), .c (.int m), mpT lnD A, .gone, .gone, .c (lnD l), .c (nD e), .gone, j9, .gone, j11]) _ (it_enmI (by simp)) (by simp) (fun q hq => ?_) (sz (by simp; omega))
      refine ⟨[.c (netD N), .c (hD h), .c (.int m), mpT lnD A, .gone, .gone, .c (lnD l), .c (nD e), .gone, .c (iD q.1), .gone, .c (.int (q.2 : Nat))], [.c (netD N), .c (hD h), .c (.int m), mpT lnD A, .gone, .gone, .c (lnD l), .c (nD e), .gone, .c (iD q.1), .gone, .c (.int (q.2 : Nat))], by simp, ?_, by simp⟩
      have mm := mul_sm (i := (m : Int)) (j := if q.2 = e then 0 else 1) (sm64 (by omega)) (sm64 (by split <;> simp))
      have bi : biEv .int [.c (.bool (!decide (q.2 = e)))] = some (.c (.int (if q.2 = e then 0 else 1))) := by
        rw [int_cb]; by_cases z : q.2 = e <;> simp [z]
      generalize mpT lnD A = Z at *
      simp [nD, iD, bi, mm]
    have mp : (Tr.l (l.zipIdx.map fun q => .c (.int (q.1 + (m : Int) * (if q.2 = e then 0 else 1))))) = mpT iD (liftL m e l) := by unfold mpT liftL; rw [List.map_map]; rfl
    rw [mp] at hlc
    have tL : biEv .tuple [mpT iD (liftL m e l)] = some (.c (lnD (liftL m e l))) := tuple_m iD _
    refine Run.nx (Γ1 := [.c (netD N), .c (hD h), .c (.int m), mpT lnD (A ++ [liftL m e l]), .gone, .gone, .c (lnD l), .c (nD e), .gone, .gone, .gone, .gone]) ?_ (Run.nil ⟨_, _, _, _, by rw [ts]⟩)
    generalize liftL (m : Int) e l = Y at *
    simp only [mpT] at hlc tL ⊢
    simp [hlc, tL, zA]
  · rintro Γ ⟨j6, j7, j9, j11, rfl⟩
    rw [List.take_length]
    have eL : ((h.zip N.ends).map fun p => liftL (m : Int) p.2 p.1) = liftH m N.ends h := rfl
    rw [eL]
    generalize liftH (m : Int) N.ends h = L at *
    have tL : biEv .tuple [mpT lnD L] = some (.c (hD L)) := tuple_m lnD L
    refine Run.nx (Γ1 := [.c (netD N), .c (hD h), .c (.int m), mpT lnD L, mpT kD (N.ties.map (offerA h)), .gone, j6, j7, .gone, j9, .gone, j11]) (by simp [f1, e1]) ?_
    have okL : ∀ a0 a1 a2 Γ, slotOk (a0 :: a1 :: a2 :: mpT lnD L :: Γ) 3 = true := fun _ _ _ _ => rfl
    generalize hZ : mpT lnD L = Z at *
    refine Run.nx (Γ1 := [.c (netD N), .c (hD h), .c (.int m), Z, mpT kD (N.ties.map (offerA h)), mpT kD (N.ties.map (offerA L)), j6, j7, .gone, j9, .gone, j11]) (by simp [f1, okL, tL, e2]) ?_
    have ev4 := ev_varM (F := F) kD (N.ties.map (offerA h)) (Γ := [.c (netD N), .c (hD h), .c (.int m), Z, mpT kD (N.ties.map (offerA h)), mpT kD (N.ties.map (offerA L)), j6, j7, .gone, j9, .gone, j11]) (i := 4) rfl
    have ev5 := ev_varM (F := F) kD (N.ties.map (offerA L)) (Γ := [.c (netD N), .c (hD h), .c (.int m), Z, .c (.list ((N.ties.map (offerA h)).map kD)), mpT kD (N.ties.map (offerA L)), j6, j7, .gone, j9, .gone, j11]) (i := 5) rfl
    generalize hos : N.ties.map (offerA h) = os at *
    generalize hos2 : N.ties.map (offerA L) = os2 at *
    refine Run.forM (c := fun p : Tie × Option Nat × Option Nat => .tuple [tieD p.1, kD p.2.1, kD p.2.2]) (xs := N.ties.zip (os.zip os2)) (Γ1 := [.c (netD N), .c (hD h), .c (.int m), Z, .c (.list (os.map kD)), .c (.list (os2.map kD)), j6, j7, .gone, j9, .gone, j11])
      (fun _ Γ => ∃ j8 j9 j10, Γ = [.c (netD N), .c (hD h), .c (.int m), Z, .c (.list (os.map kD)), .c (.list (os2.map kD)), j6, j7, j8, j9, j10, j11]) ?_ ⟨_, _, _, rfl⟩ ?_ ?_
    · rw [← zip3_is]
      exact it_zip3 (ta := .c (.tuple (N.ties.map tieD))) (tb := .c (.list (os.map kD))) (tc := .c (.list (os2.map kD))) (by simp [ok0, k2]) ev4 ev5 (frz_c _) (frz_c _) (frz_c _) rfl rfl rfl
    · rintro i ⟨t, o1, o2⟩ Γ hi ⟨j8, j9, j10, rfl⟩
      obtain ⟨g1, g2⟩ := List.getElem?_zip_eq_some.mp hi
      obtain ⟨g3, g4⟩ := List.getElem?_zip_eq_some.mp g2
      have g1 : N.ties[i]? = some t := g1
      have g3 : os[i]? = some o1 := g3
      have g4 : os2[i]? = some o2 := g4
      rw [← hos, List.getElem?_map, g1] at g3
      rw [← hos2, List.getElem?_map, g1] at g4
      have a3 : o1 = offerA h t := by simpa using g3.symm
      have a4 : o2 = offerA L t := by simpa using g4.symm
      subst a3
      subst a4
      have ot := on.t t (List.mem_of_getElem? g1)
      refine ⟨[.c (netD N), .c (hD h), .c (.int m), Z, .c (.list (os.map kD)), .c (.list (os2.map kD)), j6, j7, .c (tieD t), .c (kD (offerA h t)), .c (kD (offerA L t)), j11], by simp, ?_⟩
      refine Run.skip (Γ1 := [.c (netD N), .c (hD h), .c (.int m), Z, .c (.list (os.map kD)), .c (.list (os2.map kD)), j6, j7, .c (tieD t), .c (kD (offerA h t)), .c (kD (offerA L t)), j11]) ?_ (Run.nil ⟨_, _, _, rfl⟩)
      have ok8 : ∀ a0 a1 a2 a3 a4 a5 a6 a7 x Γ, slotOk (a0 :: a1 :: a2 :: a3 :: a4 :: a5 :: a6 :: a7 :: .c x :: Γ) 8 = true := fun _ _ _ _ _ _ _ _ _ _ => rfl
      have ok9 : ∀ a0 a1 a2 a3 a4 a5 a6 a7 a8 x Γ, slotOk (a0 :: a1 :: a2 :: a3 :: a4 :: a5 :: a6 :: a7 :: a8 :: .c x :: Γ) 9 = true := fun _ _ _ _ _ _ _ _ _ _ _ => rfl
      have ok10 : ∀ a0 a1 a2 a3 a4 a5 a6 a7 a8 a9 x Γ, slotOk (a0 :: a1 :: a2 :: a3 :: a4 :: a5 :: a6 :: a7 :: a8 :: a9 :: .c x :: Γ) 10 = true := fun _ _ _ _ _ _ _ _ _ _ _ _ => rfl
      have t0 : kidD (tieD t) 0 = some (.int (t.i : Nat)) := rfl
      have t1 : kidD (tieD t) 1 = some (.int (t.j : Nat)) := rfl
      have n0 := notin_nats t.i N.ends
      have n1 := notin_nats t.j N.ends
      by_cases hi' : t.i ∈ N.ends
      · simp [ok8, ok0, k1, t0, n0, hi']
      · by_cases hj' : t.j ∈ N.ends
        · simp [ok8, ok0, k1, t0, t1, n0, n1, hi', hj']
        · have e := same t ot hi' hj'
          have c1 : cmpEv .NotEq (.c (kD (offerA h t))) (.c (kD (offerA L t))) = some false := by
            rw [e]
            exact ne_same (k := 0) (see_c _) (by cases offerA h t <;> rfl) (by cases offerA h t with | none => exact CD.none | some k => exact CD.int _) (by decide) _ (see_c _)
          simp [ok8, ok9, ok10, ok0, k1, t0, t1, n0, n1, hi', hj', c1]
    · rintro Γ ⟨j8, j9, j10, rfl⟩
      exact Run.rt (t := .c (.bool true)) (Γ1 := [.c (netD N), .c (hD h), .c (.int m), Z, .c (.list (os.map kD)), .c (.list (os2.map kD)), j6, j7, j8, j9, j10, j11]) (by simp) ⟨_, rfl, rfl⟩
end Hp
set_option Elab.async false
set_option linter.all false
set_option maxRecDepth 100000
set_option maxHeartbeats 400000
namespace Hp
open PySem PySem.Spec PyProof.Rows L2 Hw
theorem len_mp {α : Type} (c : α → PyData) (xs : List α) : biEv .len [mpT c xs] = some (.c (.int (xs.length : Nat))) := by
  have : biEv .len [mpT c xs] = some (iT ((xs.map c).length : Nat)) := by
    unfold mpT
    simp only [biEv]
    rw [asSeq_l (stl_map c xs)]
  rw [this, List.length_map]; rfl
/-- comers drawn for each of a number of turns; the tape is slot 1, the net slot u -/
theorem ev_draw {F : Genv} {ns : List Int} {s u cnt M : Nat} {N : Net} {cn : CE} {h : Tr} {t1 : Tr} {Γ : List Tr} (on : OkN N) {run : List Tr → Option FR} (hf : F.fn "_law_b_comers" = some run) (hq : S_heaps 9 ns run) (hs : s < (h :: t1 :: Γ).length) (s2 : 2 ≤ s) (u2 : 2 ≤ u) (hsu : s ≠ u)
    (hcn : ∃ t2, ev F cn (h :: t1 :: Γ) = some (.ok (.c (.int (cnt : Nat))) (h :: t2 :: Γ)) ∧ Tp ns M t2) (hc : cnt ≤ 1000) (hM : M + cnt * 60 + 3000 < 2 ^ 39) (hu : (h :: t1 :: Γ)[u]? = some (.c (netD N))) :
    ∃ t' rows, ev F (.lc [s] (.nm s) (.rng1 cn) [] (.call ("_law_b_comers" : Str) [.io 1, .e (.var u)])) (h :: t1 :: Γ) = some (.ok (mpT hD rows) ((h :: t' :: Γ).set s .gone)) ∧ Tp ns (M + cnt * 60) t' ∧ rows.length = cnt ∧ ∀ c ∈ rows, OkH 9 N c := by
  obtain ⟨t2, e2, ht2⟩ := hcn
  obtain ⟨s', rfl⟩ : ∃ s', s = s' + 2 := ⟨s - 2, by omega⟩
  obtain ⟨u', rfl⟩ : ∃ u', u = u' + 2 := ⟨u - 2, by omega⟩
  have hu : Γ[u']? = some (.c (netD N)) := by simpa using hu
  have hs : s' < Γ.length := by simpa using hs
  obtain ⟨Γl, rl, el, t', rows, rfl, ht', rfl, lr, orr⟩ := lc_inv (F := F) (own := [s' + 2]) (tg := .nm (s' + 2)) (it := .rng1 cn) (elt := .call ("_law_b_comers" : Str) [.io 1, .e (.var (u' + 2))]) (cond := [])
    (Γ := h :: t1 :: Γ) (Γ1 := h :: t2 :: Γ) (ds := (List.range cnt).map nD)
    (fun i G acc => ∃ t' rows, G = h :: t' :: Γ.set s' .gone ∧ Tp ns (M + i * 60) t' ∧ acc = (rows : List (List (List Int))).map (fun c => .c (hD c)) ∧ rows.length = i ∧ ∀ c ∈ rows, OkH 9 N c)
    (it_rng e2 (by omega)) ⟨t2, [], rfl, ht2.mono (by omega), rfl, rfl, fun _ z => by cases z⟩
    (by
      rintro i d G acc hd ⟨t', rows, rfl, ht', rfl, lr, orr⟩
      have hi' := (List.getElem?_eq_some_iff.mp hd).1
      rw [List.length_map, List.length_range] at hi'
      have hle : i * 60 ≤ cnt * 60 := Nat.mul_le_mul_right 60 (by omega)
      obtain ⟨c, t4, e4, oc, ht4⟩ := hq _ t' N ht' (by omega) on
      refine ⟨h :: t' :: Γ.set s' (.c d), by simp [bindTg], .inl ⟨h :: t' :: Γ.set s' (.c d), h :: t4 :: Γ.set s' (.c d), .c (hD c), by rw [evC], ?_, t4, rows ++ [c], by simp [wipe1, wipe0], ht4.mono (by omega), by simp, by simp [lr], fun x hx => ?_⟩⟩
      · have g : (Γ.set s' (.c d))[u']? = some (.c (netD N)) := by rw [List.getElem?_set_ne (by omega)]; exact hu
        have s1 : ∀ b0 Γ, slotOk (b0 :: t' :: Γ) 1 = true := fun b0 Γ => by obtain ⟨a, c, rfl, _⟩ := ht'; rfl
        simp [hf, s1, g, e4]
      · rcases List.mem_append.mp hx with hx | hx
        · exact orr x hx
        · simp at hx; subst hx; exact oc) (sz (by simp; omega))
  rw [List.length_map, List.length_range] at ht' lr
  exact ⟨t', rows, by simpa [mpT] using el, ht', lr, orr⟩
end Hp
set_option Elab.async false
set_option linter.all false
set_option maxRecDepth 100000
set_option maxHeartbeats 400000
/-! data that are shown: without dicts (b), or without lists and with bare dicts only -/
namespace Hp
open PySem PySem.Spec PyProof.Rows L2 Hw
structure RD (b : Bool) (k s : Nat) (d : PyData) : Prop where
  ok : (if b then noDict d else noLst d) = true
  sh : PyData.showable d = true
  dp : PyData.depth d ≤ k
  sz : szD d ≤ s
theorem nl_all : ∀ {ds : List PyData}, (∀ d ∈ ds, noLst d = true) → noLst.noLstL ds = true
  | [], _ => rfl
  | d :: ds, h => by unfold noLst.noLstL; rw [h d List.mem_cons_self, nl_all fun x hx => h x (List.mem_cons_of_mem _ hx)]; rfl
theorem RD.mono {b : Bool} {k s k' s' : Nat} {d : PyData} (h : RD b k s d) (l : k ≤ k') (m : s ≤ s') : RD b k' s' d := ⟨h.ok, h.sh, Nat.le_trans h.dp l, Nat.le_trans h.sz m⟩
theorem RD.plainR {b : Bool} {k s : Nat} {d : PyData} (h : RD b k s d) (l : k ≤ 60) (m : s ≤ 16777216) : plainR d = true := by
  unfold Hw.plainR
  have := h.dp
  have := h.sz
  have := h.ok
  have e : sizeLine = 16777216 := sizeLine_eq
  simp only [Bool.and_eq_true, Bool.or_eq_true, decide_eq_true_eq]
  refine ⟨⟨⟨?_, h.sh⟩, by omega⟩, by omega⟩
  cases b
  · exact .inr this
  · exact .inl this
theorem RD.of {b : Bool} {k s : Nat} {d : PyData} (h : PD k s d) (n : noLst d = true) : RD b k s d := ⟨by cases b; exact n; exact h.nd, h.sh, h.dp, h.sz⟩
theorem RD.ofT {k s : Nat} {d : PyData} (h : PD k s d) : RD true k s d := ⟨h.nd, h.sh, h.dp, h.sz⟩
theorem RD.int {b : Bool} {i : Int} (h : i.natAbs < 2 ^ 1000) : RD b 0 1010 (.int i) := RD.of (PD.big h) rfl
theorem RD.none {b : Bool} : RD b 0 1010 .none := RD.of (PD.none.mono (Nat.le_refl _) (by decide)) rfl
theorem RD.bool {b : Bool} (x : Bool) : RD b 0 1010 (.bool x) := RD.of ((PD.bool x).mono (Nat.le_refl _) (by decide)) rfl
theorem RD.emp : RD false 1 1010 (.dict []) := ⟨rfl, by simp [PyData.showable, PyData.showableKv], by simp [PyData.depth, PyData.depthKv], by simp [szD]⟩
theorem RD.tuple {b : Bool} {k s n : Nat} {ds : List PyData} (h : ∀ d ∈ ds, RD b k s d) (l : ds.length ≤ n) : RD b (k + 1) (3 + n * (s + 2)) (.tuple ds) := by
  refine ⟨?_, ?_, ?_, ?_⟩
  · cases b
    · show noLst (.tuple ds) = true
      unfold noLst; exact nl_all fun d hd => (h d hd).ok
    · show noDict (.tuple ds) = true
      unfold noDict; exact nd_all fun d hd => (h d hd).ok
  · simp only [PyData.showable]; exact sh_all fun d hd => (h d hd).sh
  · simp only [PyData.depth]; have := dp_all fun d hd => (h d hd).dp; omega
  · simp only [szD]
    have := sz_all fun d hd => (h d hd).sz
    have := Nat.mul_le_mul_right (s + 2) l
    omega
theorem RD.list {k s n : Nat} {ds : List PyData} (h : ∀ d ∈ ds, RD true k s d) (l : ds.length ≤ n) : RD true (k + 1) (3 + n * (s + 2)) (.list ds) := by
  refine ⟨?_, ?_, ?_, ?_⟩
  · show noDict (.list ds) = true
    unfold noDict; exact nd_all fun d hd => (h d hd).ok
  · simp only [PyData.showable]; exact sh_all fun d hd => (h d hd).sh
  · simp only [PyData.depth]; have := dp_all fun d hd => (h d hd).dp; omega
  · simp only [szD]
    have := sz_all fun d hd => (h d hd).sz
    have := Nat.mul_le_mul_right (s + 2) l
    omega
theorem RD.str {b : Bool} {x : Str} (h : (reprText x).length ≤ 1010) : RD b 0 1010 (.str x) := ⟨by cases b <;> rfl, rfl, Nat.le_refl _, h⟩
/-- something shown, of either kind -/
def SD (k s : Nat) (d : PyData) : Prop := ∃ b, RD b k s d
theorem SD.plainR {k s : Nat} {d : PyData} (h : SD k s d) (l : k ≤ 60) (m : s ≤ 16777216) : plainR d = true := let ⟨_, h⟩ := h; h.plainR l m
theorem SD.mono {k s k' s' : Nat} {d : PyData} (h : SD k s d) (l : k ≤ k') (m : s ≤ s') : SD k' s' d := let ⟨b, h⟩ := h; ⟨b, h.mono l m⟩
/-- items that are shown in either way, one odd one among them -/
theorem SD.around {k s n : Nat} {xs ys : List PyData} {d : PyData} (hx : ∀ b, ∀ x ∈ xs, RD b k s x) (hy : ∀ b, ∀ x ∈ ys, RD b k s x) (h : SD k s d) (l : xs.length + 1 + ys.length ≤ n) : SD (k + 1) (3 + n * (s + 2)) (.tuple (xs ++ [d] ++ ys)) := by
  obtain ⟨b, h⟩ := h
  refine ⟨b, RD.tuple (fun x hm => ?_) (by simp; omega)⟩
  rcases List.mem_append.mp hm with hm | hm
  · rcases List.mem_append.mp hm with hm | hm
    · exact hx b x hm
    · simp at hm; subst hm; exact h
  · exact hy b x hm
/-! ### operations on tuples -/
theorem sl_toT {xs : List PyData} {a : Nat} (h : a ≤ xs.length) : slEv (.c (.tuple xs)) none (some (a : Int)) = some (.c (.tuple (xs.take a))) := by
  have e : asList (.c (.tuple xs)) = none := rfl
  unfold slEv
  rw [e]
  simp only [asTup_c, cut_to h]
theorem sl_fromT {xs : List PyData} {a : Nat} (h : a ≤ xs.length) : slEv (.c (.tuple xs)) (some (a : Int)) none = some (.c (.tuple (xs.drop a))) := by
  have e : asList (.c (.tuple xs)) = none := rfl
  unfold slEv
  rw [e]
  simp only [asTup_c, cut_from h]
theorem sl_from1T {xs : List PyData} {a : Nat} (h : a + 1 ≤ xs.length) : slEv (.c (.tuple xs)) (some ((a : Int) + 1)) none = some (.c (.tuple (xs.drop (a + 1)))) := sl_fromT (a := a + 1) h
theorem add_l {xs ys : List PyData} (l : xs.length + ys.length ≤ 100000) : addEv (.l (xs.map .c)) (.l (ys.map .c)) = some (.l ((xs ++ ys).map .c)) := by
  have z : xs.length + ys.length ≤ sizeLine := sz (by omega)
  have e1 : asInt (.l (xs.map .c)) = none := rfl
  simp only [addEv, e1, asList_l, stl_c]
  rw [if_pos z]; rfl
theorem list_t (ds : List PyData) : biEv .list [.c (.tuple ds)] = some (.l (ds.map .c)) := rfl
theorem pw20 : int2 (fun i j => if 0 ≤ j ∧ j ≤ 1000000 ∧ i.natAbs < 2 ^ 64 then some (i ^ j.toNat) else none) (.c (.int 10)) (.c (.int 20)) = some (.c (.int 100000000000000000000)) := rfl
theorem lg20 : (100000000000000000000 : Int).natAbs.log2 < 9000 := Nat.lt_trans (lg_lt (k := 70) (by decide) (by decide)) (by decide)
end Hp
set_option Elab.async false
set_option linter.all false
set_option maxRecDepth 100000
set_option maxHeartbeats 400000
/-! worths -/
namespace Hp
open PySem PySem.Spec PyProof.Rows L2 Hw
/-! ### the least of the greatest, for any values -/
def betB (v : Nat → Int) (best : Option Nat) (k : Nat) : Bool := decide (0 < v k) && (match best with
  | none => true
  | some b => decide (v b < v k))
def bestS (v : Nat → Int) (best : Option Nat) (k : Nat) : Option Nat := if betB v best k = true then some k else best
def bestV (v : Nat → Int) (n : Nat) : Option Nat := (List.range n).foldl (bestS v) none
def BestIs (v : Nat → Int) (n : Nat) : Option Nat → Prop
  | none => ∀ k, k < n → v k ≤ 0
  | some b => b < n ∧ 0 < v b ∧ (∀ k, k < n → v k ≤ v b) ∧ ∀ k, k < b → v k < v b
theorem BestIs.uniq {v : Nat → Int} {n : Nat} {o o' : Option Nat} (a : BestIs v n o) (b : BestIs v n o') : o = o' := by
  cases o with
  | none =>
    cases o' with
    | none => rfl
    | some c => have := a c b.1; have := b.2.1; omega
  | some d =>
    cases o' with
    | none => have := b d a.1; have := a.2.1; omega
    | some c =>
      obtain ⟨a1, a2, a3, a4⟩ := a
      obtain ⟨b1, b2, b3, b4⟩ := b
      rcases Nat.lt_trichotomy d c with z | z | z
      · have := b4 d z; have := a3 c b1; omega
      · rw [z]
      · have := a4 c z; have := b3 d a1; omega
theorem best_is (v : Nat → Int) : ∀ n, BestIs v n (bestV v n)
  | 0 => fun k hk => absurd hk (Nat.not_lt_zero _)
  | n + 1 => by
    have ih := best_is v n
    unfold bestV at ih ⊢
    rw [List.range_succ, List.foldl_append]
    show BestIs v (n + 1) (bestS v _ n)
    generalize (List.range n).foldl (bestS v) none = o at ih
    unfold bestS betB
    cases o with
    | none =>
      by_cases z : 0 < v n
      · simp only [z, decide_true, Bool.true_and, if_true]
        refine ⟨Nat.lt_succ_self n, z, fun k hk => ?_, fun k hk => ?_⟩
        · by_cases e : k = n
          · subst e; exact Int.le_refl _
          · have := ih k (by omega); omega
        · have := ih k hk; omega
      · simp only [z, decide_false, Bool.false_and]
        intro k hk
        by_cases e : k = n
        · subst e; omega
        · exact ih k (by omega)
    | some b =>
      obtain ⟨b1, b2, b3, b4⟩ := ih
      by_cases z : 0 < v n ∧ v b < v n
      · simp only [z.1, z.2, decide_true, Bool.true_and, if_true]
        refine ⟨Nat.lt_succ_self n, z.1, fun k hk => ?_, fun k hk => ?_⟩
        · by_cases e : k = n
          · subst e; exact Int.le_refl _
          · have := b3 k (by omega); have := z.2; omega
        · have := b3 k hk; have := z.2; omega
      · have : (decide (0 < v n) && decide (v b < v n)) = false := by
          rw [← Bool.decide_and]; exact decide_eq_false z
        simp only [this]
        refine ⟨by omega, b2, fun k hk => ?_, b4⟩
        by_cases e : k = n
        · subst e; omega
        · exact b3 k (by omega)
/-- the index of the greatest of a list that is told by v -/
theorem best_idx {v : Nat → Int} {fs : List Int} {n : Nat} (hn : 0 < n) (hl : fs.length = n) (hv : ∀ k, k < n → fs[k]? = some (v k)) : ∃ m j, biEv .max1 [mpT iD fs] = some (.c (.int m)) ∧ (fs.map iD).findIdx? (fun z => PyData.eqv z (.int m)) = some j ∧ bestV v n = if 0 < m then some j else none := by
  obtain ⟨m, hm1, hm2, hm3⟩ : ∃ m, biEv .max1 [mpT iD fs] = some (.c (.int m)) ∧ (∀ y ∈ fs, y ≤ m) ∧ m ∈ fs := by
    cases q : fs with
    | nil => rw [q] at hl; simp at hl; omega
    | cons x xs =>
      obtain ⟨a1, a2, a3⟩ := max_spec xs x
      refine ⟨xs.foldl max x, ?_, fun y hy => ?_, ?_⟩
      · have := intsOf_map (fun x : Int => x) (x :: xs)
        simp only [biEv, mpT_stl]
        have e : (x :: xs).map iD = (x :: xs).map fun x => PyData.int x := rfl
        rw [e, this]
        simp
      · rcases List.mem_cons.mp hy with rfl | hy
        · exact a1
        · exact a2 y hy
      · rcases a3 with a3 | a3
        · rw [a3]; exact List.mem_cons_self
        · exact List.mem_cons_of_mem _ a3
  obtain ⟨j, hj1, hj2, hj3⟩ := idx_spec hm3
  have jl : j < n := by have := (List.getElem?_eq_some_iff.mp hj2).1; omega
  have ej := hv j jl
  rw [ej] at hj2
  have hj2 : v j = m := by simpa using hj2
  refine ⟨m, j, hm1, hj1, (best_is v n).uniq ?_⟩
  split
  · rename_i z
    refine ⟨jl, by omega, fun k hk => ?_, fun k hk => ?_⟩
    · have := hm2 _ (List.mem_of_getElem? (hv k hk)); omega
    · have g := hv k (by omega)
      have := hm2 _ (List.mem_of_getElem? g)
      have := hj3 k hk
      rw [g] at this
      have : v k ≠ m := fun z => this (by rw [z])
      omega
  · intro k hk
    have := hm2 _ (List.mem_of_getElem? (hv k hk)); omega
/-! ### worths -/
structure OkW (N : Net) (ws : List Int) : Prop where
  len : ws.length = N.ends.length
  b : ∀ w ∈ ws, 1 ≤ w ∧ w ≤ 99
def WorthsP (N : Net) (d : PyData) : Prop := ∃ ws, d = lnD ws ∧ OkW N ws
def wt (ws : List Int) (k : Nat) : Int := (ws[k]?).getD 0
theorem OkW.get {N : Net} {ws : List Int} (o : OkW N ws) {k : Nat} (hk : k < N.ends.length) : ws[k]? = some (wt ws k) ∧ 1 ≤ wt ws k ∧ wt ws k ≤ 99 := by
  have hl : k < ws.length := by rw [o.len]; exact hk
  have h : ws[k]? = some ws[k] := List.getElem?_eq_getElem hl
  have e : wt ws k = ws[k] := by unfold wt; rw [h]; rfl
  rw [e]
  exact ⟨h, o.b _ (List.mem_of_getElem? h)⟩
theorem nums_of {lo high : Int} : ∀ {ds : List PyData}, (ds.all fun d => isNum d lo high) = true → ∃ l : List Int, ds = l.map iD ∧ ∀ x ∈ l, lo ≤ x ∧ x ≤ high
  | [], _ => ⟨[], rfl, fun _ h => nomatch h⟩
  | d :: ds, h => by
    rw [List.all_cons, Bool.and_eq_true] at h
    obtain ⟨i, rfl, i0, i1⟩ := isNum_iff.mp h.1
    obtain ⟨l, rfl, hl⟩ := nums_of h.2
    exact ⟨i :: l, rfl, fun x m => by
      rcases List.mem_cons.mp m with rfl | m
      · exact ⟨i0, i1⟩
      · exact hl x m⟩
/-- are_worths: of a net and anything; of no net NoNet -/
def S_are_worths (run : List Tr → Option FR) : Prop := (∀ N d, OkN N → run [.c (netD N), .c d] = some (.ok (.c (.bool (tr (WorthsP N d)))) [.gone, .gone])) ∧ ∀ d e, szN d → ¬ NetP d → run [.c d, .c e] = some (.ex "NoNet")
theorem w_are_worths {F : Genv} (h1 : Fn F "need_net" S_need_net) (h2 : Fn F "is_number" S_is_number) (g : F.gl "MOST_WORTH" = some (.int 99)) : S_are_worths (r_are_worths F) := by
  obtain ⟨r1, f1, q1⟩ := h1
  obtain ⟨r2, f2, q2⟩ := h2
  refine ⟨fun N d o => run_ret rfl (by decide) ?_, fun d e hz np => ?_⟩
  · refine Run.nx (Γ1 := [.c (netD N), .c d, .gone]) (by simp [f1, q1.1 N o]) ?_
    have no : tr (WorthsP N d) = false → ∀ ss, Run F [.ret (.lit (.bool false))] [.c (netD N), .c d, .gone] (Aft F ss (fun r => ∃ Γ, r = .rt (.c (.bool (tr (WorthsP N d)))) Γ ∧ outsOf [false, false] Γ = [.gone, .gone])) := fun h ss =>
      Run.rt (t := .c (.bool false)) (Γ1 := [.c (netD N), .c d, .gone]) (by simp) ⟨_, by rw [h], rfl⟩
    by_cases hT : isTup d = true
    · obtain ⟨ds, rfl⟩ := isTup_iff.mp hT
      by_cases hl : ds.length = N.ends.length
      · refine Run.skip (Γ1 := [.c (netD N), .c (.tuple ds), .gone]) (by simp [netD, hl]) ?_
        have hlc : ev F (.lc [2] (.nm 2) (.sq (.var 1)) [] (.call ("is_number" : Str) [.e (.var 2), .e (.lit (.int 1)), .e (.glb ("MOST_WORTH" : Str))])) [.c (netD N), .c (.tuple ds), .gone]
            = some (.ok (.l (ds.map fun d => .c (.bool (isNum d 1 99)))) [.c (netD N), .c (.tuple ds), .gone]) := by
          refine lc_map (c := id) (Γ1 := [.c (netD N), .c (.tuple ds), .gone]) _ (by simp) (by simp) (fun x hx => ?_) (sz (by have := o.e4; omega))
          exact ⟨_, [.c (netD N), .c (.tuple ds), .c x], rfl, by simp [f2, q2 _ _ _, g], by simp⟩
        have : tr (WorthsP N (.tuple ds)) = ds.all fun d => isNum d 1 99 := tr_eq ⟨fun h => by
          obtain ⟨l, rfl, hb⟩ := nums_of h
          exact ⟨l, rfl, by simpa using hl, hb⟩, fun ⟨ws, e, ow⟩ => by
          simp only [lnD, PyData.tuple.injEq] at e
          subst e
          rw [List.all_eq_true]
          intro x hx
          obtain ⟨w, hw, rfl⟩ := List.mem_map.mp hx
          have := ow.b w hw
          simp [iD, this]⟩
        exact Run.rt (t := .c (.bool (ds.all fun d => isNum d 1 99))) (Γ1 := [.c (netD N), .c (.tuple ds), .gone]) (by simp [hlc, all_m]) ⟨_, by rw [this], rfl⟩
      · refine Run.iteT (Γ1 := [.c (netD N), .c (.tuple ds), .gone]) (by simp [netD, hl]) (no (tr_f fun ⟨ws, e, ow⟩ => ?_) _)
        simp only [lnD, PyData.tuple.injEq] at e
        subst e
        have := ow.len
        simp at hl; omega
    · exact Run.iteT (Γ1 := [.c (netD N), .c d, .gone]) (by simp [hT]) (no (tr_f fun ⟨ws, e, ow⟩ => by subst e; simp [lnD] at hT) _)
  · have q := q1.2 d hz np
    obtain ⟨r, e', h⟩ := run_of (F := F) (n := 3) (ps := [false, false]) (body := b_are_worths) (ts := [.c d, .c e]) (Q := fun r => r = .ex "NoNet") rfl (by decide) (Run.ex (x := "NoNet") (Γ1 := [.c d, .c e, .gone]) (by simp [f1, q, lost]) rfl)
    rw [h] at e'
    exact e'
def S_need_worths (run : List Tr → Option FR) : Prop := (∀ N ws, OkN N → OkW N ws → run [.c (netD N), .c (lnD ws)] = some (.ok (.c .none) [.gone, .gone])) ∧ (∀ N d, OkN N → ¬ WorthsP N d → run [.c (netD N), .c d] = some (.ex "NoWorths")) ∧ ∀ d e, szN d → ¬ NetP d → run [.c d, .c e] = some (.ex "NoNet")
theorem w_need_worths {F : Genv} (h1 : Fn F "are_worths" S_are_worths) : S_need_worths (r_need_worths F) := by
  obtain ⟨r1, f1, q1⟩ := h1
  refine ⟨fun N ws o ow => run_none rfl (by decide) ?_, fun N d o np => ?_, fun d e hz np => ?_⟩
  · have q := q1.1 N (lnD ws) o
    rw [tr_t ⟨ws, rfl, ow⟩] at q
    exact Run.skip (Γ1 := [.c (netD N), .c (lnD ws)]) (by simp [f1, q]) (Run.nil ⟨_, rfl, rfl⟩)
  · have q := q1.1 N d o
    rw [tr_f np] at q
    obtain ⟨r, e', h⟩ := run_of (F := F) (n := 2) (ps := [false, false]) (body := b_need_worths) (ts := [.c (netD N), .c d]) (Q := fun r => r = .ex "NoWorths") rfl (by decide) (Run.iteT (Γ1 := [.c (netD N), .c d]) (by simp [f1, q]) (Run.ex (x := "NoWorths") (Γ1 := [.c (netD N), .c d]) (by simp) rfl))
    rw [h] at e'
    exact e'
  · have q := q1.2 d e hz np
    have : exS F (.ite (.not_ (.e (.call ("are_worths" : Str) [.e (.var 0), .e (.var 1)]))) [.rais ("NoWorths" : Str)] []) [.c d, .c e] = some (.ex "NoNet" [.c d, .c e]) := by
      have : evT F (.not_ (.e (.call ("are_worths" : Str) [.e (.var 0), .e (.var 1)]))) [.c d, .c e] = some (.ex "NoNet" [.c d, .c e]) := by
        simp [f1, q, lost, teT, notT]
      simp only [exS, this]
    obtain ⟨r, e', h⟩ := run_of (F := F) (n := 2) (ps := [false, false]) (body := b_need_worths) (ts := [.c d, .c e]) (Q := fun r => r = .ex "NoNet") rfl (by decide) (Run.ex (x := "NoNet") (Γ1 := [.c d, .c e]) this rfl)
    rw [h] at e'
    exact e'
def vW (ws : List Int) (h : List (List Int)) (t : Tie) (k : Nat) : Int := wt ws k * fallA h k t
def worthyA (ws : List Int) (h : List (List Int)) (t : Tie) : Option Nat := bestV (vW ws h t) h.length
/-- heaps whose falls are small -/
structure Sf (N : Net) (h : List (List Int)) : Prop extends Sh N h where
  b : ∀ l ∈ h, ∀ x ∈ l, x.natAbs < 2 ^ 62
def S_worthy_along (run : List Tr → Option FR) : Prop := ∀ N ws h t, OkN N → OkW N ws → Sf N h → OkT N.n t → run [.c (lnD ws), .c (hD h), .c (tieD t)] = some (.ok (.c (kD (worthyA ws h t))) [.gone, .gone, .gone])
theorem w_worthy_along {F : Genv} (h1 : Fn F "fall_along" S_fall_along) : S_worthy_along (r_worthy_along F) := by
  obtain ⟨rf, ff, hf⟩ := h1
  intro N ws h t o ow s ot
  refine run_ret rfl (by decide) ?_
  refine Run.nx (Γ1 := [.c (lnD ws), .c (hD h), .c (tieD t), .c .none, .gone, .gone]) (by simp) ?_
  have l4 := o.e4
  have hl := s.len
  refine Run.forM (c := nD) (xs := List.range h.length) (Γ1 := [.c (lnD ws), .c (hD h), .c (tieD t), .c .none, .gone, .gone])
    (fun i Γ => ∃ b j1 j2, Γ = [.c (lnD ws), .c (hD h), .c (tieD t), .c (kD b), j1, j2] ∧ b = ((List.range h.length).take i).foldl (bestS (vW ws h t)) none ∧ ∀ k, b = some k → k < N.ends.length) (it_rng (by simp [hD]) (by omega)) ⟨none, _, _, rfl, rfl, fun _ z => nomatch z⟩ ?_ ?_
  · rintro i k Γ hi ⟨b, j1, j2, rfl, eb, hb⟩
    have hk : k < N.ends.length := by have := List.mem_range.mp (List.mem_of_getElem? hi); omega
    have mk : ∀ k, k < N.ends.length → (lnD ws = .tuple (ws.map iD)) ∧ ws[k]? = some (wt ws k) ∧ mulEv (.c (.int (wt ws k))) (.c (.int (fallA h k t))) = some (.c (.int (vW ws h t k))) := fun k hk => by
      have g := ow.get hk
      exact ⟨rfl, g.1, mul_sm (sm64 (by omega)) (sm64 (sm_fall s.toSh s.b hk ot))⟩
    obtain ⟨m0, m1, m2⟩ := mk k hk
    refine ⟨[.c (lnD ws), .c (hD h), .c (tieD t), .c (kD b), .c (nD k), j2], by simp, ?_⟩
    refine Run.nx (Γ1 := [.c (lnD ws), .c (hD h), .c (tieD t), .c (kD b), .c (nD k), .c (.int (vW ws h t k))]) (by simp [nD, m0, m1, iD, ff, hf N h k t s.toSh hk ot, m2]) ?_
    refine Run.ite (k := betB (vW ws h t) b k) (Γ1 := [.c (lnD ws), .c (hD h), .c (tieD t), .c (kD b), .c (nD k), .c (.int (vW ws h t k))]) ?_ (fun z => ?_) (fun z => ?_)
    · cases b with
      | none => by_cases q : 0 < vW ws h t k <;> simp [q, betB]
      | some b =>
        obtain ⟨n0, n1, n2⟩ := mk b (hb b rfl)
        by_cases q : 0 < vW ws h t k <;> simp [q, n0, n1, iD, ff, hf N h b t s.toSh (hb b rfl) ot, n2, betB]
    · refine Run.nx (Γ1 := [.c (lnD ws), .c (hD h), .c (tieD t), .c (nD k), .c (nD k), .c (.int (vW ws h t k))]) (by simp) (Run.nil (Run.nil ⟨some k, _, _, rfl, ?_, fun _ e => by cases e; exact hk⟩))
      rw [take_snoc hi, List.foldl_append, ← eb]
      show some k = bestS (vW ws h t) b k
      unfold bestS
      rw [if_pos z]
    · refine Run.nil (Run.nil ⟨b, _, _, rfl, ?_, hb⟩)
      rw [take_snoc hi, List.foldl_append, ← eb]
      show b = bestS (vW ws h t) b k
      unfold bestS
      rw [if_neg (by rw [z]; exact Bool.false_ne_true)]
  · rintro Γ ⟨b, j1, j2, rfl, eb, hb⟩
    rw [List.take_length] at eb
    have : b = worthyA ws h t := eb
    subst this
    exact Run.rt (t := .c (kD (worthyA ws h t))) (Γ1 := [.c (lnD ws), .c (hD h), .c (tieD t), .gone, j1, j2]) (by simp) ⟨_, rfl, rfl⟩
def S_offer_worthy (run : List Tr → Option FR) : Prop := ∀ N ws h, OkN N → OkW N ws → Sf N h → run [.c (netD N), .c (lnD ws), .c (hD h)] = some (.ok (mpT kD (N.ties.map (worthyA ws h))) [.gone, .gone, .gone])
theorem w_offer_worthy {F : Genv} (h1 : Fn F "worthy_along" S_worthy_along) : S_offer_worthy (r_offer_worthy F) := by
  obtain ⟨r1, f1, q1⟩ := h1
  intro N ws h o ow s
  have hlc : ev F (.lc [3] (.nm 3) (.sq (.pth 0 [.lit (.int 2)])) [] (.call ("worthy_along" : Str) [.e (.var 1), .e (.var 2), .e (.var 3)])) [.c (netD N), .c (lnD ws), .c (hD h), .gone]
      = some (.ok (.l (N.ties.map fun t => .c (kD (worthyA ws h t)))) [.c (netD N), .c (lnD ws), .c (hD h), .gone]) := by
    refine lc_map (c := tieD) (Γ1 := [.c (netD N), .c (lnD ws), .c (hD h), .gone]) _ (by simp [netD]) (by simp) (fun t ht => ?_) (sz (by have := o.tlen; omega))
    exact ⟨_, [.c (netD N), .c (lnD ws), .c (hD h), .c (tieD t)], rfl, by simp [f1, q1 N ws h t o ow s (o.t t ht)], by simp⟩
  have fin : exS F (.ret (.lc [3] (.nm 3) (.sq (.pth 0 [.lit (.int 2)])) [] (.call ("worthy_along" : Str) [.e (.var 1), .e (.var 2), .e (.var 3)]))) [.c (netD N), .c (lnD ws), .c (hD h), .gone] = some (.rt (.l (N.ties.map fun t => .c (kD (worthyA ws h t)))) [.c (netD N), .c (lnD ws), .c (hD h), .gone]) := by
    simp [hlc]
  exact run_ret rfl (by decide) (Run.rt (t := mpT kD (N.ties.map (worthyA ws h))) (Γ1 := [.c (netD N), .c (lnD ws), .c (hD h), .gone]) (Eq.trans fin (by simp [mpT])) ⟨_, rfl, rfl⟩)
theorem OkH.sf {high : Int} {N : Net} {h : List (List Int)} (o : OkH high N h) (hh : high ≤ 1000000000) : Sf N h := ⟨o.sh, o.b62 hh⟩
def S_offer_by (run : List Tr → Option FR) : Prop := ∀ N ws h, OkN N → OkW N ws → OkH 1000000000 N h → run [.c (netD N), .c (lnD ws), .c (hD h)] = some (.ok (mpT kD (N.ties.map (worthyA ws h))) [.gone, .gone, .gone])
theorem w_offer_by {F : Genv} (h1 : Fn F "need_worths" S_need_worths) (h2 : Fn F "need_heaps" (S_need_lines 1000000000 "NoHeaps")) (h3 : Fn F "offer_worthy" S_offer_worthy) : S_offer_by (r_offer_by F) := by
  obtain ⟨r1, f1, q1⟩ := h1
  obtain ⟨r2, f2, q2⟩ := h2
  obtain ⟨r3, f3, q3⟩ := h3
  intro N ws h o ow oh
  refine run_ret rfl (by decide) ?_
  refine Run.nx (Γ1 := [.c (netD N), .c (lnD ws), .c (hD h)]) (by simp [f1, q1.1 N ws o ow]) ?_
  refine Run.nx (Γ1 := [.c (netD N), .c (lnD ws), .c (hD h)]) (by simp [f2, q2.1 N h o oh]) ?_
  have e := q3 N ws h o ow (oh.sf (by decide))
  generalize N.ties.map (worthyA ws h) = os at *
  exact Run.rt (t := mpT kD os) (Γ1 := [.c (netD N), .c (lnD ws), .c (hD h)]) (by simp [f3, e]) ⟨_, rfl, rfl⟩
def sqW (p : Int × List Int) : Int := p.1 * sqL p.2
def sqByA (ws : List Int) (h : List (List Int)) : Int := ((ws.zip h).map sqW).sum
theorem sqL_b {l : List Int} {b : Int} (h0 : 0 ≤ b) (hb : ∀ x ∈ l, 0 ≤ x ∧ x ≤ b) {n : Nat} (hl : l.length ≤ n) : 0 ≤ sqL l ∧ sqL l ≤ b * b * n := by
  have := sum_le (f := fun x : Int => x * x) (b := b * b) (xs := l) fun x hx => by
    have h := hb x hx
    exact ⟨Int.mul_nonneg h.1 h.1, Int.mul_le_mul h.2 h.2 h.1 h0⟩
  unfold sqL
  exact ⟨this.1, Int.le_trans this.2 (Int.mul_le_mul_of_nonneg_left (by omega) (Int.mul_nonneg h0 h0))⟩
def S_squares_by (run : List Tr → Option FR) : Prop := ∀ N ws h, OkN N → OkW N ws → OkH 1000000000 N h → run [.c (netD N), .c (lnD ws), .c (hD h)] = some (.ok (.c (.int (sqByA ws h))) [.gone, .gone, .gone])
theorem sqW_mul {N : Net} {ws : List Int} {h : List (List Int)} (o : OkN N) (ow : OkW N ws) (oh : OkH 1000000000 N h) {p : Int × List Int} (hp : p ∈ ws.zip h) : mulEv (.c (.int p.1)) (.c (.int (sqL p.2))) = some (.c (.int (sqW p))) ∧ 0 ≤ sqW p ∧ sqW p ≤ 99 * 8000000000000000000 := by
  have hp' := List.of_mem_zip (a := p.1) (b := p.2) hp
  have b1 := ow.b _ hp'.1
  have b2 := sqL_b (b := 1000000000) (by decide) (oh.b _ hp'.2) (n := 8) (by rw [oh.sh.l _ hp'.2]; exact o.n8)
  refine ⟨mul_sm (sm64 (by omega)) (sm64 (by omega)), Int.mul_nonneg (by omega) b2.1, ?_⟩
  exact Int.mul_le_mul b1.2 (by omega) b2.1 (by decide)
theorem ev_sqL {F : Genv} {Γ : List Tr} {l : List Int} {s u : Nat} (hs : s < Γ.length) (hu : s ≠ u) (he : Γ[u]? = some (.c (lnD l))) (hb : ∀ x ∈ l, sm x) (hl : l.length ≤ 1000) :
    ev F (.prim (.bi .sum) [.e (.lc [s] (.nm s) (.sq (.var u)) [] (.prim .mul [.pk s, .pk s]))]) Γ = some (.ok (.c (.int (sqL l))) (Γ.set s .gone)) := by
  have inner : ev F (.lc [s] (.nm s) (.sq (.var u)) [] (.prim .mul [.pk s, .pk s])) Γ = some (.ok (.l (l.map fun x => .c (.int (x * x)))) (Γ.set s .gone)) := by
    refine lc_map (c := iD) (Γ1 := Γ) _ (by simp [he, lnD]) rfl (fun x hx => ?_) (sz (by omega))
    have g1 : ((Γ.set s .gone).set s (.c (iD x)))[s]? = some (.c (.int x)) := List.getElem?_set_self (by rw [List.length_set]; exact hs)
    have o1 : slotOk ((Γ.set s .gone).set s (.c (iD x))) s = true := by unfold slotOk; rw [g1]
    have m := mul_sm (hb x hx) (hb x hx)
    refine ⟨(Γ.set s .gone).set s (.c (iD x)), (Γ.set s .gone).set s (.c (iD x)), rfl, ?_, by simp only [wipe1, wipe0, List.set_set]⟩
    rw [List.set_set] at *
    simp [o1, g1, m]
  have u := sum_m (fun x : Int => x * x) l
  simp [inner, u, sqL]
theorem w_squares_by {F : Genv} (h1 : Fn F "need_worths" S_need_worths) (h2 : Fn F "need_heaps" (S_need_lines 1000000000 "NoHeaps")) : S_squares_by (r_squares_by F) := by
  obtain ⟨r1, f1, q1⟩ := h1
  obtain ⟨r2, f2, q2⟩ := h2
  intro N ws h o ow oh
  refine run_ret rfl (by decide) ?_
  refine Run.nx (Γ1 := [.c (netD N), .c (lnD ws), .c (hD h), .gone, .gone, .gone]) (by simp [f1, q1.1 N ws o ow]) ?_
  refine Run.nx (Γ1 := [.c (netD N), .c (lnD ws), .c (hD h), .gone, .gone, .gone]) (by simp [f2, q2.1 N h o oh]) ?_
  have smh := oh.sh.smh o (oh.b64 (by decide))
  have hlc : ev F (.lc [3, 4] (.tp [3, 4]) (.zip [.e (.var 1), .e (.var 2)]) [] (.prim .mul [.pk 3, .e (.prim (.bi .sum) [.e (.lc [5] (.nm 5) (.sq (.var 4)) [] (.prim .mul [.pk 5, .pk 5]))])])) [.c (netD N), .c (lnD ws), .c (hD h), .gone, .gone, .gone]
      = some (.ok (.l ((ws.zip h).map fun p => .c (.int (sqW p)))) [.c (netD N), .c (lnD ws), .c (hD h), .gone, .gone, .gone]) := by
    refine lc_map (c := fun p : Int × List Int => .tuple [iD p.1, lnD p.2]) (Γ1 := [.c (netD N), .c (lnD ws), .c (hD h), .gone, .gone, .gone]) _ ?_ (by simp) (fun p hp => ?_) (sz (by rw [List.length_zip, ow.len]; have := o.e4; omega))
    · rw [← zip_is]
      exact it_zip (ta := .c (lnD ws)) (tb := .c (hD h)) (Γ1 := [.c (netD N), .c (lnD ws), .c (hD h), .gone, .gone, .gone]) (by simp) (by simp) rfl rfl rfl rfl
    · have hp' := List.of_mem_zip (a := p.1) (b := p.2) hp
      have m := sqW_mul o ow oh hp
      have e := ev_sqL (F := F) (Γ := [.c (netD N), .c (lnD ws), .c (hD h), .c (iD p.1), .c (lnD p.2), .gone]) (l := p.2) (s := 5) (u := 4) (by simp) (by decide) (by simp) (smh.b _ hp'.2) (by have := smh.l _ hp'.2; omega)
      simp only [iD] at e
      refine ⟨_, [.c (netD N), .c (lnD ws), .c (hD h), .c (iD p.1), .c (lnD p.2), .gone], by simp; rfl, ?_, by simp⟩
      rw [sv5]
      simp only [sas2, sas4, e, iD]
      simp [m.1]
  have u := sum_m sqW (ws.zip h)
  exact Run.rt (t := .c (.int (sqByA ws h))) (Γ1 := [.c (netD N), .c (lnD ws), .c (hD h), .gone, .gone, .gone]) (by simp [hlc, u, sqByA]) ⟨_, rfl, rfl⟩
/-! ### the law's own words -/
def S_worths (ns : List Int) (run : List Tr → Option FR) : Prop := ∀ M t N, Tp ns M t → M + 1000 < 2 ^ 39 → OkN N → ∃ ws t', run [t, .c (netD N)] = some (.ok (.c (lnD ws)) [t', .gone]) ∧ OkW N ws ∧ Tp ns (M + 50) t'
theorem ix4 (a b c d : PyData) (s : Nat) (hs : s < 4) : ∃ e, ixEv (.l [.c a, .c b, .c c, .c d]) (.c (.int s)) = some (.c e) ∧ (e = a ∨ e = b ∨ e = c ∨ e = d) := by
  rcases (by omega : s = 0 ∨ s = 1 ∨ s = 2 ∨ s = 3) with rfl | rfl | rfl | rfl
  · exact ⟨a, rfl, .inl rfl⟩
  · exact ⟨b, rfl, .inr (.inl rfl)⟩
  · exact ⟨c, rfl, .inr (.inr (.inl rfl))⟩
  · exact ⟨d, rfl, .inr (.inr (.inr rfl))⟩
theorem w_worths {F : Genv} {ns : List Int} (h1 : Fn F "_law_b_take" (S_take ns)) : S_worths ns (r_law_b_worths F) := by
  obtain ⟨r1, f1, q1⟩ := h1
  intro M t N ht hM o
  have e4 := o.e4
  obtain ⟨s, t1, e1, ht1, hs⟩ := q1 M t 4 ht (by omega) (by decide) (by decide)
  obtain ⟨a, t2, e2, ht2, ha⟩ := q1 (M + 1) t1 99 ht1 (by omega) (by decide) (by decide)
  obtain ⟨Γe, re, ee, t3, ws, rfl, ht3, rfl, le, he⟩ := lc_inv (F := F) (own := [5]) (tg := .nm 5) (it := .sq (.pth 1 [.lit (.int 1)])) (elt := .prim .ix [.e (.lst [.e (.var 3), .e (.prim .add [.e (.lit (.int 1)), .e (.call ("_law_b_take" : Str) [.io 0, .e (.lit (.int 99))])]), .e (.prim .add [.e (.lit (.int 1)), .e (.call ("_law_b_take" : Str) [.io 0, .e (.lit (.int 3))])]), .e (.lit (.int 99))]), .pk 2]) (cond := [])
    (ds := N.ends.map nD) (Γ := [t2, .c (netD N), .c (.int s), .c (.int (1 + a)), .gone, .gone]) (Γ1 := [t2, .c (netD N), .c (.int s), .c (.int (1 + a)), .gone, .gone])
    (fun i Γ acc => ∃ t' ws, Γ = [t', .c (netD N), .c (.int s), .c (.int (1 + a)), .gone, .gone] ∧ Tp ns (M + 2 + i * 2) t' ∧ acc = (ws : List Int).map (fun w => .c (iD w)) ∧ ws.length = i ∧ ∀ w ∈ ws, 1 ≤ w ∧ w ≤ 99)
    (by simp [netD]) ⟨t2, [], by simp, ht2, rfl, rfl, by simp⟩
    (by
      rintro i d Γ acc hd ⟨t', ws, rfl, ht', rfl, l, he⟩
      have hi := (List.getElem?_eq_some_iff.mp hd).1
      rw [List.length_map] at hi
      obtain ⟨b, t3, e3, ht3, h3⟩ := q1 _ t' 99 ht' (by omega) (by decide) (by decide)
      obtain ⟨c, t4, e4, ht4, h4⟩ := q1 _ t3 3 ht3 (by omega) (by decide) (by decide)
      obtain ⟨x, e5, h5⟩ := ix4 (.int (1 + a)) (.int (1 + b)) (.int (1 + c)) (.int 99) s (by omega)
      have : ∃ w : Int, x = .int w ∧ 1 ≤ w ∧ w ≤ 99 := by
        rcases h5 with rfl | rfl | rfl | rfl
        · exact ⟨_, rfl, by omega, by omega⟩
        · exact ⟨_, rfl, by omega, by omega⟩
        · exact ⟨_, rfl, by omega, by omega⟩
        · exact ⟨_, rfl, by omega, by omega⟩
      obtain ⟨w, rfl, w1, w9⟩ := this
      refine ⟨_, rfl, .inl ⟨_, [t4, .c (netD N), .c (.int s), .c (.int (1 + a)), .gone, .c d], .c (iD w), by rw [evC], ?_, t4, ws ++ [w], by simp, ht4.mono (by omega), by simp, by simp [l], fun y hy => ?_⟩⟩
      · simp [f1, ht'.ok, ht3.ok, e3, e4, e5, iD]
      · rcases List.mem_append.mp hy with hy | hy
        · exact he y hy
        · simp at hy; subst hy; exact ⟨w1, w9⟩) (sz (by rw [List.length_map]; omega))
  rw [List.length_map] at ht3 le
  refine ⟨ws, t3, run_ret rfl (by decide) ?_, ⟨le, he⟩, ht3.mono (by omega)⟩
  refine Run.nx (Γ1 := [t1, .c (netD N), .c (.int s), .gone, .gone, .gone]) (by simp [f1, ht.ok, e1]) ?_
  refine Run.nx (Γ1 := [t2, .c (netD N), .c (.int s), .c (.int (1 + a)), .gone, .gone]) (by simp [f1, ht1.ok, e2]) ?_
  refine Run.nx (Γ1 := [t3, .c (netD N), .c (.int s), .c (.int (1 + a)), mpT iD ws, .gone]) (by simp only [sx1, ee]; rfl) ?_
  have tm := tuple_m iD ws
  exact Run.rt (t := .c (lnD ws)) (Γ1 := [t3, .c (netD N), .c (.int s), .c (.int (1 + a)), mpT iD ws, .gone]) (by simp [mpT, slotOk, tm, lnD]) ⟨_, rfl, rfl⟩
def S_law_worthy (run : List Tr → Option FR) : Prop := ∀ N ws h, OkN N → OkW N ws → Sf N h → run [.c (netD N), .c (lnD ws), .c (hD h)] = some (.ok (mpT kD (N.ties.map (worthyA ws h))) [.gone, .gone, .gone])
def wfalls (ws : List Int) (h : List (List Int)) (t : Tie) : List Int := (ws.zip h).map fun p => p.1 * ((p.2[t.i]?).getD 0 - (p.2[t.j]?).getD 0)
theorem w_law_worthy (F : Genv) : S_law_worthy (r_law_b_worthy F) := by
  intro N ws h o ow s
  refine run_ret rfl (by decide) ?_
  refine Run.nx (Γ1 := [.c (netD N), .c (lnD ws), .c (hD h), .l [], .gone, .gone, .gone, .gone]) (by simp) ?_
  have l64 := o.tlen
  have l4 := o.e4
  have l1 := o.e1
  have sl := s.len
  have wl := ow.len
  refine Run.forM (c := tieD) (xs := N.ties) (Γ1 := [.c (netD N), .c (lnD ws), .c (hD h), .l [], .gone, .gone, .gone, .gone])
    (fun i Γ => ∃ j1 j2, Γ = [.c (netD N), .c (lnD ws), .c (hD h), mpT kD ((N.ties.take i).map (worthyA ws h)), j1, j2, .gone, .gone]) (by simp [netD]) ⟨_, _, rfl⟩ ?_ ?_
  · rintro i t Γ hi ⟨j1, j2, rfl⟩
    have ot := o.t t (List.mem_of_getElem? hi)
    have hl := (List.getElem?_eq_some_iff.mp hi).1
    have hs : i < sizeLine := Nat.lt_of_lt_of_le hl (sz (by omega))
    have hle : i ≤ N.ties.length := by omega
    refine ⟨[.c (netD N), .c (lnD ws), .c (hD h), mpT kD ((N.ties.take i).map (worthyA ws h)), .c (tieD t), j2, .gone, .gone], rfl, ?_⟩
    have hlc : ev F (.lc [6, 7] (.tp [6, 7]) (.zip [.e (.var 1), .e (.var 2)]) [] (.prim .mul [.pk 6, .e (.prim .sub [.e (.pth 7 [.pth 4 [.lit (.int 0)]]), .e (.pth 7 [.pth 4 [.lit (.int 1)]])])])) [.c (netD N), .c (lnD ws), .c (hD h), mpT kD ((N.ties.take i).map (worthyA ws h)), .c (tieD t), j2, .gone, .gone]
        = some (.ok (.l ((ws.zip h).map fun p => .c (iD (p.1 * ((p.2[t.i]?).getD 0 - (p.2[t.j]?).getD 0))))) [.c (netD N), .c (lnD ws), .c (hD h), mpT kD ((N.ties.take i).map (worthyA ws h)), .c (tieD t), j2, .gone, .gone]) := by
      refine lc_map (c := fun p : Int × List Int => .tuple [iD p.1, lnD p.2]) (Γ1 := [.c (netD N), .c (lnD ws), .c (hD h), mpT kD ((N.ties.take i).map (worthyA ws h)), .c (tieD t), j2, .gone, .gone]) _ ?_ (by simp) (fun p hp => ?_) (sz (by rw [List.length_zip]; omega))
      · rw [← zip_is]
        exact it_zip (ta := .c (lnD ws)) (tb := .c (hD h)) (Γ1 := [.c (netD N), .c (lnD ws), .c (hD h), mpT kD ((N.ties.take i).map (worthyA ws h)), .c (tieD t), j2, .gone, .gone]) (by simp) (by simp) rfl rfl rfl rfl
      · have hp' := List.of_mem_zip (a := p.1) (b := p.2) hp
        have hn := s.l _ hp'.2
        have hi' : t.i < p.2.length := by have := ot.i; omega
        have hj' : t.j < p.2.length := by have := ot.j; omega
        have h1 : p.2[t.i]? = some p.2[t.i] := List.getElem?_eq_getElem hi'
        have h2 : p.2[t.j]? = some p.2[t.j] := List.getElem?_eq_getElem hj'
        have b1 := s.b _ hp'.2 _ (List.mem_of_getElem? h1)
        have b2 := s.b _ hp'.2 _ (List.mem_of_getElem? h2)
        have bw := ow.b _ hp'.1
        have m := mul_sm (i := p.1) (sm64 (by omega)) (sm64 (i := p.2[t.i] - p.2[t.j]) (by omega))
        exact ⟨_, [.c (netD N), .c (lnD ws), .c (hD h), mpT kD ((N.ties.take i).map (worthyA ws h)), .c (tieD t), j2, .c (iD p.1), .c (lnD p.2)], by simp; rfl, by simp [lnD, tieD, h1, h2, iD, m], by simp⟩
    have efs : ((ws.zip h).map fun p => Tr.c (iD (p.1 * ((p.2[t.i]?).getD 0 - (p.2[t.j]?).getD 0)))) = (wfalls ws h t).map fun x => .c (iD x) := by simp [wfalls]
    rw [efs] at hlc
    refine Run.nx (Γ1 := [.c (netD N), .c (lnD ws), .c (hD h), mpT kD ((N.ties.take i).map (worthyA ws h)), .c (tieD t), mpT iD (wfalls ws h t), .gone, .gone]) (by simp only [sx1, hlc]; rfl) ?_
    obtain ⟨m, j, hm1, hj1, key⟩ := best_idx (v := vW ws h t) (fs := wfalls ws h t) (n := h.length) (by omega) (by simp [wfalls]; omega) (fun k hk => by
      have g1 : ws[k]? = some ws[k] := List.getElem?_eq_getElem (by omega)
      have g2 : h[k]? = some h[k] := List.getElem?_eq_getElem hk
      have e1 : (ws.zip h)[k]? = some (ws[k], h[k]) := by rw [List.getElem?_zip_eq_some]; exact ⟨g1, g2⟩
      simp only [wfalls, List.getElem?_map, e1, Option.map_some]
      unfold vW wt fallA cell
      rw [g1, g2]; rfl)
    have flatA : ((wfalls ws h t).map iD).all flatD = true := by
      rw [List.all_eq_true]; intro x hx; obtain ⟨y, _, rfl⟩ := List.mem_map.mp hx; rfl
    have key : worthyA ws h t = if 0 < m then some j else none := key
    refine Run.nx (Γ1 := [.c (netD N), .c (lnD ws), .c (hD h), mpT kD ((N.ties.take (i + 1)).map (worthyA ws h)), .c (tieD t), mpT iD (wfalls ws h t), .gone, .gone]) ?_ (Run.nil ⟨_, _, rfl⟩)
    have hps : ∀ a b c d e Γ, slotOk (a :: b :: c :: d :: e :: mpT iD (wfalls ws h t) :: Γ) 5 = true := fun _ _ _ _ _ _ => rfl
    rw [take_map hi, key]
    have mp : ∀ xs : List (Option Nat), mpT kD xs = .l (xs.map fun x => .c (kD x)) := fun _ => rfl
    rw [mp, mp]
    by_cases z : 0 < m
    · simp [hps, hm1, z, hj1, flatA, hs, hle, Nat.min_eq_left hle]
    · simp [hps, hm1, z, hs, hle, Nat.min_eq_left hle]
  · rintro Γ ⟨j1, j2, rfl⟩
    rw [List.take_length]
    exact Run.rt (t := mpT kD (N.ties.map (worthyA ws h))) (Γ1 := [.c (netD N), .c (lnD ws), .c (hD h), .gone, j1, j2, .gone, .gone]) (by simp [mpT]) ⟨_, rfl, rfl⟩
end Hp
set_option Elab.async false
set_option linter.all false
set_option maxRecDepth 100000
set_option maxHeartbeats 400000
/-! law k70: worths of anything -/
namespace Hp
open PySem PySem.Spec PyProof.Rows L2 Hw
def S_whole (run : List Tr → Option FR) : Prop := ∀ d, run [.c d] = some (.ok (.c (.bool (isInt0 d && !isBol d))) [.gone])
theorem w_whole (F : Genv) : S_whole (r_law_b_whole F) := by
  intro d
  refine run_ret rfl (by decide) (Run.rt (t := .c (.bool (isInt0 d && !isBol d))) (Γ1 := [.c d]) ?_ ⟨_, rfl, rfl⟩)
  cases d <;> simp [isInt0, isBol]
def S_law_are (run : List Tr → Option FR) : Prop := ∀ N d, OkN N → run [.c (netD N), .c d] = some (.ok (.c (.bool (tr (WorthsP N d)))) [.gone, .gone])
theorem w_law_are {F : Genv} (h1 : Fn F "_law_b_whole" S_whole) : S_law_are (r_law_b_are F) := by
  obtain ⟨r2, f2, q2⟩ := h1
  intro N d o
  refine run_ret rfl (by decide) ?_
  have no : tr (WorthsP N d) = false → ∀ ss, Run F [.ret (.lit (.bool false))] [.c (netD N), .c d, .gone] (Aft F ss (fun r => ∃ Γ, r = .rt (.c (.bool (tr (WorthsP N d)))) Γ ∧ outsOf [false, false] Γ = [.gone, .gone])) := fun h ss =>
    Run.rt (t := .c (.bool false)) (Γ1 := [.c (netD N), .c d, .gone]) (by simp) ⟨_, by rw [h], rfl⟩
  by_cases hT : isTup d = true
  · obtain ⟨ds, rfl⟩ := isTup_iff.mp hT
    by_cases hl : ds.length = N.ends.length
    · refine Run.skip (Γ1 := [.c (netD N), .c (.tuple ds), .gone]) (by simp [netD, hl]) ?_
      have hlc : ev F (.lc [2] (.nm 2) (.sq (.var 1)) [] (.and_ (.call ("_law_b_whole" : Str) [.e (.var 2)]) (.chain .LtE .LtE [.e (.lit (.int 1)), .pk 2] (.lit (.int 99))))) [.c (netD N), .c (.tuple ds), .gone]
          = some (.ok (.l (ds.map fun d => .c (.bool (isNum d 1 99)))) [.c (netD N), .c (.tuple ds), .gone]) := by
        refine lc_map (c := id) (Γ1 := [.c (netD N), .c (.tuple ds), .gone]) _ (by simp) (by simp) (fun x hx => ?_) (sz (by have := o.e4; omega))
        have e := q2 x
        refine ⟨_, [.c (netD N), .c (.tuple ds), .c x], rfl, ?_, by simp⟩
        cases x with
        | int i => by_cases h1 : 1 ≤ i <;> simp [f2, e, isInt0, isBol, h1]
        | _ => simp [f2, e, isInt0, isBol, isNum]
      have : tr (WorthsP N (.tuple ds)) = ds.all fun d => isNum d 1 99 := tr_eq ⟨fun h => by
        obtain ⟨l, rfl, hb⟩ := nums_of h
        exact ⟨l, rfl, by simpa using hl, hb⟩, fun ⟨ws, e, ow⟩ => by
        simp only [lnD, PyData.tuple.injEq] at e
        subst e
        rw [List.all_eq_true]
        intro x hx
        obtain ⟨w, hw, rfl⟩ := List.mem_map.mp hx
        have := ow.b w hw
        simp [iD, this]⟩
      exact Run.rt (t := .c (.bool (ds.all fun d => isNum d 1 99))) (Γ1 := [.c (netD N), .c (.tuple ds), .gone]) (by simp [hlc, all_m]) ⟨_, by rw [this], rfl⟩
    · refine Run.iteT (Γ1 := [.c (netD N), .c (.tuple ds), .gone]) (by simp [netD, hl]) (no (tr_f fun ⟨ws, e, ow⟩ => ?_) _)
      simp only [lnD, PyData.tuple.injEq] at e
      subst e
      have := ow.len
      simp at hl; omega
  · exact Run.iteT (Γ1 := [.c (netD N), .c d, .gone]) (by simp [hT]) (no (tr_f fun ⟨ws, e, ow⟩ => by subst e; simp [lnD] at hT) _)
def odds70 (far : Int) : List PyData := [.int 1, .int 99, .int 0, .int 100, .int (100 + far), .int (-1), .int (-100 - far), .bool true, .bool false, .none, .str "1", .tuple [.int 1], .list [.int 1], .dict [], .str ""]
theorem odds70_ok {far : Int} (h0 : 0 ≤ far) (h1 : far < 100000000000000000000) : ∀ d ∈ odds70 far, SD 1 1020 d := by
  have I : ∀ i : Int, i.natAbs < 2 ^ 1000 → SD 1 1020 (.int i) := fun i h => ⟨true, (RD.int h).mono (by decide) (by decide)⟩
  have s20 : ∀ i : Int, i.natAbs < 2 ^ 70 → i.natAbs < 2 ^ 1000 := fun i h => Nat.lt_of_lt_of_le h (Nat.pow_le_pow_right (by decide) (by decide))
  intro d hd
  simp only [odds70, List.mem_cons, List.mem_nil_iff, or_false] at hd
  rcases hd with rfl | rfl | rfl | rfl | rfl | rfl | rfl | rfl | rfl | rfl | rfl | rfl | rfl | rfl | rfl
  · exact I _ (s20 _ (by decide))
  · exact I _ (s20 _ (by decide))
  · exact I _ (s20 _ (by decide))
  · exact I _ (s20 _ (by decide))
  · exact I _ (s20 _ (by omega))
  · exact I _ (s20 _ (by decide))
  · exact I _ (s20 _ (by omega))
  · exact ⟨true, (RD.bool _).mono (by decide) (by decide)⟩
  · exact ⟨true, (RD.bool _).mono (by decide) (by decide)⟩
  · exact ⟨true, RD.none.mono (by decide) (by decide)⟩
  · exact ⟨true, (RD.str (by decide +kernel)).mono (by decide) (by decide)⟩
  · exact ⟨true, (RD.tuple (k := 0) (s := 1010) (n := 1) (fun d hd => by simp at hd; subst hd; exact RD.int (s20 _ (by decide))) (by simp)).mono (by decide) (by decide)⟩
  · exact ⟨true, (RD.list (k := 0) (s := 1010) (n := 1) (fun d hd => by simp at hd; subst hd; exact RD.int (s20 _ (by decide))) (by simp)).mono (by decide) (by decide)⟩
  · exact ⟨false, RD.emp.mono (by decide) (by decide)⟩
  · exact ⟨true, (RD.str (by decide +kernel)).mono (by decide) (by decide)⟩
theorem small_ok {ws : List Int} (hb : ∀ w ∈ ws, 1 ≤ w ∧ w ≤ 99) : ∀ b, ∀ x ∈ ws.map iD, RD b 1 1020 x := fun b x hx => by
  obtain ⟨w, hw, rfl⟩ := List.mem_map.mp hx
  have := hb w hw
  exact (RD.int (Nat.lt_of_lt_of_le (show w.natAbs < 2 ^ 64 by omega) (Nat.pow_le_pow_right (by decide) (by decide)))).mono (by decide) (by decide)
def S_bent (ns : List Int) (run : List Tr → Option FR) : Prop := ∀ M t N ws, Tp ns M t → M + 1000 < 2 ^ 39 → OkN N → OkW N ws → ∃ (ds : List PyData) (t' : Tr), run [t, .c (lnD ws)] = some (.ok (.l (ds.map .c)) [t', .gone]) ∧ Tp ns (M + 2) t' ∧ ds.length ≤ 100 ∧ ∀ d ∈ ds, SD 3 20000 d
theorem w_bent {F : Genv} {ns : List Int} (h1 : Fn F "_law_b_take" (S_take ns)) : S_bent ns (r_law_b_bent F) := by
  obtain ⟨r0, f0, q0⟩ := h1
  intro M t N ws ht hM on ow
  have hl := ow.len
  have e1 := on.e1
  have e4 := on.e4
  obtain ⟨far, t1, a1, ht1, hfar⟩ := q0 M t 100000000000000000000 ht (by omega) (by decide) lg20
  obtain ⟨at', t2, a2, ht2, hat⟩ := q0 (M + 1) t1 (ws.length : Int) ht1 (by omega) (by omega) (Nat.lt_trans (lg_lt (k := 64) (by omega) (by decide)) (by decide))
  have hat : at' < ws.length := by omega
  have hwl : (ws.map iD).length = ws.length := by simp
  have lw : lnD ws = .tuple (ws.map iD) := rfl
  have sm := small_ok ow.b
  have base : ∀ d ∈ [lnD ws, PyData.list (ws.map iD), .tuple (ws.map iD ++ [.int 1]), .tuple ((ws.map iD).drop 1), .tuple (ws.map iD).reverse, .tuple [lnD ws], .none, .str "", .str "1", .int 0, .int 1, .dict [], .tuple [], .list []], SD 3 20000 d := by
    have tp : ∀ xs : List PyData, (∀ x ∈ xs, RD true 1 1020 x) → xs.length ≤ 6 → SD 3 20000 (.tuple xs) := fun xs h l => ⟨true, (RD.tuple (n := 6) h l).mono (by decide) (by decide)⟩
    have i1 : ∀ i : Int, i.natAbs < 2 ^ 64 → RD true 0 1010 (.int i) := fun i h => RD.int (Nat.lt_of_lt_of_le h (Nat.pow_le_pow_right (by decide) (by decide)))
    intro d hd
    simp only [List.mem_cons, List.mem_nil_iff, or_false] at hd
    rcases hd with rfl | rfl | rfl | rfl | rfl | rfl | rfl | rfl | rfl | rfl | rfl | rfl | rfl | rfl
    · exact tp _ (sm true) (by simp; omega)
    · exact ⟨true, (RD.list (n := 6) (sm true) (by simp; omega)).mono (by decide) (by decide)⟩
    · exact tp _ (fun x hx => by
        rcases List.mem_append.mp hx with hx | hx
        · exact sm true x hx
        · simp at hx; subst hx; exact (i1 1 (by decide)).mono (by decide) (by decide)) (by simp; omega)
    · exact tp _ (fun x hx => sm true x (List.mem_of_mem_drop hx)) (by simp; omega)
    · exact tp _ (fun x hx => sm true x (List.mem_reverse.mp hx)) (by simp; omega)
    · refine ⟨true, (RD.tuple (k := 2) (s := 6200) (n := 1) (fun x hx => ?_) (by simp)).mono (by decide) (by decide)⟩
      simp at hx; subst hx
      exact (RD.tuple (n := 6) (sm true) (by simp; omega)).mono (by decide) (by decide)
    · exact ⟨true, RD.none.mono (by decide) (by decide)⟩
    · exact ⟨true, (RD.str (by decide +kernel)).mono (by decide) (by decide)⟩
    · exact ⟨true, (RD.str (by decide +kernel)).mono (by decide) (by decide)⟩
    · exact ⟨true, (i1 0 (by decide)).mono (by decide) (by decide)⟩
    · exact ⟨true, (i1 1 (by decide)).mono (by decide) (by decide)⟩
    · exact ⟨false, RD.emp.mono (by decide) (by decide)⟩
    · exact tp [] (fun _ h => by cases h) (by simp)
    · exact ⟨true, (RD.list (k := 1) (s := 1020) (n := 6) (fun _ h => by cases h) (by simp)).mono (by decide) (by decide)⟩
  have oko := odds70_ok (far := (far : Int)) (by omega) (by omega)
  obtain ⟨r, e, ds, t', h1, h2, h3, h4⟩ : ∃ r, r_law_b_bent F [t, .c (lnD ws)] = some r ∧ ∃ (ds : List PyData) (t' : Tr), r = .ok (.l (ds.map .c)) [t', .gone] ∧ Tp ns (M + 2) t' ∧ ds.length ≤ 100 ∧ ∀ d ∈ ds, SD 3 20000 d := by
    refine run_of rfl (by decide) ?_
    refine Run.nx (Γ1 := [t1, .c (lnD ws), .c (.int far), .gone, .gone, .gone]) (by simp [f0, ht.ok, pw20, a1]) ?_
    have ln : biEv .len [.c (lnD ws)] = some (.c (.int (ws.length : Nat))) := by simp [lnD]
    have ok1 : ∀ a x Γ, slotOk (a :: .c x :: Γ) 1 = true := fun _ _ _ => rfl
    refine Run.nx (Γ1 := [t2, .c (lnD ws), .c (.int far), .c (.int at'), .gone, .gone]) (by simp [f0, ht1.ok, ok1, ln, a2]) ?_
    have z1 : (1 : Nat) ≤ sizeLine := sz (by decide)
    have z2 : (2 : Nat) ≤ sizeLine := sz (by decide)
    have z14 : (14 : Nat) ≤ sizeLine := sz (by decide)
    have z15 : (15 : Nat) ≤ sizeLine := sz (by decide)
    have b1 := add_t (xs := ws.map iD) (ys := [.int 1]) (by simp; omega)
    have b2 : slEv (.c (.tuple (ws.map iD))) (some 1) none = some (.c (.tuple ((ws.map iD).drop 1))) := sl_fromT (a := 1) (by simp; omega)
    have asL : asList (.c (.tuple (ws.map iD))) = none := rfl
    have fzl : frz (.l ((ws.map iD).map .c)) = some (.list (ws.map iD)) := by simp only [frz, frzL_c]; rfl
    have fz0 : frz (.l []) = some (.list []) := rfl
    refine Run.nx (Γ1 := [t2, .c (lnD ws), .c (.int far), .c (.int at'), .l ([lnD ws, PyData.list (ws.map iD), .tuple (ws.map iD ++ [.int 1]), .tuple ((ws.map iD).drop 1), .tuple (ws.map iD).reverse, .tuple [lnD ws], .none, .str "", .str "1", .int 0, .int 1, .dict [], .tuple [], .list []].map .c), .gone]) (by
      rw [lw]
      generalize ws.map iD = W at *
      have lt : biEv .list [.c (.tuple W)] = some (.l (W.map .c)) := rfl
      simp only [list_ct] at lt
      simp [ok1, lt, fzl, fz0, z1, z14, b1, b2, asL, lT]) ?_
    have lb : [lnD ws, PyData.list (ws.map iD), .tuple (ws.map iD ++ [.int 1]), .tuple ((ws.map iD).drop 1), .tuple (ws.map iD).reverse, .tuple [lnD ws], .none, .str "", .str "1", .int 0, .int 1, .dict [], .tuple [], .list []].length = 14 := rfl
    generalize [lnD ws, PyData.list (ws.map iD), .tuple (ws.map iD ++ [.int 1]), .tuple ((ws.map iD).drop 1), .tuple (ws.map iD).reverse, .tuple [lnD ws], .none, .str "", .str "1", .int 0, .int 1, .dict [], .tuple [], .list []] = L0 at *
    have lo : (odds70 (far : Int)).length = 15 := rfl
    refine Run.for (ds := odds70 (far : Int)) (Γ1 := [t2, .c (lnD ws), .c (.int far), .c (.int at'), .l (L0.map .c), .gone])
      (fun i Γ => ∃ (L : List PyData) (j5 : Tr), Γ = [t2, .c (lnD ws), .c (.int far), .c (.int at'), .l (L.map .c), j5] ∧ L.length = 14 + 2 * i ∧ ∀ d ∈ L, SD 3 20000 d) ?_ ⟨L0, _, rfl, lb, base⟩ ?_ ?_
    · have fz1 : frz (.l [.c (.int 1)]) = some (.list [.int 1]) := rfl
      have fzo : frz (.l ((odds70 (far : Int)).map .c)) = some (.list (odds70 (far : Int))) := by simp only [frz, frzL_c]; rfl
      simp only [odds70, List.map_cons, List.map_nil] at fzo
      have ok2 : ∀ a b x Γ, slotOk (a :: b :: .c x :: Γ) 2 = true := fun _ _ _ _ => rfl
      simp [ok2, z1, z15, fz1, fzo, odds70]
    · rintro i d Γ hi ⟨L, j5, rfl, hL, hg⟩
      have hi' := (List.getElem?_eq_some_iff.mp hi).1
      rw [lo] at hi'
      have od := oko d (List.mem_of_getElem? hi)
      refine ⟨[t2, .c (lnD ws), .c (.int far), .c (.int at'), .l (L.map .c), .c d], rfl, ?_⟩
      have s1 := sl_toT (xs := ws.map iD) (a := at') (by omega)
      have s2 := sl_from1T (xs := ws.map iD) (a := at') (by omega)
      have s3 := sl_fromT (xs := ws.map iD) (a := at') (by omega)
      have p1 := add_t (xs := (ws.map iD).take at') (ys := [d]) (by simp; omega)
      have p2 := add_t (xs := (ws.map iD).take at' ++ [d]) (ys := (ws.map iD).drop (at' + 1)) (by simp; omega)
      have p3 := add_t (xs := (ws.map iD).take at' ++ [d]) (ys := (ws.map iD).drop at') (by simp; omega)
      have p4 := add_l (xs := L) (ys := [.tuple ((ws.map iD).take at' ++ [d] ++ (ws.map iD).drop (at' + 1)), .tuple ((ws.map iD).take at' ++ [d] ++ (ws.map iD).drop at')]) (by simp; omega)
      refine Run.nx (Γ1 := [t2, .c (lnD ws), .c (.int far), .c (.int at'), .l ((L ++ [PyData.tuple ((ws.map iD).take at' ++ [d] ++ (ws.map iD).drop (at' + 1)), PyData.tuple ((ws.map iD).take at' ++ [d] ++ (ws.map iD).drop at')]).map .c), .c d]) ?_ (Run.nil ⟨_, _, rfl, by simp [hL]; omega, fun x hx => ?_⟩)
      · rw [lw]
        have ok1 : ∀ a x Γ, slotOk (a :: .c x :: Γ) 1 = true := fun _ _ _ => rfl
        have ok3 : ∀ a b c x Γ, slotOk (a :: b :: c :: .c x :: Γ) 3 = true := fun _ _ _ _ _ => rfl
        have ok4 : ∀ a b c d x Γ, slotOk (a :: b :: c :: d :: .l x :: Γ) 4 = true := fun _ _ _ _ _ _ => rfl
        generalize (ws.map iD).take at' = A at *
        generalize (ws.map iD).drop (at' + 1) = B at *
        generalize (ws.map iD).drop at' = C at *
        generalize ws.map iD = W at *
        generalize hLm : L.map Tr.c = Lm at *
        simp only [List.map_cons, List.map_nil] at p4
        simp only [List.append_assoc, List.cons_append, List.nil_append] at p1 p2 p3 p4 ⊢
        simp [ok1, ok3, ok4, s1, s2, s3, p1, p2, p3, z1, z2, p4]
      · rcases List.mem_append.mp hx with hx | hx
        · exact hg x hx
        · simp only [List.mem_cons, List.mem_nil_iff, or_false] at hx
          rcases hx with rfl | rfl
          · exact (SD.around (n := 6) (fun b x hx => sm b x (List.mem_of_mem_take hx)) (fun b x hx => sm b x (List.mem_of_mem_drop hx)) od (by simp; omega)).mono (by decide) (by decide)
          · exact (SD.around (n := 6) (fun b x hx => sm b x (List.mem_of_mem_take hx)) (fun b x hx => sm b x (List.mem_of_mem_drop hx)) od (by simp; omega)).mono (by decide) (by decide)
    · rintro Γ ⟨L, j5, rfl, hL, hg⟩
      rw [lo] at hL
      exact Run.rt (t := .l (L.map .c)) (Γ1 := [t2, .c (lnD ws), .c (.int far), .c (.int at'), .gone, j5]) (by simp) ⟨L, t2, rfl, ht2, by omega, hg⟩
  exact ⟨ds, t', by rw [e, h1], h2, h3, h4⟩
end Hp
set_option Elab.async false
set_option linter.all false
set_option maxRecDepth 100000
set_option maxHeartbeats 400000
namespace Hg
open PySem PySem.Spec PyProof.Rows L2 Hw
def top (i : Nat) : Stmt := PySem.Challenge.pw_heapward_k70_worths_of_anything.main.body.getD i (.Pass ⟨0, 0, 0, 0⟩)
def d_is_number : DD where
  x := ("is_number" : Str)
  N := [("thing" : Str), ("low" : Str), ("high" : Str)]
  pn := [("thing" : Str), ("low" : Str), ("high" : Str)]
  ps := [false, false, false]
  st := top 7
  body := Hp.b_is_number

def d_is_tie : DD where
  x := ("is_tie" : Str)
  N := [("n" : Str), ("thing" : Str)]
  pn := [("n" : Str), ("thing" : Str)]
  ps := [false, false]
  st := top 8
  body := Hp.b_is_tie

def d_are_ends : DD where
  x := ("are_ends" : Str)
  N := [("n" : Str), ("thing" : Str), ("end" : Str)]
  pn := [("n" : Str), ("thing" : Str)]
  ps := [false, false]
  st := top 9
  body := Hp.b_are_ends

def d_are_ties : DD where
  x := ("are_ties" : Str)
  N := [("n" : Str), ("thing" : Str), ("at" : Str), ("tie" : Str)]
  pn := [("n" : Str), ("thing" : Str)]
  ps := [false, false]
  st := top 10
  body := Hp.b_are_ties

def d_is_net : DD where
  x := ("is_net" : Str)
  N := [("thing" : Str)]
  pn := [("thing" : Str)]
  ps := [false]
  st := top 11
  body := Hp.b_is_net

def d_need_net : DD where
  x := ("need_net" : Str)
  N := [("net" : Str)]
  pn := [("net" : Str)]
  ps := [false]
  st := top 12
  body := Hp.b_need_net

def d_are_worths : DD where
  x := ("are_worths" : Str)
  N := [("net" : Str), ("thing" : Str), ("one" : Str)]
  pn := [("net" : Str), ("thing" : Str)]
  ps := [false, false]
  st := top 15
  body := Hp.b_are_worths

def d_law_b_mixed : DD where
  x := ("_law_b_mixed" : Str)
  N := [("cell" : Str), ("at" : Str), ("one" : Str), ("two" : Str), ("three" : Str)]
  pn := [("cell" : Str), ("at" : Str)]
  ps := [false, false]
  st := top 17
  body := Hp.b_law_b_mixed

def d_law_b_take : DD where
  x := ("_law_b_take" : Str)
  N := [("tape" : Str), ("many" : Str), ("found" : Str), ("at" : Str), ("cell" : Str)]
  pn := [("tape" : Str), ("many" : Str)]
  ps := [true, false]
  st := top 18
  body := Hp.b_law_b_take

def d_law_b_whole : DD where
  x := ("_law_b_whole" : Str)
  N := [("thing" : Str)]
  pn := [("thing" : Str)]
  ps := [false]
  st := top 19
  body := Hp.b_law_b_whole

def d_law_b_net : DD where
  x := ("_law_b_net" : Str)
  N := [("tape" : Str), ("places" : Str), ("kinds" : Str), ("n" : Str), ("ends" : Str), ("often" : Str), ("sort" : Str), ("ties" : Str), ("i" : Str), ("j" : Str), ("kind" : Str), ("other" : Str)]
  pn := [("tape" : Str), ("places" : Str), ("kinds" : Str)]
  ps := [true, false, false]
  st := top 20
  body := Hp.b_law_b_net

def d_law_b_worths : DD where
  x := ("_law_b_worths" : Str)
  N := [("tape" : Str), ("net" : Str), ("sort" : Str), ("alike" : Str), ("found" : Str), ("end" : Str)]
  pn := [("tape" : Str), ("net" : Str)]
  ps := [true, false]
  st := top 21
  body := Hp.b_law_b_worths

def d_law_b_are : DD where
  x := ("_law_b_are" : Str)
  N := [("net" : Str), ("thing" : Str), ("one" : Str)]
  pn := [("net" : Str), ("thing" : Str)]
  ps := [false, false]
  st := top 22
  body := Hp.b_law_b_are

def d_law_b_bent : DD where
  x := ("_law_b_bent" : Str)
  N := [("tape" : Str), ("worths" : Str), ("far" : Str), ("at" : Str), ("found" : Str), ("odd" : Str)]
  pn := [("tape" : Str), ("worths" : Str)]
  ps := [true, false]
  st := top 23
  body := Hp.b_law_b_bent

def d_law : DD where
  x := ("law" : Str)
  N := [("script" : Str), ("tape" : Str), ("k" : Str), ("net" : Str), ("thing" : Str), ("kept" : Str), ("found" : Str)]
  pn := [("script" : Str)]
  ps := [false]
  st := top 24
  body :=
  [.set 1 (.lst [.e (.var 0), .e (.lit (.int 0)), .e (.lit (.int 0))]),
  .for_ (.nm 2) (.rng1 (.lit (.int 3)))
    [.ite (.and_ (.e (.prim (.cmp .Gt) [.pk 2, .e (.lit (.int 1))])) (.e (.prim (.cmp .GtE) [.e (.pth 1 [.lit (.int 1)]), .e (.prim (.bi .len) [.pk 0])])))
      [.brk]
      [],
    .set 3 (.call ("_law_b_net" : Str) [.io 1, .e (.lit (.int 8)), .e (.lit (.int 4))]),
    .for_ (.nm 4) (.sq (.call ("_law_b_bent" : Str) [.io 1, .e (.call ("_law_b_worths" : Str) [.io 1, .e (.var 3)])]))
      [.set 5 (.prim .rpr [.pk 4]),
      .set 6 (.call ("are_worths" : Str) [.e (.var 3), .e (.var 4)]),
      .ite (.or_ (.not_ (.e (.prim (.isi "bool") [.pk 6]))) (.or_ (.e (.prim (.cmp .NotEq) [.pk 6, .e (.call ("_law_b_are" : Str) [.e (.var 3), .e (.var 4)])])) (.e (.prim (.cmp .NotEq) [.e (.prim .rpr [.pk 4]), .pk 5]))))
        [.ret (.lit (.bool false))]
        []]],
  .ret (.lit (.bool true))]

def ds : List DD := [d_law_b_bent, d_law_b_are, d_law_b_worths, d_law_b_net, d_law_b_whole, d_law_b_take, d_law_b_mixed, d_are_worths, d_need_net, d_is_net, d_are_ties, d_are_ends, d_is_tie, d_is_number]
def exs : List Str := [("NoNet" : Str)]
def gls : List (Str × Int) := [(("MOST_PLACES" : Str), 8), (("MOST_KINDS" : Str), 4), (("MOST_OVER" : Str), 9), (("MOST_WORTH" : Str), 99)]
abbrev Gt (i : Nat) : Genv := genv (glI gls) (ds.drop i)
theorem s_is_number : Hp.S_is_number (Hp.r_is_number (Gt 14)) := Hp.w_is_number (Gt 14)
theorem s_is_tie : Hp.S_is_tie (Hp.r_is_tie (Gt 13)) := Hp.w_is_tie ⟨_, by kernel_rfl, s_is_number⟩ (by kernel_rfl)
theorem s_are_ends : Hp.S_are_ends (Hp.r_are_ends (Gt 12)) := Hp.w_are_ends ⟨_, by kernel_rfl, s_is_number⟩ (by kernel_rfl)
theorem s_are_ties : Hp.S_are_ties (Hp.r_are_ties (Gt 11)) := Hp.w_are_ties ⟨_, by kernel_rfl, s_is_tie⟩
theorem s_is_net : Hp.S_is_net (Hp.r_is_net (Gt 10)) := Hp.w_is_net ⟨_, by kernel_rfl, s_is_number⟩ ⟨_, by kernel_rfl, s_are_ends⟩ ⟨_, by kernel_rfl, s_are_ties⟩ (by kernel_rfl)
theorem s_need_net : Hp.S_need_net (Hp.r_need_net (Gt 9)) := Hp.w_need_net ⟨_, by kernel_rfl, s_is_net⟩
theorem s_are_worths : Hp.S_are_worths (Hp.r_are_worths (Gt 8)) := Hp.w_are_worths ⟨_, by kernel_rfl, s_need_net⟩ ⟨_, by kernel_rfl, s_is_number⟩ (by kernel_rfl)
theorem s_law_b_mixed : Hp.S_mixed (Hp.r_law_b_mixed (Gt 7)) := Hp.w_mixed (Gt 7)
theorem s_law_b_take (ns : List Int) : (Hp.S_take ns) (Hp.r_law_b_take (Gt 6)) := Hp.w_take ⟨_, by kernel_rfl, s_law_b_mixed⟩
theorem s_law_b_whole : Hp.S_whole (Hp.r_law_b_whole (Gt 5)) := Hp.w_whole (Gt 5)
theorem s_law_b_net (ns : List Int) : (Hp.S_net ns) (Hp.r_law_b_net (Gt 4)) := Hp.w_net ⟨_, by kernel_rfl, s_law_b_take ns⟩
theorem s_law_b_worths (ns : List Int) : (Hp.S_worths ns) (Hp.r_law_b_worths (Gt 3)) := Hp.w_worths ⟨_, by kernel_rfl, s_law_b_take ns⟩
theorem s_law_b_are : Hp.S_law_are (Hp.r_law_b_are (Gt 2)) := Hp.w_law_are ⟨_, by kernel_rfl, s_law_b_whole⟩
theorem s_law_b_bent (ns : List Int) : (Hp.S_bent ns) (Hp.r_law_b_bent (Gt 1)) := Hp.w_bent ⟨_, by kernel_rfl, s_law_b_take ns⟩
end Hg
set_option Elab.async false
set_option linter.all false
set_option maxRecDepth 100000
set_option maxHeartbeats 400000
namespace Hg
open PySem PySem.Spec PyProof.Rows L2 Hw Hp
theorem w_law {F : Genv} {ns : List Int} (h1 : Fn F "_law_b_net" (S_net ns)) (h2 : Fn F "_law_b_worths" (S_worths ns)) (h3 : Fn F "_law_b_bent" (S_bent ns)) (h4 : Fn F "are_worths" S_are_worths) (h5 : Fn F "_law_b_are" S_law_are) :
    ∃ Γ, exB F d_law.body (.s ns :: .gone :: .gone :: List.replicate 4 .gone) = some (.rt (.c (.bool true)) Γ) := by
  obtain ⟨r1, f1, q1⟩ := h1
  obtain ⟨r2, f2, q2⟩ := h2
  obtain ⟨r3, f3, q3⟩ := h3
  obtain ⟨r4, f4, q4⟩ := h4
  obtain ⟨r5, f5, q5⟩ := h5
  refine law_loop (K := 3) (c := 1) (m := 4) (by decide) fun k t J hk hJ ht => ?_
  match J, hJ with
  | [j3, j4, j5, j6], _ =>
    obtain ⟨N, t1, e1, on, ht1, _, _⟩ := q1 (k * 100000) _ 8 4 ht (by omega) (by decide) (by decide) (by decide) (by decide)
    obtain ⟨ws, t2, e2, ow, ht2⟩ := q2 _ t1 N ht1 (by omega) on
    obtain ⟨ds, t3, e3, ht3, ld, gd⟩ := q3 _ t2 N ws ht2 (by omega) on ow
    refine Run.nx (Γ1 := [.s ns, t1, .c (.int k), .c (netD N), j4, j5, j6]) (by simp at e1; simp [f1, ht.ok, e1]) ?_
    refine Run.for (ds := ds) (Γ1 := [.s ns, t3, .c (.int k), .c (netD N), j4, j5, j6]) (fun i Γ => ∃ j4 j5 j6, Γ = [.s ns, t3, .c (.int k), .c (netD N), j4, j5, j6]) ?_ ⟨_, _, _, rfl⟩ ?_ ?_
    · have fz : frz (.l (ds.map .c)) = some (.list ds) := by simp only [frz, frzL_c]; rfl
      simp [f2, f3, ht1.ok, ht2.ok, e2, e3, fz]
    · rintro i d Γ hi ⟨j4, j5, j6, rfl⟩
      have pr := (gd d (List.mem_of_getElem? hi)).plainR (by decide) (by decide)
      have e4 := q4.1 N d on
      have e5 := q5 N d on
      generalize tr (WorthsP N d) = b at *
      have ok4 : ∀ a0 a1 a2 a3 x Γ, slotOk (a0 :: a1 :: a2 :: a3 :: .c x :: Γ) 4 = true := fun _ _ _ _ _ _ => rfl
      refine ⟨[.s ns, t3, .c (.int k), .c (netD N), .c d, j5, j6], rfl, ?_⟩
      refine Run.nx (Γ1 := [.s ns, t3, .c (.int k), .c (netD N), .c d, .c (.str (PyData.shown d)), j6]) (by simp [ok4, pr]) ?_
      refine Run.nx (Γ1 := [.s ns, t3, .c (.int k), .c (netD N), .c d, .c (.str (PyData.shown d)), .c (.bool b)]) (by simp [f4, e4]) ?_
      exact Run.skip (Γ1 := [.s ns, t3, .c (.int k), .c (netD N), .c d, .c (.str (PyData.shown d)), .c (.bool b)]) (by simp [isBol, f5, e5, ok4, pr]) (Run.nil ⟨_, _, _, rfl⟩)
    · rintro Γ ⟨j4, j5, j6, rfl⟩
      exact Run.nil ⟨t3, _, rfl, rfl, ht3.mono (by omega)⟩
theorem hrun : ∀ ns : List Int, ns.length ≤ 63 → (∀ z ∈ ns, PySem.Builtin.Int.intBits z ≤ 1048576) → ∃ os, runDef (genv (glI gls) ds) d_law.N.length d_law.ps d_law.body [.s ns] = some (.ok (bT true) os) := by
  intro ns _ _
  obtain ⟨Γ, e⟩ := w_law (F := Gt 0) (ns := ns) ⟨_, by kernel_rfl, s_law_b_net ns⟩ ⟨_, by kernel_rfl, s_law_b_worths ns⟩ ⟨_, by kernel_rfl, s_law_b_bent ns⟩ ⟨_, by kernel_rfl, s_are_worths⟩ ⟨_, by kernel_rfl, s_law_b_are⟩
  exact ⟨_, run_rt (n := 7) (ps := [false]) (ts := [.s ns]) (Γ := Γ) rfl (by decide) e⟩
end Hg
namespace Hg
open PySem PySem.Spec PyProof.Rows L2 Hw
theorem glIn {K : PySem.W.Frag} {x : Str} {i : Int} {t : Tok} (h : PySem.W.nsIn K mainGlobals x = some (some (.int i t))) : ∃ t, PySem.W.nsIn K mainGlobals x = some (some (.int i t)) := ⟨t, h⟩
theorem ds_ok : ∀ d ∈ d_law :: ds, dOk exs d = true := List.all_eq_true.mp (by decide +kernel)
end Hg
open PySem PySem.W PyProof.Rows
set_option maxHeartbeats 0 in
theorem PySem.Challenge.cw_heapward_k70_worths_of_anything_holds : PySem.Challenge.rw_heapward_k70_worths_of_anything.Holds := by
  w_on; o_law; k_head; (case hw => w_witness2)
  k_fill
  refine Hq.walk_G (l := PySem.Challenge.rw_heapward_k70_worths_of_anything) (n := 63) (k := 15) (x := "script") (sp := fun w => Hw.spLaw _) rfl (by decide) rfl ⟨rfl, by decide, by decide⟩ (fun w h Y => PySem.W.kIn_of Y) ?F (fun _ _ a ns hl hb _ hS => ⟨a, ns, rfl, hS, hl, hb, fun _ => rfl⟩)
  case F =>
    intro w mg fa h KX G hmg
    refine' Hw.law_mk KX G hmg (Hw.glI Hg.gls) Hg.exs Hg.d_law Hg.ds (Hw.gls_of (l := Hg.gls) ?G) Hg.ds_ok rfl rfl Hg.hrun ?D ?B (Hw.ExsIn.at (xs := Hg.exs) ?E)
    case D =>
      refine' ⟨Hw.defIn ?a0 ?l0 ?c0 ?k0 (fun _ _ _ _ _ _ us hl => match us, hl with | [_], _ => rfl), Hw.defIn ?a1 ?l1 ?c1 ?k1 (fun _ _ _ _ _ _ us hl => match us, hl with | [_, _], _ => rfl), Hw.defIn ?a2 ?l2 ?c2 ?k2 (fun _ _ _ _ _ _ us hl => match us, hl with | [_, _], _ => rfl), Hw.defIn ?a3 ?l3 ?c3 ?k3 (fun _ _ _ _ _ _ us hl => match us, hl with | [_, _], _ => rfl), Hw.defIn ?a4 ?l4 ?c4 ?k4 (fun _ _ _ _ _ _ us hl => match us, hl with | [_, _, _], _ => rfl), Hw.defIn ?a5 ?l5 ?c5 ?k5 (fun _ _ _ _ _ _ us hl => match us, hl with | [_], _ => rfl), Hw.defIn ?a6 ?l6 ?c6 ?k6 (fun _ _ _ _ _ _ us hl => match us, hl with | [_, _], _ => rfl), Hw.defIn ?a7 ?l7 ?c7 ?k7 (fun _ _ _ _ _ _ us hl => match us, hl with | [_, _], _ => rfl), Hw.defIn ?a8 ?l8 ?c8 ?k8 (fun _ _ _ _ _ _ us hl => match us, hl with | [_, _], _ => rfl), Hw.defIn ?a9 ?l9 ?c9 ?k9 (fun _ _ _ _ _ _ us hl => match us, hl with | [_], _ => rfl), Hw.defIn ?a10 ?l10 ?c10 ?k10 (fun _ _ _ _ _ _ us hl => match us, hl with | [_], _ => rfl), Hw.defIn ?a11 ?l11 ?c11 ?k11 (fun _ _ _ _ _ _ us hl => match us, hl with | [_, _], _ => rfl), Hw.defIn ?a12 ?l12 ?c12 ?k12 (fun _ _ _ _ _ _ us hl => match us, hl with | [_, _], _ => rfl), Hw.defIn ?a13 ?l13 ?c13 ?k13 (fun _ _ _ _ _ _ us hl => match us, hl with | [_, _], _ => rfl), Hw.defIn ?a14 ?l14 ?c14 ?k14 (fun _ _ _ _ _ _ us hl => match us, hl with | [_, _, _], _ => rfl), trivial⟩
      (case a0 => k_is); (case l0 => k_is); (case c0 => k_is); (case k0 => k_is); (case a1 => k_is); (case l1 => k_is); (case c1 => k_is); (case k1 => k_is); (case a2 => k_is); (case l2 => k_is); (case c2 => k_is); (case k2 => k_is); (case a3 => k_is); (case l3 => k_is); (case c3 => k_is); (case k3 => k_is); (case a4 => k_is); (case l4 => k_is); (case c4 => k_is); (case k4 => k_is); (case a5 => k_is); (case l5 => k_is); (case c5 => k_is); (case k5 => k_is); (case a6 => k_is); (case l6 => k_is); (case c6 => k_is); (case k6 => k_is); (case a7 => k_is); (case l7 => k_is); (case c7 => k_is); (case k7 => k_is); (case a8 => k_is); (case l8 => k_is); (case c8 => k_is); (case k8 => k_is); (case a9 => k_is); (case l9 => k_is); (case c9 => k_is); (case k9 => k_is); (case a10 => k_is); (case l10 => k_is); (case c10 => k_is); (case k10 => k_is); (case a11 => k_is); (case l11 => k_is); (case c11 => k_is); (case k11 => k_is); (case a12 => k_is); (case l12 => k_is); (case c12 => k_is); (case k12 => k_is); (case a13 => k_is); (case l13 => k_is); (case c13 => k_is); (case k13 => k_is); (case a14 => k_is); (case l14 => k_is); (case c14 => k_is); (case k14 => k_is)
    case B =>
      refine' ⟨?z0, ?z1, ?z2, ?z3, ?z4, ?z5, ?z6, ?z7, ?z8, ?z9, ?z10, ?z11, ?z12, ?z13, ?z14, ?z15, ?z16, ?z17, ?z18, ?z19, trivial⟩
      (case z0 => k_is); (case z1 => k_is); (case z2 => k_is); (case z3 => k_is); (case z4 => k_is); (case z5 => k_is); (case z6 => k_is); (case z7 => k_is); (case z8 => k_is); (case z9 => k_is); (case z10 => k_is); (case z11 => k_is); (case z12 => k_is); (case z13 => k_is); (case z14 => k_is); (case z15 => k_is); (case z16 => k_is); (case z17 => k_is); (case z18 => k_is); (case z19 => k_is)
    case G =>
      refine' ⟨Hg.glIn ?hwg0, Hg.glIn ?hwg1, Hg.glIn ?hwg2, Hg.glIn ?hwg3, trivial⟩
      (case hwg0 => k_is)
      (case hwg1 => k_is)
      (case hwg2 => k_is)
      (case hwg3 => k_is)
    case E =>
      refine' ⟨Hw.exIn ?hweg0 ?hweq0 ?hwek0 ?hweb0 ?hwet0, trivial⟩
      (case hweg0 => k_is); (case hweq0 => k_exc); (case hwek0 => k_is); (case hweb0 => k_is); (case hwet0 => k_is)
