import PyProof.Rows.All
import Wide.All
import OpenK.AllK
import Wide.FinOn
import HandS.ForMost
import HandS.ForExc
import HandS.Walk
import HandS.Zip
import KE.GoesMore
import HandS.ExcIs
import HandS.ExcValue
import HandS.IsInst
import PyProof.Rows.CountFlat
import HandS.Style
import HandS.TupAny
import HandS.TupSets
import HandS.SetFor
import HandS.SortInts
import HandS.Strs
import PyProof.StrBlock2
import HandS.TupMul
import HandS.TupLe
import HandS.Flow
import HandS.Deep
import HandS.Conv
import HandS.Wide
import HandS.Flt
import KE.GoesZip
import KE.KTupSum
import PyProof.MinMaxWalk
import PyProof.WalksMore
import HandS.List
import HandS.EndBits
import HandS.Call
import HandS.ExcOwn
import HandS.WordsExc
import PyProof.ReprRoads
import PyProof.CallFns
import PyProof.FitsInt
import PyProof.EqLayable
import KE.KDictZip
import KE.KDictItemsList
import HandS.ListItems
import PySem.Challenge.RW_heapward_k14_whole_squares_rise_no_more
set_option Elab.async false
set_option linter.all false
set_option maxRecDepth 100000
namespace Hx
open PySem PySem.Spec PyProof.Rows L2
open AutoSeq1 (wpAny_loadPart')
theorem made_et (t : Addr) (zs : Array Value) :
    Meets (Builtin.«enumerate.__new__» ⟨[.type "enumerate", .ref t], []⟩) (fun _ R s => s.heap.IsTuple t zs ∧
      R (.ok (.ret (.ref (s.heap.push { cls := .type "tuple_iterator", data := .fields #[.ref t, .int 0 0] }).objs.size)))
        { s with heap := (s.heap.push { cls := .type "tuple_iterator", data := .fields #[.ref t, .int 0 0] }).push { cls := .type "enumerate", data := .fields #[.none, .bool false, .ref s.heap.objs.size, rawInt 0, .none, .none] } }) :=
  .of_wp fun P w A R s hh => by
    obtain ⟨hp, g, d, tk, os⟩ := s
    obtain ⟨ht, hr⟩ := hh
    have sub := sub_enumerate
    have hT : Heap.IsTuple (Shared.heap ⟨hp, g, d, tk, os⟩) t zs := ht
    wp_walk using wpAny_pyIter_tuple hT
    refine wpAny_stack_any fun st => wpAny_pure ?_
    split
    · rename_i c _ _ _ _ _
      cases (c == Value.type "enumerate")
      · wp_walk using wpAny_pyIter_tuple hT
        exact ⟨_, rfl, hr⟩
      · wp_walk using wpAny_pyIter_tuple hT
        exact ⟨_, rfl, hr⟩
    · wp_walk using wpAny_pyIter_tuple hT
      exact ⟨_, rfl, hr⟩
section
variable {P : Program} {w : World} {A : Around} {E : Value → Shared → Prop} {s : Shared}
theorem call_et {t : Addr} {zs : Array Value} {Q : Value → Shared → Prop} (ht : s.heap.IsTuple t zs)
    (k : ∀ g, IsEnum g (s.heap.objs.size + 1) s.heap.objs.size 0 .none → g.IsTupleIter s.heap.objs.size t 0 → (∀ b o, s.heap.get? b = some o → g.get? b = some o) → Q (.ref (s.heap.objs.size + 1)) { s with heap := g }) :
    wpAny (model P w) A (call (.type "enumerate") [.ref t]) Q E s := by
  refine callType_new F.called_enumerate (by decide) (F.typeCall_enumerate_1 _) (F.newCall_enumerate_1 _) (fun obj => F.args_object_init_2 obj _) F.entry_enumerate_new (made_et t zs) ⟨ht, ?_⟩
  generalize hit : ({ cls := .type "tuple_iterator", data := .fields #[.ref t, .int 0 0] } : Obj) = it
  have sz : (s.heap.push it).objs.size = s.heap.objs.size + 1 := Heap.size_push ..
  show _ ∧ _
  rw [sz]
  generalize hen : ({ cls := .type "enumerate", data := .fields #[.none, .bool false, .ref s.heap.objs.size, rawInt 0, .none, .none] } : Obj) = en
  have e1 : ((s.heap.push it).push en).get? (s.heap.objs.size + 1) = some en := by
    have := Heap.get?_push_size (s.heap.push it) (o := en) (by subst hen; rfl)
    rwa [sz] at this
  have e2 : IsEnum ((s.heap.push it).push en) (s.heap.objs.size + 1) s.heap.objs.size 0 .none := by subst hen; exact e1
  refine ⟨⟨_, e2, rfl⟩, k _ e2 ⟨it, Heap.get?_push_of_some _ (Heap.get?_push_size _ (by subst hit; rfl)), by subst hit; rfl, by subst hit; rfl⟩ fun b o x => Heap.get?_push_of_some _ (Heap.get?_push_of_some _ x)⟩
end
def ItEt (K : PySem.W.Frag) (a : Addr) : It where
  go i H := ∃ (xs : List V) (x : V), SqT K H a xs ∧ xs[i]? = some x
  yld i H v H' := ∃ T x, v = .ref T ∧ H T = none ∧ H' = upd H T (.tup [.int (i : Nat), x]) ∧ ∀ xs, SqT K H a xs → xs[i]? = some x
  stop i H := ∃ xs : List V, SqT K H a xs ∧ i = xs.length
theorem apart {h : Heap} {a b : Addr} {zs : Array Value} {o : Obj} (ht : h.IsTuple a zs) (e : h.get? b = some o) (n : o.cls ≠ .type "tuple") : a ≠ b := fun z => by
  subst z
  obtain ⟨u, e', hc, _⟩ := ht
  rw [e] at e'
  cases e'
  exact n hc
theorem turn_et {P : Program} {w : World} {K : PySem.W.Frag} {es : List Expr} {m : Nat} {tp : Pos} (a e it : Addr) :
    Turn P w K (.Tuple es m tp) (ItEt K a) [e, it] e (fun i h => (∃ old, IsEnum h e it ((i : Nat) : Int) old) ∧ h.IsTupleIter it a i ∧ e ≠ it) where
  mem := List.mem_cons_self ..
  obj := fun i h st b hb => by
    obtain ⟨⟨old, he⟩, ⟨o, ho, _, hd⟩, _⟩ := st
    rcases List.mem_cons.mp hb with z | z
    · subst z; exact ⟨_, he, fun v q => nomatch q⟩
    · rw [List.mem_singleton.mp z]; exact ⟨o, ho, fun v q => by rw [hd] at q; cases q⟩
  keep := fun i h h' st k => ⟨st.1.imp fun old he => k e (by simp) _ he, st.2.1.at fun o q => k it (by simp) o q, st.2.2⟩
  item := by
    intro X hP hw hK hc i pins s σ H E I hf st hg
    subst hP hw hK
    obtain ⟨⟨old, he⟩, hi, hne⟩ := st
    obtain ⟨xs, x, hq, hx⟩ := hg
    obtain ⟨its, rv, p, hz⟩ := I.tuple hq
    obtain ⟨u, hu, ru⟩ := rv.get hx
    have elt : e < s.heap.objs.size := Heap.lt_size he
    obtain ⟨oi, hoi, hci, hdi⟩ := id hi
    have ilt : it < s.heap.objs.size := Heap.lt_size hoi
    have na : a ≠ it := apart p hoi (by rw [hci]; decide)
    have ne : a ≠ e := apart p he (by show Value.type "enumerate" ≠ Value.type "tuple"; decide)
    refine wpAny_pyNext_enum_itemD (Draws.tuple (A := X.A.in1) (I.ok.hd hc) it a na its.toArray) he ⟨hi, p⟩ (by have := rv.length; have := (List.getElem?_eq_some_iff.mp hu).1; simpa using this) hne (by simp [hne, Ne.symm ne]) fun y g tk hy ho st' hT hsz hk => ?_
    have yu : y = u := by
      have : its[i]? = some y := by simpa using hy
      rw [hu] at this
      exact (Option.some.inj this).symm
    subst yu
    refine ⟨_, rfl, wpAny_letOwnedTupleGo_enum (s := { s with heap := g, toks := tk + 1 }) ho fun g2 he2 sb => ?_⟩
    have hT2 : g2.get? s.heap.objs.size = some { cls := .type "tuple", data := .seq #[.int i tk, y] } := (sb.2 _ (Nat.ne_of_gt elt)).trans hT
    have new : ObjOk X.prog X.w (upd H s.heap.objs.size (.tup [.int (i : Nat), x])) g2 s.heap.objs.size (.tup [.int (i : Nat), x]) :=
      ⟨by show 2 ≤ sizeLine; decide, [.int i tk, y], .cons ⟨_, rfl⟩ (.cons ru .nil), ⟨_, hT2, rfl, _, rfl⟩⟩
    have I1 : Inv X pins σ (upd H s.heap.objs.size (.tup [.int (i : Nat), x])) { s with heap := g2, toks := tk + 1 } :=
      I.turnedNew (ch := [e, it]) (fun b ob hb q => (sb.2 b (fun z => hb (by simp [z]))).trans (hk b ob (fun z => hb (by simp [z])) (fun z => hb (by simp [z])) q)) hf (Nat.le_refl _) new
    refine ⟨.ref s.heap.objs.size, _, I1, rfl, ⟨_, x, rfl, I.hok.fresh (Nat.le_refl _), rfl, fun ys hy => by rw [I.tuple_inj hy hq]; exact hx⟩, ⟨⟨y, ?_⟩, st'.1.at fun o q => (sb.2 it (Ne.symm hne)).trans q, hne⟩, fun b hb => ?_⟩
    · rw [show ((i + 1 : Nat) : Int) = (i : Int) + 1 by omega]; exact he2
    · have lt : b < s.heap.objs.size := by
        rcases List.mem_cons.mp hb with z | z
        · rw [z]; exact elt
        · rw [List.mem_singleton.mp z]; exact ilt
      rw [upd_ne (Nat.ne_of_lt lt)]
      exact (hf b hb).1
  done := by
    intro X hP hw hK hc i pins s σ H E I hf st hg
    subst hP hw hK
    obtain ⟨⟨old, he⟩, hi, hne⟩ := st
    obtain ⟨xs, hq, hx⟩ := hg
    obtain ⟨its, rv, p, hz⟩ := I.tuple hq
    obtain ⟨f0, f1, f2, f3, f4, f5⟩ := hf it (by simp)
    obtain ⟨oi, hoi, hci, hdi⟩ := id hi
    have na : a ≠ it := apart p hoi (by rw [hci]; decide)
    have hl := rv.length
    have hn : i = its.toArray.size := by simp; omega
    subst hn
    exact wpAny_pyNext_enum_endD (Draws.tuple (A := X.A.in1) (I.ok.hd hc) it a na its.toArray) he ⟨hi, p⟩ fun g eb => ⟨rfl, I.turned (t' := s.toks) (fun b o hb q => eb b o hb q) f0 f1 f3 f4 f5⟩
  self := fun A i s Q E st h => st.1.elim fun _ he => wpAny_pyIter_enum he h
def iEnumB (K : PySem.W.Frag) (te : TE) : TI := fun σ H R => te σ H fun v H1 => (∃ a xs, v = .ref a ∧ SqL K H1 a xs ∧ R (Ite K a) H1) ∨ ∃ a xs, v = .ref a ∧ SqT K H1 a xs ∧ R (ItEt K a) H1
theorem pi_enumB {X : Cx} {e : Expr} {te : TE} {p pos tp : Pos} {es : List Expr} {m : Nat} (hg : Gl X "enumerate") (hm : X.mg "enumerate" = none) (he : PE X e te) (hs : ∀ env, starEach [e] env = [(false, eval e env)]) :
    PI X (.Tuple es m tp) (.Call (.Name "enumerate" p) [e] [] pos) (iEnumB X.K te) := by
  constructor
  intro pins s σ H R I q
  have ha : PA X [e] (tCons te tNil) := pa_cons he pa_nil (hs X.env)
  refine Call_ (ld_blt I hg hm boot_enumerate (PyProof.Rows.callWith_type1 (thn (ha.run pos pins s σ H (fun vs H1 => match vs with
    | [v] => (∃ a xs, v = .ref a ∧ SqL X.K H1 a xs ∧ R (Ite X.K a) H1) ∨ ∃ a xs, v = .ref a ∧ SqT X.K H1 a xs ∧ R (ItEt X.K a) H1
    | _ => False) I q) fun us s1 ⟨vs, H1, I1, r1, q1⟩ => ?_) (hs X.env) rfl))
  match vs, r1, q1 with
  | [], _, q1 => exact q1.elim
  | _ :: _ :: _, _, q1 => exact q1.elim
  | [v], .cons r rr, q1 =>
    cases rr
    rcases q1 with ⟨a, xs, rfl, hq, q⟩ | ⟨a, xs, rfl, hq, q⟩
    · cases r
      obtain ⟨its, rv, tt, hz⟩ := I1.list hq
      refine call_enumerate_list tt.isList fun g he hit hsz hk => wpAny_pyIter_enum he ?_
      have I2 : Inv X pins σ H1 { s1 with heap := g } := I1.kept (t' := s1.toks) hk
      refine ⟨s1.heap.objs.size + 1, [s1.heap.objs.size + 1, s1.heap.objs.size], _, _, H1, rfl, I2, turn_enum a (s1.heap.objs.size + 1) s1.heap.objs.size, ⟨⟨.none, he⟩, hit, Nat.succ_ne_self _⟩, fun b hb => ?_, q⟩
      have le : s1.heap.objs.size ≤ b := by
        rcases List.mem_cons.mp hb with z | z
        · rw [z]; exact Nat.le_add_right _ _
        · rw [List.mem_singleton.mp z]; exact Nat.le_refl _
      exact I1.fpOk le (I1.hok.fresh le)
    · cases r
      obtain ⟨its, rv, tt, hz⟩ := I1.tuple hq
      refine call_et (zs := its.toArray) tt fun g he hit hk => wpAny_pyIter_enum he ?_
      have I2 : Inv X pins σ H1 { s1 with heap := g } := I1.kept (t' := s1.toks) hk
      refine ⟨s1.heap.objs.size + 1, [s1.heap.objs.size + 1, s1.heap.objs.size], _, _, H1, rfl, I2, turn_et a (s1.heap.objs.size + 1) s1.heap.objs.size, ⟨⟨.none, he⟩, hit, Nat.succ_ne_self _⟩, fun b hb => ?_, q⟩
      have le : s1.heap.objs.size ≤ b := by
        rcases List.mem_cons.mp hb with z | z
        · rw [z]; exact Nat.le_add_right _ _
        · rw [List.mem_singleton.mp z]; exact Nat.le_refl _
      exact I1.fpOk le (I1.hok.fresh le)
end Hx
set_option Elab.async false
set_option linter.all false
set_option maxRecDepth 100000
set_option maxHeartbeats 2000000
namespace Hx
open PySem PySem.Spec PyProof.Rows L2
def XO (cls : Value) (d : Option Addr) (a : Addr) : HO := .ext fun h => ∃ (oe : Obj) (vs : Array Value), h.get? a = some oe ∧ Zc cls d oe ∧ oe.data = .fields vs
theorem xo_ok {P : Program} {w : World} {H : Hp} {h : Heap} {a : Addr} {cls : Value} {d : Option Addr} {oe : Obj} {vs : Array Value} (e : h.get? a = some oe) (z : Zc cls d oe) (q : oe.data = .fields vs) : ObjOk P w H h a (XO cls d a) :=
  ⟨⟨oe, vs, e, z, q⟩, ⟨oe, e⟩, fun _ _ ⟨o, v, q, r⟩ k => ⟨o, v, k o q, r⟩⟩
def excNames : List Str := ["HeapError", "NoNet", "NoHeaps", "NoComers", "NoMoves", "NoOffer", "NoNumber", "NoPlan", "NoPlaces", "NoWays", "NoRowOf", "NoKind", "NoPlace", "NoTie", "NoBeat", "NoWorths", "TooMany", "NoText", "NoRow"]
def isxB (n c : Str) : Bool := decide (n = c) || decide (c = ("HeapError" : Str)) || decide (c = ("ValueError" : Str))
structure XI (K : PySem.W.Frag) (n : Str) (C : Addr) : Prop where
  ex : ExcC K C
  own : ∀ c ∈ excNames, ∀ D, PySem.W.nsIn K mainGlobals c = some (some (.ref D)) → PySem.W.kitOne K (.ref C) (.ref D) = some (isxB n c)
  ve : PySem.W.kitOne K (.ref C) (.type "ValueError") = some true
  exm : ∀ c ∈ excNames, ∀ D, PySem.W.nsIn K mainGlobals c = some (some (.ref D)) → PySem.W.exmOne K (.ref C) (.ref D) = some (isxB n c)
section
variable {X : Cx} {pins : List (Addr × Obj)} {σ : L2.St} {H : Hp} {s : Shared}
theorem call_isX {a C : Addr} {u : Value} {b : Bool} {Q : Value → Shared → Prop} (I : Inv X pins σ H s) (xi : ExcC X.K C) (e : H a = some (XO (.ref C) none a)) (k : PySem.W.kitOne X.K (.ref C) u = some b) (q : ∀ tk, Q (.bool b) { s with toks := tk }) :
    wpAny (model X.prog X.w) X.A (call (.builtin "isinstance") [.ref a, u]) Q X.xe s := by
  obtain ⟨⟨oe, vs, he, hz, hv⟩, _⟩ := I.hok a _ e
  have J : PySem.W.InstAt s.heap a oe C none := by
    obtain ⟨oc, od, oda, osl⟩ := oe
    obtain ⟨h1, h2⟩ := hz
    dsimp only at h1 h2 hv
    subst h1 h2 hv
    exact ⟨he, rfl, rfl, trivial⟩
  exact PySem.W.kia_one (PySem.W.handS_kitx_exc xi.hg xi.hk xi.hs xi.hd xi.ha xi.hn xi.ht xi.hm) I.kIn J k (fun z => nomatch z) fun tk => q tk
def rIsx (K : PySem.W.Frag) : List V → Hp → VK → Prop := fun xs H Q => ∃ (x c : V) (u : Value) (b : Bool), xs = [x, c] ∧ ClsV c u ∧ (x = .non ∧ PySem.W.kitOne K (.type "NoneType") u = some b ∨ ∃ a C, x = .ref a ∧ ExcC K C ∧ H a = some (XO (.ref C) none a) ∧ PySem.W.kitOne K (.ref C) u = some b) ∧ Q (.bl b) H
theorem call_isx {X : Cx} : CallR X (.builtin "isinstance") (rIsx X.K) := by
  intro pins s σ H xs us Q I r h
  obtain ⟨x, c, u, b, rfl, k, hx, q⟩ := h
  obtain ⟨u1, u2, rfl, r1, r2⟩ := vals2 r
  have e2 := k.eq r2
  subst e2
  rcases hx with ⟨rfl, e⟩ | ⟨a, C, rfl, xi, ea, e⟩
  · cases (show u1 = Value.none from r1)
    exact PySem.W.kia_one PySem.W.kitx_none I.kIn True.intro e (fun z => nomatch z) fun tk => ⟨.bl b, H, I.tok tk, rfl, q⟩
  · cases (show u1 = Value.ref a from r1)
    exact call_isX I xi ea e fun tk => ⟨.bl b, H, I.kept (t' := tk) fun _ _ z => z, rfl, q⟩
def rCntT (K : PySem.W.Frag) : V → List V → Hp → VK → Prop := fun x xs H Q => ∃ (a : Addr) (bs : List Bool), x = V.ref a ∧ xs = [.bl true] ∧ SqL K H a (bs.map V.bl) ∧ Q (.int ((bs.countP id : Nat) : Int)) H
theorem reads_bools {h : Heap} : ∀ {bs : List Bool} {us : List Value}, Vals (bs.map V.bl) us → ∃ as, ReadsAll h us (bs.map PyData.bool) as
  | [], _, .nil => ⟨_, ReadsAll.nil⟩
  | b :: bs, _, .cons r rs => by
    obtain ⟨as, q⟩ := reads_bools (h := h) (bs := bs) rs
    cases (show _ = Value.bool b from r)
    exact ⟨_, ReadsAll.cons (Reads.bool b) q⟩
theorem cnt_bools : ∀ bs : List Bool, countIn (.bool true) (bs.map PyData.bool) = ((bs.countP id : Nat) : Int)
  | [] => rfl
  | b :: bs => by
    have ih := cnt_bools bs
    rw [List.map_cons, countIn, ih, List.countP_cons]
    cases b <;> simp [same] <;> omega
theorem mt_cntT {X : Cx} : MtR X "list.count" (rCntT X.K) := by
  intro pins s σ H x xs v us Q I rx rxs h
  obtain ⟨a, bs, rfl, rfl, hs, q⟩ := h
  cases rx
  cases rxs with
  | cons ry rt =>
    cases rt
    cases (show _ = Value.bool true from ry)
    obtain ⟨its, rv, p, hlen⟩ := I.list hs
    obtain ⟨as, ra⟩ := reads_bools (h := s.heap) rv
    refine PyProof.Rows.count_list_bools p.isList ra (List.all_eq_true.mpr fun d hd => by obtain ⟨b, _, rfl⟩ := List.mem_map.mp hd; rfl) ?_
    rw [cnt_bools]
    exact ⟨.int _, H, I.tok _, ⟨_, rfl⟩, q⟩
theorem track {a : Addr} {o : HO} (I : Inv X pins σ H s) (na : H a = none) (n0 : X.s_0.heap.get? a = none) (nL : a ≠ X.env.locals) (nC : ∀ x c, X.env.cells.lookup x = some c → c ≠ a) (nP : ∀ p ∈ X.pn ++ pins, p.1 ≠ a)
    (new : ObjOk X.prog X.w (upd H a o) s.heap a o) : Inv X pins σ (upd H a o) s := by
  have ne0 : ∀ b u, X.s_0.heap.get? b = some u → b ≠ a := fun b u e z => by rw [z, n0] at e; cases e
  have neH : ∀ {b u}, H b = some u → b ≠ a := fun {b u} e z => by rw [z, na] at e; cases e
  have kp : ∀ b u, H b = some u → upd H a o b = some u := fun b u e => by rw [upd_ne (neH e)]; exact e
  refine ⟨I.ok, I.os, I.bare, ⟨I.base.keep, I.base.slot, fun b u e n hq => ?_, I.base.there, fun b xs e => kp _ _ (I.base.tups b xs e), fun b u xs e => kp _ _ (I.base.frzs b u xs e), fun b ps e => ?_⟩, I.loc, I.cell, ?_, fun x c e => ?_, fun p hp => ?_, fun b u e => ?_, I.len⟩
  · rw [upd_ne (ne0 b u e)]; exact I.base.free b u e n hq
  · obtain ⟨m, q⟩ := I.base.tbls b ps e
    exact ⟨m, kp _ _ q⟩
  · rw [upd_ne (fun z => nL z.symm)]; exact I.free
  · rw [upd_ne (nC x c e)]; exact I.freeC x c e
  · obtain ⟨e, n, r⟩ := I.pin p hp
    exact ⟨e, by rw [upd_ne (nP p hp)]; exact n, r⟩
  · by_cases hb : b = a
    · subst hb
      rw [upd_same] at e
      cases e
      exact new
    · rw [upd_ne hb] at e
      exact (I.hok b u e).stay (fun _ _ _ q => q) (fun c q => kp _ _ q) fun c xs q => kp _ _ q
end
def wKp (K : PySem.W.Frag) (c : Value) (i : Nat) (ts : Addr → TS) (Wout : WX) (D : Ends) : WX := fun cls d σ H =>
  ∃ b, PySem.W.exmOne K cls c = some b ∧ (b = true → ∀ a, H a = none → ts a { nx := fun σ' H' => D.nx (σ'.set i none) H', rt := D.rt, bk := fun σ' H' => D.bk (σ'.set i none) H', ct := fun σ' H' => D.ct (σ'.set i none) H' } (σ.set i (some (.ref a))) (upd H a (XO cls d a))) ∧
    (b = false → Wout cls d σ H)
section
variable {X : Cx} {x n : Str} {c : Value} {i : Nat} {body suite : List Stmt} {b₀ : Stmt} {np pos pos' : Pos} {tb : WX → TS} {ts : Addr → TS} {Wout : WX}
theorem ps_try_kp (hex : X.ex = []) (hs : X.stack = X.env :: X.outer) (hf : X.env.frame = some X.env.locals) (hN : X.N.Nodup) (hi : X.N[i]? = some n) (hln : X.env.kindOf n = some .local) (hc : Names X x c) (tk : Takes X Wout)
    (hb : ∀ (W : WX) (pn : List (Addr × Obj)) (xe : Value → Shared → Prop), Takes (X.tr pn xe) W → PassesOwn (model X.prog X.w) X.A X.env xe → PSs (X.tr pn xe) body (tb W))
    (hsu : ∀ (a : Addr) (pn : List (Addr × Obj)), PSs (X.suite a pn) (b₀ :: suite) (ts a)) :
    PS X (.Try body [.ExceptHandler (some (.Name x np)) (some n) (b₀ :: suite) pos'] [] [] pos) (fun D σ H => tb (wKp X.K c i ts Wout D) D σ H) := by
  refine ⟨fun pins s σ H D I h => ?_⟩
  have ok := I.ok
  have hfr : X.A.frames = some (X.env :: X.outer) := by rw [ok.frames, hs]
  have hloc : Loc X.env.scope n := .inl hln
  refine wpAny_Try_except (wpAny_mono ((hb (wKp X.K c i ts Wout D) (X.pn ++ pins) (fun e s₁ => wpAny (model X.prog X.w) X.A (noteFrame e X.env) (fun _ s₂ => wpAny (model X.prog X.w) X.A (setFlight e none) (fun _ s₃ =>
    wpAny (model X.prog X.w) X.A (handleBy e X.env [.ExceptHandler (some (.Name x np)) (some n) (b₀ :: suite) pos']) (SP X pins D) X.xe s₃) X.xe s₂) X.xe s₁) (fun u s' xx => ?_) PassesOwn.looking).run [] s σ H D (I.toTry _) h) (fun f s1 hsp => ?_) (fun e s1 he => he))
  · obtain ⟨a, B, sI, pins', σ', H', cls, d, rfl, J', nb, up, sky, na, os, ag, b, hb1, hyes, hno⟩ := xx
    have J : Inv X pins σ' H' sI := J'.ofTry ok
    have sky' : Sky B (X.env :: X.outer) a (Zc cls d) X.env.locals s'.heap := by rw [← hs]; exact sky
    show wpAny (model X.prog X.w) X.A (noteFrame (.ref a) X.env) _ _ _
    refine Sky.land Zc.steady hfr hf sky' fun h3 fl3 up3 => ?_
    have J3 : Inv X pins σ' H' { s' with heap := h3 } := J.landed nb fl3.1 (up.trans up3) os ag
    obtain ⟨oe3, vs3, he3, hz3, hd3⟩ := fl3.there
    have nfr : a ∉ frs (X.env :: X.outer) := fun hm => by
      obtain ⟨_, o', e', hnf⟩ := fl3.2.2.1.mem hm
      rw [he3] at e'; cases e'
      exact hnf _ hd3
    have nL : a ≠ X.env.locals := fun z => nfr (List.mem_filterMap.mpr ⟨X.env, List.mem_cons_self, by rw [hf, z]⟩)
    have nS : sI.heap.get? a = none := by
      cases q : sI.heap.get? a with
      | none => rfl
      | some o =>
        have r := nb a o q (by rw [hs]; exact nfr)
        have z : B.get? a = none := fl3.2.1
        rw [z] at r; cases r
    have n0 : X.s_0.heap.get? a = none := by
      cases q : X.s_0.heap.get? a with
      | none => rfl
      | some o =>
        obtain ⟨o', z⟩ := J.base.there a o q (by rw [hex]; exact fun z => nomatch z)
        rw [nS] at z; cases z
    have nP : ∀ p ∈ X.pn ++ pins, p.1 ≠ a := fun p hp z => by
      have := (J.pin p hp).1
      rw [z, nS] at this; cases this
    have nC : ∀ x c, X.env.cells.lookup x = some c → c ≠ a := fun x c e z => by
      obtain ⟨v, o, ho, _⟩ := J.cell x c e
      rw [z, nS] at ho; cases ho
    have S3 : Inv (X.suite a (X.pn ++ pins)) [] σ' H' { s' with heap := h3 } := ⟨J3.ok.suite _ _, J3.os, J3.bare, J3.base, J3.loc, J3.cell, J3.free, J3.freeC, fun p hp => J3.pin p (by rw [List.append_nil] at hp; exact hp), J3.hok, J3.len⟩
    refine wpAny_handleBy_cons (codeAny_handlers_test ?_) (by intro q; cases q)
    have LT : PySem.W.Looks (model X.prog X.w) h3 (typeOf (.ref a)) cls := fun A Q E s k q => wpAny_typeOf_ref (k _ _ he3) (by rw [hz3.1]; exact q)
    have LM := PySem.W.exm_one (M := model X.prog X.w) (J3.kIn) LT hb1
    have test : ∀ {Q : Value → Shared → Prop} {E : Value → Shared → Prop}, Q c { s' with heap := h3 } → wpAny (model X.prog X.w) (X.A.mark (some (.ref a))) (eval (.Name x np) X.env) Q E { s' with heap := h3 } := fun {Q E} q => by
      obtain ⟨hg, hdbg, hm | ⟨hm, hv, hnn⟩⟩ := hc
      · exact ld_glob (X := X.suite a (X.pn ++ pins)) S3 hg hm q hdbg
      · exact ld_blt (X := X.suite a (X.pn ++ pins)) S3 hg hm hv q hnn hdbg
    refine test (LM.here ?_)
    cases b with
    | true =>
      refine codeAny_handlers_suite_as (HandSPX.lands_againZ fl3 fun h4 fl4 up4 => ?_)
      have J4 : Inv X pins σ' H' { s' with heap := h4 } := J.landed nb fl4.1 ((up.trans up3).trans up4) os ag
      obtain ⟨oe4, vs4, he4, hz4, hd4⟩ := fl4.there
      have J5 := track (o := XO cls d a) J4 na n0 nL nC nP (xo_ok he4 hz4 hd4)
      have S5 : Inv (X.suite a (X.pn ++ pins)) [] σ' (upd H' a (XO cls d a)) { s' with heap := h4 } := ⟨J5.ok.suite _ _, J5.os, J5.bare, J5.base, J5.loc, J5.cell, J5.free, J5.freeC, fun p hp => J5.pin p (by rw [List.append_nil] at hp; exact hp), J5.hok, J5.len⟩
      refine store_ok (X := X.suite a (X.pn ++ pins)) (v := .ref a) S5 hN hi hloc rfl (fun s5 S5 => ?_) (.inr hln)
      have un : ∀ {σ6 : L2.St} {H6 : Hp} {s6 : Shared}, Inv (X.suite a (X.pn ++ pins)) [] σ6 H6 s6 → Inv X pins σ6 H6 s6 := fun {σ6 H6 s6} S => ⟨ok, S.os, S.bare, S.base, S.loc, S.cell, S.free, S.freeC, fun p hp => S.pin p (List.mem_append_left _ hp), S.hok, S.len⟩
      refine wpAny_mono ((hsu a (X.pn ++ pins)).run [] s5 _ _ _ S5 (hyes rfl a na)) (fun f s6 hsp => ?_) (fun _ _ z => False.elim z)
      cases f with
      | next =>
        obtain ⟨σ6, H6, S6, q6⟩ := hsp
        exact gone_ok (un S6) hN hi hln fun s7 J7 => ⟨_, _, J7, q6⟩
      | brk =>
        obtain ⟨σ6, H6, S6, q6⟩ := hsp
        exact gone_ok (un S6) hN hi hln fun s7 J7 => ⟨_, _, J7, q6⟩
      | cont =>
        obtain ⟨σ6, H6, S6, q6⟩ := hsp
        exact gone_ok (un S6) hN hi hln fun s7 J7 => ⟨_, _, J7, q6⟩
      | ret u =>
        obtain ⟨v6, σ6, H6, S6, r6, q6⟩ := hsp
        exact gone_ok (un S6) hN hi hln fun s7 J7 => ⟨_, _, _, J7, r6, q6⟩
    | false =>
      show wpAny _ X.A (handleBy (.ref a) X.env []) _ _ _
      refine wpAny_handleBy_nil ?_
      obtain ⟨k1, k2, k3, oe, vs, T, oT, ts', he, hz, hd, h1, hr⟩ := id fl3
      unfold PySem.passOn
      refine wpAny_bind (wpAny_field he hd h1 ?_)
      rw [if_neg (show ¬ ((Value.ref T == Value.none) = true) from by simp)]
      have fin : wpAny (model X.prog X.w) X.A (setFlight (.ref a) X.env.frame) (fun _ s4 => wpAny (model X.prog X.w) X.A (throw (.ref a) : Sem Flow) (SP X pins D) X.xe s4) X.xe { s' with heap := h3 } := by
        rw [hf]
        refine HandSPX.setFlight_upZ fl3 fun h4 hh4 up4 => wpAny_throw (tk _ _ ?_)
        exact ⟨a, B, sI, pins, σ', H', cls, d, rfl, J, nb, (up.trans up3).trans up4, .inr (.inr (by rw [hs]; exact hh4)), na, os, ag, hno rfl⟩
      first
        | exact wpAny_bind (wpAny_pure (wpAny_bind fin))
        | exact wpAny_bind fin
  · cases f with
    | next =>
      obtain ⟨σ', H', J', q⟩ := hsp
      exact wpAny_execs_nil ⟨σ', H', J'.ofTry ok, q⟩
    | brk =>
      obtain ⟨σ', H', J', q⟩ := hsp
      exact ⟨σ', H', J'.ofTry ok, q⟩
    | cont =>
      obtain ⟨σ', H', J', q⟩ := hsp
      exact ⟨σ', H', J'.ofTry ok, q⟩
    | ret u =>
      obtain ⟨v, σ', H', J', r, q⟩ := hsp
      exact ⟨v, σ', H', J'.ofTry ok, r, q⟩
end
end Hx
set_option Elab.async false
set_option linter.all false
set_option maxRecDepth 100000
namespace Hw
open PySem PySem.Spec PyProof.Rows L2
abbrev Sig := L2.St
mutual
def Dr (K : PySem.W.Frag) (H : Hp) : PyData → V → Prop
  | .none, v => v = .non
  | .bool b, v => v = .bl b
  | .int i, v => v = .int i
  | .str x, v => v = .str x
  | .list ds, v => ∃ a xs, v = .ref a ∧ H a = some (.lst xs) ∧ DrL K H ds xs
  | .tuple ds, v => ∃ a xs, v = .ref a ∧ H a = some (.tup xs) ∧ DrL K H ds xs
  | .dict kvs, v => ∃ a, v = .ref a ∧ kvs = [] ∧ H a = some (.dK [])
def DrL (K : PySem.W.Frag) (H : Hp) : List PyData → List V → Prop
  | [], vs => vs = []
  | d :: ds, vs => ∃ v r, vs = v :: r ∧ Dr K H d v ∧ DrL K H ds r
end
def Ext (H H' : Hp) : Prop := ∀ a o, H a = some o → H' a = some o
theorem Ext.refl (H : Hp) : Ext H H := fun _ _ h => h
theorem Ext.trans {H H1 H2 : Hp} (a : Ext H H1) (b : Ext H1 H2) : Ext H H2 := fun x o h => b x o (a x o h)
theorem Ext.new {H : Hp} {p : Addr} {o : HO} (h : H p = none) : Ext H (upd H p o) := fun a u e => by
  rw [upd_ne (ne_of_none e h)]; exact e
theorem Ext.rd {H H' : Hp} {a : Addr} {u : HO} (e : Ext H H') (h : Rd H a u) : Rd H' a u := by
  rcases h with h | ⟨o, h⟩
  · exact .inl (e a _ h)
  · exact .inr ⟨o, e a _ h⟩
theorem Ext.sql {K : PySem.W.Frag} {H H' : Hp} {a : Addr} {xs : List V} (e : Ext H H') (h : SqL K H a xs) : SqL K H' a xs := h.elim (fun h => .inl (e.rd h)) .inr
mutual
theorem Dr.ext {K : PySem.W.Frag} {H H' : Hp} (e : Ext H H') : ∀ {d : PyData} {v : V}, Dr K H d v → Dr K H' d v
  | .none, _, h => h
  | .bool _, _, h => h
  | .int _, _, h => h
  | .str _, _, h => h
  | .list ds, _, h => by
    unfold Dr at h ⊢
    obtain ⟨a, xs, rfl, hs, hd⟩ := h
    exact ⟨a, xs, rfl, e _ _ hs, DrL.ext e hd⟩
  | .tuple ds, _, h => by
    unfold Dr at h ⊢
    obtain ⟨a, xs, rfl, hs, hd⟩ := h
    exact ⟨a, xs, rfl, e _ _ hs, DrL.ext e hd⟩
  | .dict _, _, h => by
    unfold Dr at h ⊢
    obtain ⟨a, rfl, e0, hr⟩ := h
    exact ⟨a, rfl, e0, e _ _ hr⟩
theorem DrL.ext {K : PySem.W.Frag} {H H' : Hp} (e : Ext H H') : ∀ {ds : List PyData} {vs : List V}, DrL K H ds vs → DrL K H' ds vs
  | [], _, h => h
  | d :: ds, _, h => by
    unfold DrL at h ⊢
    obtain ⟨v, r, rfl, h1, h2⟩ := h
    exact ⟨v, r, rfl, Dr.ext e h1, DrL.ext e h2⟩
end
theorem DrL.length {K : PySem.W.Frag} {H : Hp} : ∀ {ds : List PyData} {vs : List V}, DrL K H ds vs → vs.length = ds.length
  | [], _, h => by unfold DrL at h; rw [h]; rfl
  | d :: ds, _, h => by
    unfold DrL at h
    obtain ⟨v, r, rfl, h1, h2⟩ := h
    simp [DrL.length h2]
theorem DrL.get {K : PySem.W.Frag} {H : Hp} : ∀ {ds : List PyData} {vs : List V} {i : Nat} {d : PyData}, DrL K H ds vs → ds[i]? = some d → ∃ v, vs[i]? = some v ∧ Dr K H d v
  | [], _, _, _, _, e => by simp at e
  | d :: ds, _, 0, _, h, e => by
    unfold DrL at h
    obtain ⟨v, r, rfl, h1, h2⟩ := h
    simp at e; subst e
    exact ⟨v, rfl, h1⟩
  | d :: ds, _, i + 1, _, h, e => by
    unfold DrL at h
    obtain ⟨v, r, rfl, h1, h2⟩ := h
    obtain ⟨w, e1, e2⟩ := DrL.get (i := i) h2 (by simpa using e)
    exact ⟨w, by simpa using e1, e2⟩
theorem DrL.append {K : PySem.W.Frag} {H : Hp} : ∀ {ds es : List PyData} {vs ws : List V}, DrL K H ds vs → DrL K H es ws → DrL K H (ds ++ es) (vs ++ ws)
  | [], _, _, _, h, h' => by unfold DrL at h; rw [h]; exact h'
  | d :: ds, es, _, _, h, h' => by
    unfold DrL at h
    obtain ⟨v, r, rfl, h1, h2⟩ := h
    show DrL K H (d :: (ds ++ es)) _
    unfold DrL
    exact ⟨v, _, rfl, h1, h2.append h'⟩
theorem DrL.of_get {K : PySem.W.Frag} {H : Hp} : ∀ {ds : List PyData} {vs : List V}, vs.length = ds.length → (∀ (i : Nat) (d : PyData) (v : V), ds[i]? = some d → vs[i]? = some v → Dr K H d v) → DrL K H ds vs
  | [], vs, h, _ => by unfold DrL; simpa using h
  | d :: ds, [], h, _ => by simp at h
  | d :: ds, v :: vs, h, q => by
    unfold DrL
    exact ⟨v, vs, rfl, q 0 d v rfl rfl, DrL.of_get (by simpa using h) fun i e w h1 h2 => q (i + 1) e w (by simpa using h1) (by simpa using h2)⟩
def noDict : PyData → Bool
  | .list ds => noDictL ds
  | .tuple ds => noDictL ds
  | .dict _ => false
  | _ => true
where noDictL : List PyData → Bool
  | [] => true
  | d :: ds => noDict d && noDictL ds
def noLst : PyData → Bool
  | .list ds => noLstL ds
  | .tuple ds => noLstL ds
  | .dict kvs => kvs.isEmpty
  | _ => true
where noLstL : List PyData → Bool
  | [] => true
  | d :: ds => noLst d && noLstL ds
mutual
theorem Dr.dp {K : PySem.W.Frag} {H : Hp} : ∀ {d : PyData} {v : V}, Dr K H d v → noDict d = true → Dp K H v d
  | .none, _, h, _ => by unfold Dr at h; subst h; exact .non
  | .bool _, _, h, _ => by unfold Dr at h; subst h; exact .bl _
  | .int _, _, h, _ => by unfold Dr at h; subst h; exact .int _
  | .str _, _, h, _ => by unfold Dr at h; subst h; exact .str _
  | .list ds, _, h, n => by
    unfold Dr at h
    obtain ⟨a, xs, rfl, hs, hd⟩ := h
    exact .lst (SqL.of hs) (DrL.dp hd (by unfold noDict at n; exact n))
  | .tuple ds, _, h, n => by
    unfold Dr at h
    obtain ⟨a, xs, rfl, hs, hd⟩ := h
    exact .tup (SqT.of hs) (DrL.dp hd (by unfold noDict at n; exact n))
  | .dict _, _, h, n => by unfold noDict at n; cases n
theorem DrL.dp {K : PySem.W.Frag} {H : Hp} : ∀ {ds : List PyData} {vs : List V}, DrL K H ds vs → noDict.noDictL ds = true → DpAll K H vs ds
  | [], _, h, _ => by unfold DrL at h; subst h; exact .nil
  | d :: ds, _, h, n => by
    unfold DrL at h
    obtain ⟨v, r, rfl, h1, h2⟩ := h
    unfold noDict.noDictL at n
    rw [Bool.and_eq_true] at n
    exact .cons (Dr.dp h1 n.1) (DrL.dp h2 n.2)
end
inductive Tr where
  | c (d : PyData)
  | l (xs : List Tr)
  | t (xs : List Tr)
  /-- the script -/
  | s (ns : List Int)
  | gone
  /-- an owned dict: tuples of ints, ints -/
  | d (kvs : List (List Int × Int))
  /-- an exception that was caught, by its class -/
  | x (n : Str)
abbrev dtK (kvs : List (List Int × Int)) : List (List Key × V) := kvs.map fun q => (q.1.map Sum.inl, V.int q.2)
abbrev Fp := Addr → Nat
def mn (H : Hp) (f : Fp) : Hp := fun a => if f a = 0 then H a else none
theorem mn_some {H : Hp} {f : Fp} {a : Addr} {o : HO} (h : mn H f a = some o) : f a = 0 ∧ H a = some o := by
  unfold mn at h
  split at h
  · exact ⟨by assumption, h⟩
  · cases h
theorem mn_of {H : Hp} {f : Fp} {a : Addr} {o : HO} (h0 : f a = 0) (h : H a = some o) : mn H f a = some o := by
  unfold mn; rw [if_pos h0]; exact h
theorem mn_ext (H : Hp) (f : Fp) : Ext (mn H f) H := fun _ _ h => (mn_some h).2
theorem mn_le {H : Hp} {f g : Fp} (h : ∀ a, g a ≤ f a) : Ext (mn H f) (mn H g) := fun a o e => by
  obtain ⟨h0, e⟩ := mn_some e
  exact mn_of (by have := h a; omega) e
def one (p : Addr) : Fp := fun a => if a = p then 1 else 0
theorem one_self {p : Addr} : one p p = 1 := if_pos rfl
theorem one_ne {p a : Addr} (h : a ≠ p) : one p a = 0 := if_neg h
mutual
def Rep (K : PySem.W.Frag) (H : Hp) (f : Fp) : Tr → V → Fp → Prop
  | .c d, v, _ => Dr K (mn H f) d v
  | .l xs, v, g => ∃ p vs g', v = .ref p ∧ H p = some (.lst vs) ∧ RepL K H f xs vs g' ∧ ∀ a, one p a + g' a ≤ g a
  | .t xs, v, g => ∃ p vs, v = .ref p ∧ mn H f p = some (.tup vs) ∧ RepL K H f xs vs g
  | .s ns, v, _ => ∃ a, v = .ref a ∧ SqL K (mn H f) a (ns.map V.int)
  | .gone, _, _ => True
  | .d kvs, v, g => ∃ p, v = .ref p ∧ H p = some (.dT (dtK kvs)) ∧ ∀ a, one p a ≤ g a
  | .x n, v, _ => ∃ a C, v = .ref a ∧ Hx.XI K n C ∧ mn H f a = some (Hx.XO (.ref C) none a)
def RepL (K : PySem.W.Frag) (H : Hp) (f : Fp) : List Tr → List V → Fp → Prop
  | [], vs, _ => vs = []
  | x :: xs, vs, g => ∃ v r g1 g2, vs = v :: r ∧ Rep K H f x v g1 ∧ RepL K H f xs r g2 ∧ ∀ a, g1 a + g2 a ≤ g a
end
def Stp (H : Hp) (f pr : Fp) (H' : Hp) (f' : Fp) : Prop :=
  (∀ a o, H a = some o → f a = 0 → H' a = some o ∧ f' a = 0) ∧ ∀ a o, 1 ≤ pr a → H a = some o → H' a = some o
theorem Stp.refl {H : Hp} {f pr : Fp} : Stp H f pr H f := ⟨fun _ _ h h0 => ⟨h, h0⟩, fun _ _ _ h => h⟩
theorem Stp.trans {H H1 H2 : Hp} {f f1 f2 pr pr' : Fp} (a : Stp H f pr H1 f1) (b : Stp H1 f1 pr' H2 f2) (h : ∀ a, pr a ≤ pr' a) : Stp H f pr H2 f2 :=
  ⟨fun x o e e0 => let ⟨h1, h2⟩ := a.1 x o e e0; b.1 x o h1 h2, fun x o hp e => b.2 x o (Nat.le_trans hp (h x)) (a.2 x o hp e)⟩
theorem Stp.weak {H H1 : Hp} {f f1 pr pr' : Fp} (a : Stp H f pr' H1 f1) (h : ∀ a, pr a ≤ pr' a) : Stp H f pr H1 f1 := ⟨a.1, fun x o hp e => a.2 x o (Nat.le_trans hp (h x)) e⟩
theorem Stp.ext {H H1 : Hp} {f f1 pr : Fp} (a : Stp H f pr H1 f1) : Ext (mn H f) (mn H1 f1) := fun x o e => by
  obtain ⟨h0, e⟩ := mn_some e
  obtain ⟨h1, h2⟩ := a.1 x o e h0
  exact mn_of h2 h1
section
variable {K : PySem.W.Frag} {H H' : Hp} {f f' pr : Fp}
mutual
theorem Rep.mono : ∀ {x : Tr} {v : V} {g g' : Fp}, Rep K H f x v g → (∀ a, g a ≤ g' a) → Rep K H f x v g'
  | .c _, _, _, _, h, _ => h
  | .gone, _, _, _, _, _ => trivial
  | .d kvs, v, g, g', h, m => by
    unfold Rep at h ⊢
    obtain ⟨p, rfl, e, l⟩ := h
    exact ⟨p, rfl, e, fun a => Nat.le_trans (l a) (m a)⟩
  | .s _, _, _, _, h, _ => h
  | .x _, _, _, _, h, _ => h
  | .l xs, v, g, g', h, m => by
    unfold Rep at h ⊢
    obtain ⟨p, vs, g0, rfl, e, h1, h2⟩ := h
    exact ⟨p, vs, g0, rfl, e, h1, fun a => Nat.le_trans (h2 a) (m a)⟩
  | .t xs, v, g, g', h, m => by
    unfold Rep at h ⊢
    obtain ⟨p, vs, rfl, e, h1⟩ := h
    exact ⟨p, vs, rfl, e, RepL.mono h1 m⟩
theorem RepL.mono : ∀ {xs : List Tr} {vs : List V} {g g' : Fp}, RepL K H f xs vs g → (∀ a, g a ≤ g' a) → RepL K H f xs vs g'
  | [], _, _, _, h, _ => h
  | x :: xs, vs, g, g', h, m => by
    unfold RepL at h ⊢
    obtain ⟨v, r, g1, g2, rfl, h1, h2, h3⟩ := h
    exact ⟨v, r, g1, g2, rfl, h1, h2, fun a => Nat.le_trans (h3 a) (m a)⟩
end
theorem Rep.stp (s : Stp H f pr H' f') : (∀ {x : Tr} {v : V} {g : Fp}, Rep K H f x v g → (∀ a, g a ≤ pr a) → Rep K H' f' x v g) := by
  intro x
  exact Tr.rec (motive_1 := fun x => ∀ {v : V} {g : Fp}, Rep K H f x v g → (∀ a, g a ≤ pr a) → Rep K H' f' x v g)
    (motive_2 := fun xs => ∀ {vs : List V} {g : Fp}, RepL K H f xs vs g → (∀ a, g a ≤ pr a) → RepL K H' f' xs vs g)
    (fun d v g h _ => by unfold Rep at h ⊢; exact Dr.ext s.ext h)
    (fun xs ih v g h m => by
      unfold Rep at h ⊢
      obtain ⟨p, vs, g0, rfl, e, h1, h2⟩ := h
      have hp := h2 p
      rw [one_self] at hp
      exact ⟨p, vs, g0, rfl, s.2 p _ (by have := m p; omega) e, ih h1 fun a => by have := h2 a; have := m a; omega, h2⟩)
    (fun xs ih v g h m => by
      unfold Rep at h ⊢
      obtain ⟨p, vs, rfl, e, h1⟩ := h
      exact ⟨p, vs, rfl, s.ext p _ e, ih h1 m⟩)
    (fun ns v g h _ => by
      unfold Rep at h ⊢
      obtain ⟨a, e, h⟩ := h
      exact ⟨a, e, s.ext.sql h⟩)
    (fun _ _ => trivial)
    (fun kvs v g h m => by
      unfold Rep at h ⊢
      obtain ⟨p, rfl, e, l⟩ := h
      have hp := l p
      rw [one_self] at hp
      exact ⟨p, rfl, s.2 p _ (by have := m p; omega) e, l⟩)
    (fun n v g h _ => by
      unfold Rep at h ⊢
      obtain ⟨a, C, e, xi, h⟩ := h
      exact ⟨a, C, e, xi, s.ext a _ h⟩)
    (fun h _ => h)
    (fun x xs ih1 ih2 vs g h m => by
      unfold RepL at h ⊢
      obtain ⟨v, r, g1, g2, rfl, h1, h2, h3⟩ := h
      exact ⟨v, r, g1, g2, rfl, ih1 h1 fun a => by have := h3 a; have := m a; omega, ih2 h2 fun a => by have := h3 a; have := m a; omega, h3⟩) x
theorem RepL.stp (s : Stp H f pr H' f') : ∀ {xs : List Tr} {vs : List V} {g : Fp}, RepL K H f xs vs g → (∀ a, g a ≤ pr a) → RepL K H' f' xs vs g
  | [], _, _, h, _ => h
  | x :: xs, vs, g, h, m => by
    unfold RepL at h ⊢
    obtain ⟨v, r, g1, g2, rfl, h1, h2, h3⟩ := h
    exact ⟨v, r, g1, g2, rfl, Rep.stp s h1 fun a => by have := h3 a; have := m a; omega, RepL.stp s h2 fun a => by have := h3 a; have := m a; omega, h3⟩
end
mutual
def frz : Tr → Option PyData
  | .c d => some d
  | .l xs => (frzL xs).map PyData.list
  | .t xs => (frzL xs).map PyData.tuple
  | .s _ => none
  | .gone => none
  | .d _ => none
  | .x _ => none
def frzL : List Tr → Option (List PyData)
  | [] => some []
  | x :: xs => match frz x with
    | some d => (frzL xs).map (d :: ·)
    | none => none
end
theorem Rep.frz {K : PySem.W.Frag} {H : Hp} {f f' : Fp} (hf : ∀ a, f' a ≤ f a) : ∀ {x : Tr} {v : V} {g : Fp} {d : PyData}, Rep K H f x v g → Hw.frz x = some d → (∀ a, g a + f' a ≤ 1) → Dr K (mn H f') d v := by
  intro x
  exact Tr.rec (motive_1 := fun x => ∀ {v : V} {g : Fp} {d : PyData}, Rep K H f x v g → Hw.frz x = some d → (∀ a, g a + f' a ≤ 1) → Dr K (mn H f') d v)
    (motive_2 := fun xs => ∀ {vs : List V} {g : Fp} {ds : List PyData}, RepL K H f xs vs g → Hw.frzL xs = some ds → (∀ a, g a + f' a ≤ 1) → DrL K (mn H f') ds vs)
    (fun d v g d' h e _ => by
      unfold Hw.frz at e; cases e
      unfold Rep at h
      exact Dr.ext (mn_le hf) h)
    (fun xs ih v g d h e m => by
      unfold Hw.frz at e
      obtain ⟨ds, e1, e2⟩ := Option.map_eq_some_iff.mp e
      subst e2
      unfold Rep at h
      obtain ⟨p, vs, g0, rfl, e0, h1, h2⟩ := h
      have hp := h2 p
      rw [one_self] at hp
      unfold Dr
      exact ⟨p, vs, rfl, mn_of (by have := m p; omega) e0, ih h1 e1 fun a => by have := h2 a; have := m a; omega⟩)
    (fun xs ih v g d h e m => by
      unfold Hw.frz at e
      obtain ⟨ds, e1, e2⟩ := Option.map_eq_some_iff.mp e
      subst e2
      unfold Rep at h
      obtain ⟨p, vs, rfl, e0, h1⟩ := h
      unfold Dr
      exact ⟨p, vs, rfl, mn_le hf _ _ e0, ih h1 e1 m⟩)
    (fun _ _ _ _ _ e => by unfold Hw.frz at e; cases e)
    (fun _ e => by unfold Hw.frz at e; cases e)
    (fun _ _ _ _ _ e => by unfold Hw.frz at e; cases e)
    (fun _ _ _ _ _ e => by unfold Hw.frz at e; cases e)
    (fun h e _ => by unfold Hw.frzL at e; cases e; unfold RepL at h; unfold DrL; exact h)
    (fun x xs ih1 ih2 vs g ds h e m => by
      unfold RepL at h
      obtain ⟨v, r, g1, g2, rfl, h1, h2, h3⟩ := h
      unfold Hw.frzL at e
      cases q : Hw.frz x with
      | none => rw [q] at e; cases e
      | some d =>
        rw [q] at e
        obtain ⟨es, e1, e2⟩ := Option.map_eq_some_iff.mp e
        subst e2
        unfold DrL
        exact ⟨v, r, rfl, ih1 h1 q fun a => by have := h3 a; have := m a; omega, ih2 h2 e1 fun a => by have := h3 a; have := m a; omega⟩) x
theorem Rep.see {K : PySem.W.Frag} {H : Hp} {f : Fp} : ∀ {x : Tr} {v : V} {g : Fp} {d : PyData}, Rep K H f x v g → Hw.frz x = some d → Dr K H d v := by
  intro x
  exact Tr.rec (motive_1 := fun x => ∀ {v : V} {g : Fp} {d : PyData}, Rep K H f x v g → Hw.frz x = some d → Dr K H d v)
    (motive_2 := fun xs => ∀ {vs : List V} {g : Fp} {ds : List PyData}, RepL K H f xs vs g → Hw.frzL xs = some ds → DrL K H ds vs)
    (fun d v g d' h e => by
      unfold Hw.frz at e; cases e
      unfold Rep at h
      exact Dr.ext (mn_ext H f) h)
    (fun xs ih v g d h e => by
      unfold Hw.frz at e
      obtain ⟨ds, e1, e2⟩ := Option.map_eq_some_iff.mp e
      subst e2
      unfold Rep at h
      obtain ⟨p, vs, g0, rfl, e0, h1, h2⟩ := h
      unfold Dr
      exact ⟨p, vs, rfl, e0, ih h1 e1⟩)
    (fun xs ih v g d h e => by
      unfold Hw.frz at e
      obtain ⟨ds, e1, e2⟩ := Option.map_eq_some_iff.mp e
      subst e2
      unfold Rep at h
      obtain ⟨p, vs, rfl, e0, h1⟩ := h
      unfold Dr
      exact ⟨p, vs, rfl, mn_ext H f _ _ e0, ih h1 e1⟩)
    (fun _ _ _ _ _ e => by unfold Hw.frz at e; cases e)
    (fun _ e => by unfold Hw.frz at e; cases e)
    (fun _ _ _ _ _ e => by unfold Hw.frz at e; cases e)
    (fun _ _ _ _ _ e => by unfold Hw.frz at e; cases e)
    (fun h e => by unfold Hw.frzL at e; cases e; unfold RepL at h; unfold DrL; exact h)
    (fun x xs ih1 ih2 vs g ds h e => by
      unfold RepL at h
      obtain ⟨v, r, g1, g2, rfl, h1, h2, h3⟩ := h
      unfold Hw.frzL at e
      cases q : Hw.frz x with
      | none => rw [q] at e; cases e
      | some d =>
        rw [q] at e
        obtain ⟨es, e1, e2⟩ := Option.map_eq_some_iff.mp e
        subst e2
        unfold DrL
        exact ⟨v, r, rfl, ih1 h1 q, ih2 h2 e1⟩) x
def RepO (K : PySem.W.Frag) (H : Hp) (f : Fp) : Tr → Option V → Fp → Prop
  | .gone, _, _ => True
  | x, o, g => ∃ v, o = some v ∧ Rep K H f x v g
theorem RepO.mk {K : PySem.W.Frag} {H : Hp} {f g : Fp} {x : Tr} {v : V} (h : Rep K H f x v g) : RepO K H f x (some v) g := by
  cases x <;> first | trivial | exact ⟨v, rfl, h⟩
theorem RepO.get {K : PySem.W.Frag} {H : Hp} {f g : Fp} {x : Tr} {o : Option V} (h : RepO K H f x o g) (n : x ≠ .gone) : ∃ v, o = some v ∧ Rep K H f x v g := by
  cases x <;> first | exact absurd rfl n | exact h
def RepS (K : PySem.W.Frag) (H : Hp) (f : Fp) : List Tr → Sig → Fp → Prop
  | [], σ, _ => σ = []
  | x :: xs, σ, g => ∃ o r g1 g2, σ = o :: r ∧ RepO K H f x o g1 ∧ RepS K H f xs r g2 ∧ ∀ a, g1 a + g2 a ≤ g a
section
variable {K : PySem.W.Frag} {H H' : Hp} {f f' pr : Fp}
theorem RepO.stp (s : Stp H f pr H' f') {x : Tr} {o : Option V} {g : Fp} (h : RepO K H f x o g) (m : ∀ a, g a ≤ pr a) : RepO K H' f' x o g := by
  by_cases n : x = .gone
  · subst n; trivial
  · obtain ⟨v, e, r⟩ := h.get n
    subst e
    exact .mk (r.stp s m)
theorem RepO.mono {x : Tr} {o : Option V} {g g' : Fp} (h : RepO K H f x o g) (m : ∀ a, g a ≤ g' a) : RepO K H f x o g' := by
  by_cases n : x = .gone
  · subst n; trivial
  · obtain ⟨v, e, r⟩ := h.get n
    subst e
    exact .mk (r.mono m)
theorem RepS.stp (s : Stp H f pr H' f') : ∀ {xs : List Tr} {σ : Sig} {g : Fp}, RepS K H f xs σ g → (∀ a, g a ≤ pr a) → RepS K H' f' xs σ g
  | [], _, _, h, _ => h
  | x :: xs, _, _, h, m => by
    obtain ⟨o, r, g1, g2, rfl, h1, h2, h3⟩ := h
    exact ⟨o, r, g1, g2, rfl, h1.stp s fun a => by have := h3 a; have := m a; omega, RepS.stp s h2 fun a => by have := h3 a; have := m a; omega, h3⟩
theorem RepS.mono : ∀ {xs : List Tr} {σ : Sig} {g g' : Fp}, RepS K H f xs σ g → (∀ a, g a ≤ g' a) → RepS K H f xs σ g'
  | [], _, _, _, h, _ => h
  | x :: xs, _, _, _, h, m => by
    obtain ⟨o, r, g1, g2, rfl, h1, h2, h3⟩ := h
    exact ⟨o, r, g1, g2, rfl, h1, h2, fun a => Nat.le_trans (h3 a) (m a)⟩
theorem RepS.length : ∀ {xs : List Tr} {σ : Sig} {g : Fp}, RepS K H f xs σ g → σ.length = xs.length
  | [], _, _, h => by unfold RepS at h; rw [h]; rfl
  | x :: xs, _, _, h => by
    obtain ⟨o, r, g1, g2, rfl, h1, h2, h3⟩ := h
    simp [RepS.length h2]
theorem RepS.take : ∀ {xs : List Tr} {σ : Sig} {g : Fp} {i : Nat} {x : Tr}, RepS K H f xs σ g → xs[i]? = some x →
    ∃ o g1 g2, σ[i]? = some o ∧ RepO K H f x o g1 ∧ RepS K H f (xs.set i .gone) σ g2 ∧ ∀ a, g1 a + g2 a ≤ g a
  | [], _, _, _, _, _, e => by simp at e
  | x :: xs, _, _, 0, y, h, e => by
    obtain ⟨o, r, g1, g2, rfl, h1, h2, h3⟩ := h
    simp at e; subst e
    exact ⟨o, g1, g2, rfl, h1, ⟨o, r, fun _ => 0, g2, rfl, trivial, h2, fun a => by (try dsimp only); omega⟩, h3⟩
  | x :: xs, _, _, i + 1, y, h, e => by
    obtain ⟨o, r, g1, g2, rfl, h1, h2, h3⟩ := h
    obtain ⟨o', k1, k2, e1, q1, q2, q3⟩ := RepS.take (i := i) h2 (by simpa using e)
    exact ⟨o', k1, fun a => g1 a + k2 a, by simpa using e1, q1, ⟨o, r, g1, k2, rfl, h1, q2, fun a => by (try dsimp only); omega⟩, fun a => by have := h3 a; have := q3 a; (try dsimp only); omega⟩
theorem RepS.put : ∀ {xs : List Tr} {σ : Sig} {g g' : Fp} {i : Nat} {x : Tr} {o : Option V}, RepS K H f xs σ g → xs[i]? = some .gone → σ[i]? = some o → RepO K H f x o g' →
    RepS K H f (xs.set i x) σ (fun a => g' a + g a)
  | [], _, _, _, _, _, _, _, e, _, _ => by simp at e
  | x :: xs, _, _, g', 0, y, o', h, e, e2, q => by
    obtain ⟨o, r, g1, g2, rfl, h1, h2, h3⟩ := h
    simp at e2; subst e2
    exact ⟨o, r, g', g2, rfl, q, h2, fun a => by have := h3 a; (try dsimp only); omega⟩
  | x :: xs, _, _, g', i + 1, y, o', h, e, e2, q => by
    obtain ⟨o, r, g1, g2, rfl, h1, h2, h3⟩ := h
    have := RepS.put (i := i) h2 (by simpa using e) (by simpa using e2) q
    exact ⟨o, r, g1, _, rfl, h1, this, fun a => by have := h3 a; show g1 a + (g' a + g2 a) ≤ g' a + _; omega⟩
theorem RepS.store : ∀ {xs : List Tr} {σ : Sig} {g g' : Fp} {i : Nat} {x : Tr} {o : Option V}, RepS K H f xs σ g → RepO K H f x o g' →
    RepS K H f (xs.set i x) (σ.set i o) (fun a => g' a + g a)
  | [], _, _, _, _, _, _, h, _ => by unfold RepS at h; subst h; simp [RepS]
  | x :: xs, _, _, g', 0, y, o', h, q => by
    obtain ⟨o, r, g1, g2, rfl, h1, h2, h3⟩ := h
    exact ⟨o', r, g', g2, rfl, q, h2, fun a => by have := h3 a; (try dsimp only); omega⟩
  | x :: xs, _, _, g', i + 1, y, o', h, q => by
    obtain ⟨o, r, g1, g2, rfl, h1, h2, h3⟩ := h
    have := RepS.store (i := i) h2 q
    exact ⟨o, r.set i o', g1, _, rfl, h1, this, fun a => by have := h3 a; show g1 a + (g' a + g2 a) ≤ g' a + _; omega⟩
end
def StA (K : PySem.W.Frag) (Γ : List Tr) (σ : Sig) (H : Hp) (f pr : Fp) (G : Fp → Prop) : Prop :=
  (∀ a, f a ≤ 1) ∧ (∀ a, 1 ≤ f a → ∃ o, H a = some o) ∧ ∃ g ga, RepS K H f Γ σ g ∧ G ga ∧ ∀ a, ga a + (g a + pr a) ≤ f a
abbrev St1 (K : PySem.W.Frag) (Γ : List Tr) (σ : Sig) (H : Hp) (f pr : Fp) (v : V) (t : Tr) : Prop := StA K Γ σ H f pr fun g => Rep K H f t v g
abbrev St0 (K : PySem.W.Frag) (Γ : List Tr) (σ : Sig) (H : Hp) (f pr : Fp) : Prop := StA K Γ σ H f pr fun _ => True
end Hw
set_option Elab.async false
set_option linter.all false
set_option maxRecDepth 100000
namespace Hx
open PySem PySem.Spec PyProof.Rows L2 HT
theorem adj_rev (n : Nat) : Builtin.Slice.sliceAdjust none none (-1) (n : Int) = ((n : Int) - 1, -1) := by
  unfold Builtin.Slice.sliceAdjust
  simp
theorem pl_rev (n : Nat) : Builtin.Slice.slicePlaces ((n : Int) - 1) (-1) (-1) = n := by
  unfold Builtin.Slice.slicePlaces
  have h1 : ¬ ((-1 : Int) > 0) := by omega
  simp only [h1, if_false]
  by_cases h : n = 0
  · subst h; rfl
  · rw [if_pos (by omega)]
    have e : ((n : Int) - 1 - -1 - 1) / (- -1) = (n : Int) - 1 := by
      rw [show (- -1 : Int) = 1 by rfl, Int.ediv_one]; omega
    rw [e]; omega
section
variable {prog : Program} {w : World} {A : Around} {E : Value → Shared → Prop} {s : Shared}
theorem applied_rev {sl : Addr} {vl vu vs : Value} {n : Nat} {Q : Int × Int × Nat → Shared → Prop} (hs : s.heap.IsSliceOf sl vl vu vs) (pl : IsPart vl none) (pu : IsPart vu none) (ps : IsPart vs (some (-1)))
    (h : Q ((n : Int) - 1, -1, n) s) : wpAny (model prog w) A (Builtin.Slice.sliceApplied (.ref sl) (pure (n : Int))) Q E s := by
  obtain ⟨os, hos, hcs, hds⟩ := id hs
  unfold Builtin.Slice.sliceApplied Builtin.Slice.sliceFields
  refine wpAny_bind (wpAny_bind (wpAny_field hos hds (x := vl) rfl (wpAny_bind (wpAny_field hos hds (x := vu) rfl (wpAny_bind (wpAny_field hos hds (x := vs) rfl (wpAny_pure ?_)))))))
  refine wpAny_bind (slicePart_ ps ?_)
  show wpAny _ _ (if ((-1 : Int) == 0) = true then _ else _) _ _ s
  rw [if_neg (by decide)]
  refine wpAny_bind (slicePart_ pl (wpAny_bind (slicePart_ pu (wpAny_bind (wpAny_pure ?_)))))
  show wpAny _ _ (match Builtin.Slice.sliceAdjust none none (-1) (n : Int) with | (lo, hi) => pure (lo, (-1 : Int), Builtin.Slice.slicePlaces lo hi (-1))) _ _ s
  rw [adj_rev n]
  show wpAny _ _ (pure ((n : Int) - 1, (-1 : Int), Builtin.Slice.slicePlaces ((n : Int) - 1) (-1) (-1))) _ _ s
  rw [pl_rev]
  exact wpAny_pure h
theorem fm_congr {α β : Type} {f g : α → Option β} : ∀ {l : List α}, (∀ x ∈ l, f x = g x) → l.filterMap f = l.filterMap g
  | [], _ => rfl
  | x :: l, h => by
    rw [List.filterMap_cons, List.filterMap_cons, h x List.mem_cons_self, fm_congr fun y hy => h y (List.mem_cons_of_mem _ hy)]
theorem pick_rev (xs : Array Value) : ((List.range xs.size).filterMap fun (m : Nat) => xs[(((xs.size : Int) - 1) + (m : Int) * -1).toNat]?).toArray = xs.toList.reverse.toArray := by
  congr 1
  have e : ∀ m ∈ List.range xs.size, xs[(((xs.size : Int) - 1) + (m : Int) * -1).toNat]? = xs.toList.reverse[m]? := by
    intro m hm
    have hm := List.mem_range.mp hm
    rw [List.getElem?_reverse (by simpa using hm), ← Array.getElem?_toList]
    congr 1
    simp
    omega
  rw [fm_congr e]
  apply List.ext_getElem?
  intro i
  have key : ∀ (l : List Value), (List.range l.length).filterMap (fun m => l[m]?) = l := by
    intro l
    induction l with
    | nil => rfl
    | cons a l ih =>
      rw [List.length_cons, List.range_succ_eq_map, List.filterMap_cons]
      simp only [List.getElem?_cons_zero, List.filterMap_map]
      congr 1
  have := key xs.toList.reverse
  rw [List.length_reverse] at this
  have l : xs.toList.length = xs.size := rfl
  rw [l] at this
  rw [this]
theorem getItem_tuple_rev {t sl : Addr} {items : Array Value} {vl vu vs : Value} {Q : Value → Shared → Prop} (ht : IsTup s.heap t items) (hs : s.heap.IsSliceOf sl vl vu vs) (pl : IsPart vl none) (pu : IsPart vu none) (ps : IsPart vs (some (-1)))
    (h : Q (.ref s.heap.objs.size) { s with heap := s.heap.push { cls := .type "tuple", data := .seq items.toList.reverse.toArray } })
    (hsz : items.size ≤ sizeLine) : wpAny (model prog w) A (getItem (.ref t) (.ref sl)) Q E s := by
  have htake : sizeOk (.seq items.toList.reverse.toArray) := by
    show items.toList.reverse.toArray.size ≤ sizeLine
    rw [List.size_toArray, List.length_reverse, Array.length_toList]
    exact hsz
  obtain ⟨os, hos, hcs, hds⟩ := id hs
  have hTs : s.TypeIs (.ref sl) "slice" := ⟨os, hos, hcs⟩
  unfold getItem
  try with_reducible refine wpAny_holding ?_
  first | refine wpAny_bind (wpAny_pure ?_) | skip
  refine wpAny_bind (wpAny_sequenceKey ht.typeIs (by decide) ?_)
  refine wpAny_bind (wpAny_callSpecial?_slot (name := Str.ofString "__getitem__") ht.typeIs PyProof.Rows.slot_tuple_getitem
    (wpAny_call_entry PyProof.Rows.slot_tuple_getitem ht.typeIs entry_tuple_getitem ?_ (args_tuple_getitem _ _)))
  show wpAny _ _ (Builtin.Tuple.tupleItemsOf (.ref t) >>= _) _ _ s
  refine wpAny_bind (tupleItemsOf_ ht ?_)
  refine wpAny_bind (wpAny_typeOf hTs ?_)
  rw [if_pos (by decide)]
  refine wpAny_bind (applied_rev (n := items.size) hs pl pu ps ?_)
  have hno : ¬ ((((items.size : Int) - 1) == 0 && (-1 : Int) == 1 && items.size == items.size) = true) := by
    intro q
    rw [Bool.and_eq_true, Bool.and_eq_true] at q
    exact absurd q.1.2 (by decide)
  show wpAny _ _ (if (((items.size : Int) - 1) == 0 && (-1 : Int) == 1 && items.size == items.size) = true then _ else _) _ _ s
  rw [if_neg hno, pick_rev]
  first
    | exact wpAny_bind (m := Builtin.Tuple.tupleExact _) (wpAny_newObj_type (wpAny_pure ⟨_, rfl, wpAny_pure h⟩) htake)
    | exact wpAny_bind (m := Builtin.Tuple.tupleExact _) (wpAny_newObj_type (wpAny_bind (wpAny_pure (wpAny_pure ⟨_, rfl, wpAny_pure h⟩))) htake)
    | exact wpAny_bind (wpAny_bind (m := Builtin.Tuple.tupleExact _) (wpAny_newObj_type (wpAny_pure (wpAny_pure ⟨_, rfl, wpAny_pure h⟩)) htake))
    | exact wpAny_bind (wpAny_bind (m := Builtin.Tuple.tupleExact _) (wpAny_newObj_type (wpAny_pure ⟨_, rfl, wpAny_pure h⟩) htake))
end
section
variable {X : Cx}
def rRevS (K : PySem.W.Frag) (x : V) (H1 : Hp) (Q : VK) : Prop := (∃ a xs, x = .ref a ∧ SqL K H1 a xs ∧ ∀ p, H1 p = none → Q (.ref p) (upd H1 p (.lst xs.reverse))) ∨ ∃ a xs, x = .ref a ∧ SqT K H1 a xs ∧ ∀ p, H1 p = none → Q (.ref p) (upd H1 p (.tup xs.reverse))
theorem pe_revS {e : Expr} {te : TE} {k : Nat} {p1 p2 p3 pos : Pos} (he : PE X e te) : PE X (.Subscript e (.Slice none none (some (.UnaryOp .USub (.Constant (.int 1) k p1) p2)) p3) pos) (fun σ H Q => te σ H fun x H1 => rRevS X.K x H1 Q) := by
  refine ⟨fun pins s σ H Q I h => ?_⟩
  refine Subscript_ (thn (he.run pins s σ H _ I h) fun v s1 ⟨x, H1, I1, r1, q1⟩ => ?_)
  have hst : PO X (some (.UnaryOp .USub (.Constant (.int 1) k p1) p2)) (tPart (tUn (rU fun i => .int (-i)) (tC (.int 1)))) := po_some (pe_un un_neg pe_int)
  refine wpAny_Slice (thn (po_none.run pins s1 σ H1 (fun o H2 => o = none ∧ H2 = H1) I1 ⟨rfl, rfl⟩) fun vl s2 ⟨l, H2, I2, pl, el, e2⟩ => ?_)
  subst el e2
  refine thn (po_none.run pins s2 σ H2 (fun o H3 => o = none ∧ H3 = H2) I2 ⟨rfl, rfl⟩) fun vu s3 ⟨u, H3, I3, pu, eu, e3⟩ => ?_
  subst eu e3
  refine thn (hst.run pins s3 σ H3 (fun o H4 => o = some (-1) ∧ H4 = H3) I3 ⟨1, rfl, -1, rfl, rfl, rfl⟩) fun vs s4 ⟨o, H4, I4, ps, eo, e4⟩ => ?_
  subst eo e4
  have I5 : Inv X pins σ H4 { s4 with heap := s4.heap.push { cls := .type "slice", data := .fields #[vl, vu, vs] } } := I4.kept (t' := s4.toks) fun b ob q => Heap.get?_push_of_some _ q
  rcases q1 with ⟨a, xs, ex, hx, q⟩ | ⟨a, xs, ex, hx, q⟩
  · subst ex
    cases r1
    obtain ⟨its, r, ht, hz⟩ := I5.list hx
    have hlen := r.length
    show wpAny (model X.prog X.w) X.A (subscriptTail e (.Slice none none (some (.UnaryOp .USub (.Constant (.int 1) k p1) p2)) p3) (.ref a) (.ref s4.heap.objs.size)) (EP X pins σ Q) X.xe { s4 with heap := s4.heap.push { cls := .type "slice", data := .fields #[vl, vu, vs] } }
    refine tail_any (ops := [.ref a, .ref s4.heap.objs.size]) ht.isList.typeIs (PySem.slot_list_getitem.lookup) ?_ (by with_unfolding_all rfl)
    refine wpAny_getItem_list_slice ht.isList (Heap.IsSliceOf.new _ vl vu vs) pl pu ps (by decide) ?_ (by rw [List.size_toArray]; omega)
    rw [PySem.W.krv_pick]
    refine ⟨.ref _, _, I5.laid (t' := s4.toks) (o := .lst xs.reverse) (fun b ob q => Heap.get?_push_of_some _ q) (Nat.le_refl _) ?_, rfl, q _ (I5.hok.fresh (Nat.le_refl _))⟩
    exact ⟨by rw [List.length_reverse]; exact hz, _, 0, r.reverse, Heap.get?_push_size _ rfl⟩
  · subst ex
    cases r1
    obtain ⟨its, r, ht, hz⟩ := I5.tuple hx
    have hlen := r.length
    show wpAny (model X.prog X.w) X.A (subscriptTail e (.Slice none none (some (.UnaryOp .USub (.Constant (.int 1) k p1) p2)) p3) (.ref a) (.ref s4.heap.objs.size)) (EP X pins σ Q) X.xe { s4 with heap := s4.heap.push { cls := .type "slice", data := .fields #[vl, vu, vs] } }
    refine tail_any (ops := [.ref a, .ref s4.heap.objs.size]) ht.typeIs (PyProof.Rows.slot_tuple_getitem.lookup) ?_ (by with_unfolding_all rfl)
    refine getItem_tuple_rev ht (Heap.IsSliceOf.new _ vl vu vs) pl pu ps ?_ (by rw [List.size_toArray]; omega)
    refine ⟨.ref _, _, I5.laid (t' := s4.toks) (o := .tup xs.reverse) (fun b ob q => Heap.get?_push_of_some _ q) (Nat.le_refl _) ?_, rfl, q _ (I5.hok.fresh (Nat.le_refl _))⟩
    exact ⟨by rw [List.length_reverse]; exact hz, _, r.reverse, IsTup.new _ _⟩
end
end Hx
set_option Elab.async false
set_option linter.all false
set_option maxRecDepth 100000
set_option maxHeartbeats 1000000
namespace Hx
open PySem PySem.Spec PyProof.Rows L2
section
variable {X : Cx}
def rSetTI (K : PySem.W.Frag) (w : World) : List V → Hp → VK → Prop := fun xs H Q => ∃ (p : Addr) (ns : List Int), xs = [V.ref p] ∧ SqT K H p (ns.map V.int) ∧ ns.length < 63 ∧ ∀ a c, H a = none → c ≤ ns.length → Q (.ref a) (upd H a (SetO w a (fun j => decide (j ∈ ns)) c))
theorem cr_setTI (hc : X.calm = true) : CallR X (.type "set") (rSetTI X.K X.w) := by
  intro pins s σ H xs us Q I r h
  obtain ⟨p, ns, rfl, hq, hl, q⟩ := h
  rw [Vals.ref1 r]
  obtain ⟨its, rv, pt, hz⟩ := I.tuple hq
  have hn : H s.heap.objs.size = none := I.hok.fresh (Nat.le_refl _)
  have hi : IntsAre its.toArray.toList ns := ints_of_vals (by simpa using rv)
  exact call_set_tupI ns (I.ok.hd hc) (show s.heap.IsTuple p its.toArray from pt) hi (by unfold scanBound; omega) fun h' tk c R1 hcn k =>
    ⟨.ref s.heap.objs.size, upd H s.heap.objs.size (SetO X.w s.heap.objs.size (fun j => decide (j ∈ ns)) c), I.laid (t' := tk) k (Nat.le_refl _) (setO_new R1), rfl, q _ c hn hcn⟩
def rMulS : V → V → Hp → VK → Prop := fun x y H Q => ∃ z k, x = .str z ∧ y = .int k ∧ z.length ≤ 1000 ∧ 1 ≤ k ∧ k ≤ 1000 ∧ Q (.str (Txt.mul z k)) H
theorem mulOk_s {z : Str} {k : Int} (hz : z.length ≤ 1000) (h1 : 1 ≤ k) (h2 : k ≤ 1000) : MulOk z k := by
  refine ⟨?_, fun _ _ => ?_, fun _ _ => ?_⟩
  · simp only [Bool.or_eq_false_iff, decide_eq_false_iff_not]; omega
  · have : (1000 : Int) ≤ (2 ^ 63 - 1) / k := Int.le_ediv_of_mul_le (by omega) (by
      have : (1000 : Int) * k ≤ 1000 * 1000 := Int.mul_le_mul_of_nonneg_left h2 (by decide)
      omega)
    omega
  · have : z.length * k.toNat ≤ 1000 * 1000 := Nat.mul_le_mul hz (by omega)
    have h3 : z.length * k.toNat ≤ sizeLine := Nat.le_trans this (by decide)
    show decide (z.length * k.toNat > sizeLine) = false
    exact decide_eq_false (by omega)
theorem op_mulS : OpR X (binaryOp .Mult) rMulS := by
  intro pins s σ H x y v u Q I rx ry h
  obtain ⟨z, k, rfl, rfl, hz, h1, h2, q⟩ := h
  obtain ⟨t, rfl⟩ := rx
  obtain ⟨t', rfl⟩ := ry
  exact SB.mul (mulOk_s hz h1 h2) fun t'' k' => ⟨.str _, H, I.tok _, ⟨_, rfl⟩, q⟩
def rSortTs (K : PySem.W.Frag) : List V → Hp → VK → Prop := fun vs H Q => ∃ d, 1 ≤ d ∧ rSortU K d 1000 vs H Q
theorem cr_sortTs : CallR X (.builtin "sorted") (rSortTs X.K) := by
  intro pins s σ H vs us Q I r h
  obtain ⟨d, hd, h⟩ := h
  exact cr_sortT hd pins s σ H vs us Q I r h
end
def ddp : List (List Int) → List (List Int)
  | [] => []
  | x :: xs => if x ∈ xs then ddp xs else x :: ddp xs
def ddi : List Int → List Int
  | [] => []
  | x :: xs => if x ∈ xs then ddi xs else x :: ddi xs
theorem mem_ddi : ∀ {xs : List Int} {x : Int}, x ∈ ddi xs ↔ x ∈ xs
  | [], x => by simp [ddi]
  | y :: ys, x => by
    unfold ddi
    split
    · rename_i h
      rw [mem_ddi]
      constructor
      · exact List.mem_cons_of_mem _
      · intro hx
        rcases List.mem_cons.mp hx with rfl | hx
        · exact h
        · exact hx
    · simp [mem_ddi (xs := ys)]
theorem nodup_ddi : ∀ xs : List Int, (ddi xs).Nodup
  | [] => by simp [ddi]
  | y :: ys => by
    unfold ddi
    split
    · exact nodup_ddi ys
    · rename_i h
      exact List.nodup_cons.mpr ⟨fun z => h (mem_ddi.mp z), nodup_ddi ys⟩
theorem mem_ddp : ∀ {xs : List (List Int)} {x : List Int}, x ∈ ddp xs ↔ x ∈ xs
  | [], x => by simp [ddp]
  | y :: ys, x => by
    unfold ddp
    split
    · rename_i h
      rw [mem_ddp]
      constructor
      · exact List.mem_cons_of_mem _
      · intro hx
        rcases List.mem_cons.mp hx with rfl | hx
        · exact h
        · exact hx
    · simp [mem_ddp (xs := ys)]
theorem nodup_ddp : ∀ xs : List (List Int), (ddp xs).Nodup
  | [] => by simp [ddp]
  | y :: ys => by
    unfold ddp
    split
    · exact nodup_ddp ys
    · rename_i h
      exact List.nodup_cons.mpr ⟨fun z => h (mem_ddp.mp z), nodup_ddp ys⟩
def ile (a b : Int) : Bool := decide (a ≤ b)
def isrt (ns : List Int) : List Int := ns.mergeSort ile
def kle (a b : List Int) : Bool := decide (TS.code 1000 a ≤ TS.code 1000 b)
def ksrt (ks : List (List Int)) : List (List Int) := ks.mergeSort kle
theorem isrt_pw (ns : List Int) : (isrt ns).Pairwise (· ≤ ·) := by
  have := List.pairwise_mergeSort (le := ile) (fun a b c h k => by unfold ile at *; simp only [decide_eq_true_eq] at *; omega) (fun a b => by unfold ile; simp only [Bool.or_eq_true, decide_eq_true_eq]; omega) ns
  exact this.imp fun h => of_decide_eq_true h
theorem ksrt_pw (ks : List (List Int)) : (ksrt ks).Pairwise fun a b => TS.code 1000 a ≤ TS.code 1000 b := by
  have := List.pairwise_mergeSort (le := kle) (fun a b c h k => by unfold kle at *; simp only [decide_eq_true_eq] at *; omega) (fun a b => by unfold kle; simp only [Bool.or_eq_true, decide_eq_true_eq]; omega) ks
  exact this.imp fun h => of_decide_eq_true h
theorem isrt_uniq {ns ms : List Int} (p : ms.Perm ns) (s : ms.Pairwise (· ≤ ·)) : ms = isrt ns :=
  List.Perm.eq_of_pairwise (fun a b _ _ h k => Int.le_antisymm h k) s (isrt_pw ns) (p.trans (List.mergeSort_perm ns ile).symm)
theorem isrt_set {ns ms : List Int} (s : ms.Pairwise (· < ·)) (h : ∀ k, k ∈ ms ↔ k ∈ ns) : ms = isrt (ddi ns) := by
  have nd : ms.Nodup := s.imp fun h => by omega
  refine isrt_uniq ((List.perm_ext_iff_of_nodup nd (nodup_ddi ns)).mpr fun k => by rw [h, mem_ddi]) (s.imp fun h => Int.le_of_lt h)
theorem code_inj {B : Int} : ∀ {a b : List Int}, a.length = b.length → TS.Bd B a → TS.Bd B b → TS.code B a = TS.code B b → a = b
  | [], [], _, _, _, _ => rfl
  | [], _ :: _, h, _, _, _ => by simp at h
  | _ :: _, [], h, _, _, _ => by simp at h
  | x :: xs, y :: ys, h, hx, hy, e => by
    have hl : xs.length = ys.length := by simpa using h
    rcases Int.lt_trichotomy x y with z | z | z
    · have := TS.code_lt (d := x) (e := y) hl hx.tail hy.tail z; omega
    · subst z
      have e' : TS.code B xs = TS.code B ys := by
        have h1 : TS.code B (x :: xs) = x * B ^ xs.length + TS.code B xs := rfl
        have h2 : TS.code B (x :: ys) = x * B ^ ys.length + TS.code B ys := rfl
        rw [h1, h2, hl] at e
        omega
      rw [code_inj hl hx.tail hy.tail e']
    · have := TS.code_lt (d := y) (e := x) hl.symm hy.tail hx.tail z; omega
structure KOk (d : Nat) (ks : List (List Int)) : Prop where
  l : ∀ k ∈ ks, k.length = d
  b : ∀ k ∈ ks, TS.Bd 1000 k
def kOkB (d : Nat) (ks : List (List Int)) : Bool := ks.all fun k => decide (k.length = d) && k.all fun i => decide (0 ≤ i) && decide (i < 1000)
theorem kOk_of {d : Nat} {ks : List (List Int)} (h : kOkB d ks = true) : KOk d ks := by
  unfold kOkB at h
  rw [List.all_eq_true] at h
  refine ⟨fun k hk => ?_, fun k hk i hi => ?_⟩
  · have := h k hk
    rw [Bool.and_eq_true] at this
    exact of_decide_eq_true this.1
  · have := h k hk
    rw [Bool.and_eq_true, List.all_eq_true] at this
    have := this.2 i hi
    rw [Bool.and_eq_true] at this
    exact ⟨of_decide_eq_true this.1, of_decide_eq_true this.2⟩
theorem ksrt_uniq {d : Nat} {ks ms : List (List Int)} (o : KOk d ks) (p : ms.Perm ks) (s : ms.Pairwise fun a b => TS.code 1000 a ≤ TS.code 1000 b) : ms = ksrt ks :=
  List.Perm.eq_of_pairwise (fun a b ha hb h k => by
    have ha := p.mem_iff.mp ha
    have hb := (List.mergeSort_perm ks kle).mem_iff.mp hb
    exact code_inj ((o.l a ha).trans (o.l b hb).symm) (o.b a ha) (o.b b hb) (Int.le_antisymm h k)) s (ksrt_pw ks) (p.trans (List.mergeSort_perm ks kle).symm)
theorem KOk.ddp {d : Nat} {ks : List (List Int)} (o : KOk d ks) : KOk d (ddp ks) := ⟨fun k hk => o.l k (mem_ddp.mp hk), fun k hk => o.b k (mem_ddp.mp hk)⟩
theorem ksrt_set {d : Nat} {ks ms : List (List Int)} (o : KOk d ks) (nd : ms.Nodup) (h : ∀ k, k ∈ ms ↔ k ∈ ks) (s : ms.Pairwise fun a b => TS.code 1000 a ≤ TS.code 1000 b) : ms = ksrt (ddp ks) :=
  ksrt_uniq o.ddp ((List.perm_ext_iff_of_nodup nd (nodup_ddp ks)).mpr fun k => by rw [h, mem_ddp]) s
end Hx
set_option Elab.async false
set_option linter.all false
set_option maxRecDepth 100000
namespace Hw
open PySem PySem.Spec PyProof.Rows L2
inductive Bi where
  | len | abs | max2 | min2 | max3 | min3 | max1 | min1 | sum | all | any | tuple | list | int | str
  deriving DecidableEq
inductive P where
  | add | sub | mul | fdiv | mod | pow | neg
  | cmp (o : CmpOp)
  | ix | sl (lo hi : Bool) | rev
  | bi (b : Bi)
  | isi (T : String)
  | isx (c : Str)
  | lrg (two : Bool) | trg (two : Bool)
  | rpr
  | srt | srs | lzp
inductive CTg where
  | nm (i : Nat) | tp (is : List Nat)
mutual
inductive CE where
  | var (i : Nat) | mv (i : Nat)
  | lit (d : PyData)
  | glb (x : Str)
  | prim (p : P) (as : List CA)
  | tup (as : List CA) | lst (as : List CA)
  | and_ (a b : CE) | or_ (a b : CE) | not_ (a : CE) | ife (c : CT) (a b : CE)
  | chain (o1 o2 : CmpOp) (ab : List CA) (c : CE)
  | call (x : Str) (as : List CA)
  | lc (own : List Nat) (tg : CTg) (it : CIt) (cond : List CT) (elt : CE)
  | pth (i : Nat) (es : List CE)
  | pop (i : Nat) (as : List CA)
  | idx (i : Nat) (a : CE)
  | stl (a : CE)
  | cpy (i : Nat) (a : CE)
  | emp
  | sl2 (a b c : CE)
  | dnew
  | dget (i : Nat) (a b : CE)
  | cntT (i : Nat)
inductive CA where
  | e (a : CE) | pk (i : Nat) | io (i : Nat) | ow (a : CE)
inductive CT where
  | e (a : CE) | pk (i : Nat) | and_ (a b : CT) | or_ (a b : CT) | not_ (a : CT)
inductive CIt where
  | sq (e : CE) | rng1 (a : CE) | rng2 (ab : List CA) | enm (e : CE) | zip (ab : List CA) | zip3 (ab : List CA) | rng3 (ab : List CA)
end
inductive CS where
  | set (i : Nat) (e : CE)
  | setT (is : List Nat) (e : CE)
  | par (i j : Nat) (a b : CE)
  | setp (i : Nat) (es : List CE) (l : CE) (e : CE)
  | app (i : Nat) (es : List CE) (e : CE)
  | clr (i : Nat) (es : List CE)
  | ext (i : Nat) (e : CE)
  | ex (e : CE)
  | ret (e : CE) | retN
  | ite (c : CT) (a b : List CS)
  | for_ (tg : CTg) (it : CIt) (body : List CS)
  | whl (fuel : Nat) (c : CT) (body : List CS)
  | brk | cnt | pass | doc
  | rais (x : Str)
  | tryC (body : List CS) (c : Str) (i j : Nat) (xs : List Str)
  | dput (i : Nat) (a e : CE)
  | bor (i : Nat) (es : List CE) (j : Nat) (body : List CS)
  | pre (i : Nat) (s : CS)
inductive ER where
  | ok (t : Tr) (Γ : List Tr) | ex (x : Str) (Γ : List Tr)
inductive AV where
  | tmp (t : Tr) | pk (i : Nat) | io (i : Nat) | own (t : Tr)
inductive AR where
  | ok (as : List AV) (Γ : List Tr) | ex (x : Str) (Γ : List Tr)
inductive TR where
  | ok (b : Bool) (Γ : List Tr) | ex (x : Str) (Γ : List Tr)
inductive IR where
  | ok (ds : List PyData) (Γ : List Tr) | ex (x : Str) (Γ : List Tr)
inductive SR where
  | nx (Γ : List Tr) | rt (t : Tr) (Γ : List Tr) | bk (Γ : List Tr) | ct (Γ : List Tr) | ex (x : Str) (Γ : List Tr)
inductive FR where
  | ok (t : Tr) (outs : List Tr) | ex (x : Str)
structure Genv where
  fn : Str → Option (List Tr → Option FR)
  gl : Str → Option PyData
def see : Tr → Option PyData
  | .s ns => some (.list (ns.map PyData.int))
  | t => frz t
def asInt : Tr → Option Int
  | .c (.int i) => some i
  | _ => none
def asStr : Tr → Option Str
  | .c (.str x) => some x
  | _ => none
def asBool : Tr → Option Bool
  | .c (.bool b) => some b
  | _ => none
def stl : List Tr → Option (List PyData)
  | [] => some []
  | .c d :: xs => (stl xs).map (d :: ·)
  | _ => none
def asList : Tr → Option (List PyData)
  | .c (.list ds) => some ds
  | .l xs => stl xs
  | _ => none
def asTup : Tr → Option (List PyData)
  | .c (.tuple ds) => some ds
  | .t xs => stl xs
  | _ => none
def asSeq (t : Tr) : Option (List PyData) := match asList t with
  | some ds => some ds
  | none => asTup t
def lT (ds : List PyData) : Tr := .l (ds.map .c)
def intsOf : List PyData → Option (List Int)
  | [] => some []
  | .int i :: r => (intsOf r).map (i :: ·)
  | _ => none
def boolsOf : List PyData → Option (List Bool)
  | [] => some []
  | .bool b :: r => (boolsOf r).map (b :: ·)
  | _ => none
def flatD : PyData → Bool
  | .none | .bool _ | .int _ | .str _ => true
  | _ => false
def tyName : Tr → Option String
  | .c .none => some "NoneType"
  | .c (.bool _) => some "bool"
  | .c (.int _) => some "int"
  | .c (.str _) => some "str"
  | .c (.list _) => some "list"
  | .c (.tuple _) => some "tuple"
  | .c (.dict _) => some "dict"
  | .l _ => some "list"
  | .t _ => some "tuple"
  | _ => none
def truth : Tr → Option Bool
  | .c .none => some false
  | .c (.bool b) => some b
  | .c (.int i) => some (i != 0)
  | .c (.str x) => if x.length ≤ sizeLine then some ((x.length : Int) != 0) else none
  | .c (.list ds) => some (!ds.isEmpty)
  | .c (.tuple ds) => some (!ds.isEmpty)
  | .l xs => some (!xs.isEmpty)
  | .t xs => some (!xs.isEmpty)
  | .s ns => some (!ns.isEmpty)
  | _ => none
def plainD (d : PyData) : Bool := noDict d && SeqAt.shaped d
def eqEv0 (a b : Tr) : Option Bool := match see a, see b with
  | some d, some e => if plainD d && plainD e then some (PyData.eqv d e) else none
  | _, _ => none
def eqEv (a b : Tr) : Option Bool := match asStr a, asStr b with
  | some x, some y => some (decide (x = y))
  | _, _ => eqEv0 a b
def cmpI (p : Int → Int → Bool) (a b : Tr) : Option Bool := match asInt a, asInt b with
  | some i, some j => some (p i j)
  | _, _ => none
def ltT (a b : Tr) : Option Bool := match asTup a, asTup b with
  | some xs, some ys => match intsOf xs, intsOf ys with
    | some ns, some ms => some (HT.lexLt ns ms)
    | _, _ => none
  | _, _ => none
def isEv (a b : Tr) : Option Bool := match b with
  | .c .none => (match a with
    | .c .none => some true
    | .gone => none
    | _ => some false)
  | .c (.bool k) => (match asBool a with
    | some j => some (decide (j = k))
    | none => none)
  | _ => none
def inEv (a b : Tr) : Option Bool := match see a with
  | some d => (match b with
    | .c (.tuple ds) => if flatD d && ds.all flatD then some (ds.any fun z => PyData.eqv z d) else none
    | _ => match see b with
      | some (.list ds) => if plainD d && plainD (.list ds) then some (ds.any fun z => PyData.eqv z d) else none
      | _ => none)
  | none => none
def cmpEv : CmpOp → Tr → Tr → Option Bool
  | .Eq, a, b => eqEv a b
  | .NotEq, a, b => (eqEv a b).map (!·)
  | .Lt, a, b => match cmpI (fun i j => decide (i < j)) a b with
    | some r => some r
    | none => ltT a b
  | .LtE, a, b => cmpI (fun i j => decide (i ≤ j)) a b
  | .Gt, a, b => cmpI (fun i j => decide (j < i)) a b
  | .GtE, a, b => cmpI (fun i j => decide (j ≤ i)) a b
  | .Is, a, b => isEv a b
  | .IsNot, a, b => (isEv a b).map (!·)
  | .In, a, b => inEv a b
  | .NotIn, a, b => (inEv a b).map (!·)
def iT (i : Int) : Tr := .c (.int i)
def bT (b : Bool) : Tr := .c (.bool b)
def int2 (g : Int → Int → Option Int) (a b : Tr) : Option Tr := match asInt a, asInt b with
  | some i, some j => (g i j).map iT
  | _, _ => none
def addEv (a b : Tr) : Option Tr := match asInt a, asInt b with
  | some i, some j => some (iT (i + j))
  | _, _ => match asList a, asList b with
    | some xs, some ys => if xs.length + ys.length ≤ sizeLine then some (lT (xs ++ ys)) else none
    | _, _ => match asTup a, asTup b with
      | some xs, some ys => if xs.length + ys.length ≤ sizeLine then some (.c (.tuple (xs ++ ys))) else none
      | _, _ => match asStr a, asStr b with
        | some x, some y => if x.length + y.length ≤ sizeLine then some (.c (.str (x ++ y))) else none
        | _, _ => none
def okR (j : Int) : Bool := Nat.ble j.natAbs 1000000
theorem okR_le {j : Int} (h : okR j = true) : -1000000 ≤ j ∧ j ≤ 1000000 := by
  have := Nat.le_of_ble_eq_true h
  omega
theorem okR_of {j : Int} (h0 : -1000000 ≤ j) (h1 : j ≤ 1000000) : okR j = true := Nat.ble_eq_true_of_le (by omega)
theorem okR_62 {j : Int} (h : okR j = true) : -(2 ^ 62) ≤ j ∧ j < 2 ^ 62 := by have := okR_le h; omega
theorem okR_63 {j : Int} (h : okR j = true) : -(2 ^ 63) ≤ j ∧ j < 2 ^ 63 := by have := okR_le h; omega
theorem okR_31 {j : Int} (h : okR j = true) : -(2 ^ 31) ≤ j ∧ j ≤ 2 ^ 31 := by have := okR_le h; omega
def mulEv (a b : Tr) : Option Tr := match asInt b with
  | some k => (match asInt a with
    | some i => if i.natAbs.log2 + k.natAbs.log2 < 1000000 then some (iT (i * k)) else none
    | none => match asList a with
      | some xs => if okR k = true ∧ xs.length * k.toNat ≤ sizeLine then some (lT (List.replicate k.toNat xs).flatten) else none
      | none => match asTup a with
        | some xs => if xs ≠ [] ∧ okR k = true ∧ xs.length * k.toNat ≤ sizeLine then some (.c (.tuple (List.replicate k.toNat xs).flatten)) else none
        | none => match asStr a with
          | some z => if z.length ≤ 1000 ∧ 1 ≤ k ∧ k ≤ 1000 then some (.c (.str (Txt.mul z k))) else none
          | none => none)
  | none => none
def ixEv (a b : Tr) : Option Tr := match asInt b with
  | some i => (match a with
    | .s ns => (atI ns i).map iT
    | _ => match asSeq a with
      | some xs => (atI xs i).map .c
      | none => match asStr a with
        | some x => if x.length ≤ sizeLine then (atI x.cps.toList i).map fun c => .c (.str ⟨#[c]⟩) else none
        | none => none)
  | none => none
def cutD (xs : List PyData) (lo hi : Option Int) : List PyData := (xs.drop (HT.sIx xs.length 0 lo)).take (HT.sIx xs.length xs.length hi - HT.sIx xs.length 0 lo)
def slEv (a : Tr) (lo hi : Option Int) : Option Tr := match asList a with
  | some xs => some (lT (cutD xs lo hi))
  | none => match asTup a with
    | some xs => some (.c (.tuple (cutD xs lo hi)))
    | none => none
mutual
/-- a bound on the length of what repr shows -/
def szD : PyData → Nat
  | .none => 4
  | .bool _ => 5
  | .int i => i.natAbs.log2 + 3
  | .str x => (reprText x).length
  | .list xs => 2 + szL xs
  | .tuple xs => 3 + szL xs
  | .dict _ => 2
def szL : List PyData → Nat
  | [] => 0
  | x :: xs => szD x + 2 + szL xs
end
def plainR (d : PyData) : Bool := (noDict d || noLst d) && PyData.showable d && decide (PyData.depth d ≤ 60) && decide (szD d ≤ sizeLine)
def biEv : Bi → List Tr → Option Tr
  | .len, [a] => match a with
    | .s ns => some (iT ns.length)
    | _ => match asSeq a with
      | some xs => some (iT xs.length)
      | none => match asStr a with
        | some x => if x.length ≤ sizeLine then some (iT x.length) else none
        | none => none
  | .abs, [a] => (asInt a).map fun i => iT (if i < 0 then -i else i)
  | .max2, [a, b] => int2 (fun i j => some (if j > i then j else i)) a b
  | .min2, [a, b] => int2 (fun i j => some (if j < i then j else i)) a b
  | .max3, [a, b, c] => (match asInt a, asInt b, asInt c with
    | some i, some j, some k => some (iT (if k > (if j > i then j else i) then k else (if j > i then j else i)))
    | _, _, _ => none)
  | .min3, [a, b, c] => (match asInt a, asInt b, asInt c with
    | some i, some j, some k => some (iT (if k < (if j < i then j else i) then k else (if j < i then j else i)))
    | _, _, _ => none)
  | .sum, [a] => match asList a with
    | some xs => (intsOf xs).map fun ns => iT ns.sum
    | none => match asTup a with
      | some xs => (intsOf xs).map fun ns => iT ns.sum
      | none => none
  | .max1, [a] => match asList a with
    | some xs => (match intsOf xs with
      | some (n :: ns) => some (iT (ns.foldl max n))
      | _ => none)
    | none => match asTup a with
      | some xs => (match intsOf xs with
        | some (n :: ns) => some (iT (ns.foldl max n))
        | _ => none)
      | none => none
  | .min1, [a] => match asList a with
    | some xs => (match intsOf xs with
      | some (n :: ns) => some (iT (ns.foldl min n))
      | _ => none)
    | none => none
  | .all, [a] => match asList a with
    | some xs => (boolsOf xs).map fun bs => bT (bs.all id)
    | none => none
  | .any, [a] => match asList a with
    | some xs => (boolsOf xs).map fun bs => bT (bs.any id)
    | none => none
  | .tuple, [a] => (asSeq a).map fun xs => .c (.tuple xs)
  | .list, [a] => (asSeq a).map lT
  | .int, [a] => match a with
    | .c (.int i) => some (iT i)
    | .c (.bool b) => some (iT (if b then 1 else 0))
    | _ => none
  | .str, [a] => match asInt a with
    | some i => if i.natAbs.log2 < 1920 then some (.c (.str (toString i))) else none
    | none => none
  | _, _ => none
def rgD (a b : Int) : List PyData := (List.range (b - a).toNat).map fun i => PyData.int (a + (i : Nat))
def rgOkB (a b : Int) : Bool := okR a && okR b
def rg2D (a b : Int) : List PyData := (List.range ((b - a + 1) / 2).toNat).map fun i => PyData.int (a + (i : Nat) * 2)
def keysD : List PyData → Option (List (List Int))
  | [] => some []
  | .tuple es :: r => match intsOf es, keysD r with
    | some k, some ks => some (k :: ks)
    | _, _ => none
  | _ => none
def kD' (k : List Int) : PyData := .tuple (k.map PyData.int)
def klen : List (List Int) → Nat
  | [] => 1
  | k :: _ => k.length
def srtD (xs : List PyData) : Option Tr := match intsOf xs with
  | some ns => some (lT ((Hx.isrt ns).map PyData.int))
  | none => (keysD xs).bind fun ks => if ks.length < 64 ∧ 1 ≤ klen ks ∧ Hx.kOkB (klen ks) ks = true then some (lT ((Hx.ksrt ks).map kD')) else none
def srsEv (a : Tr) : Option Tr := match asTup a with
  | some xs => (intsOf xs).bind fun ns => if ns.length < 63 then some (lT ((Hx.isrt (Hx.ddi ns)).map PyData.int)) else none
  | none => (asList a).bind fun xs => (keysD xs).bind fun ks => if ks.length < 64 ∧ 1 ≤ klen ks ∧ Hx.kOkB (klen ks) ks = true then some (lT ((Hx.ksrt (Hx.ddp ks)).map kD')) else none
def primEv : P → List Tr → Option Tr
  | .add, [a, b] => addEv a b
  | .sub, [a, b] => int2 (fun i j => some (i - j)) a b
  | .mul, [a, b] => mulEv a b
  | .fdiv, [a, b] => int2 (fun i j => if 0 < j ∧ j.natAbs.log2 < 9000 then some (i / j) else none) a b
  | .mod, [a, b] => int2 (fun i j => if 0 < j then some (i % j) else none) a b
  | .pow, [a, b] => int2 (fun i j => if 0 ≤ j ∧ j ≤ 1000000 ∧ i.natAbs < 2 ^ 64 then some (i ^ j.toNat) else none) a b
  | .neg, [a] => (asInt a).map fun i => iT (-i)
  | .cmp o, [a, b] => (cmpEv o a b).map bT
  | .ix, [a, b] => ixEv a b
  | .sl false false, [a] => slEv a none none
  | .sl true false, [a, b] => (asInt b).bind fun i => slEv a (some i) none
  | .sl false true, [a, b] => (asInt b).bind fun i => slEv a none (some i)
  | .sl true true, [a, b, c] => (asInt b).bind fun i => (asInt c).bind fun j => slEv a (some i) (some j)
  | .rev, [a] => (match asList a with
    | some xs => some (lT xs.reverse)
    | none => (asTup a).map fun xs => .c (.tuple xs.reverse))
  | .bi b, as => biEv b as
  | .isi T, [a] => match tyName a with
    | some n => (kitB n T).map bT
    | none => none
  | .isx c, [a] => (match a with
    | .x n => some (bT (Hx.isxB n c))
    | .c .none => some (bT false)
    | _ => none)
  | .rpr, [a] => (see a).bind fun d => if plainR d = true then some (.c (.str (PyData.shown d))) else none
  | .srt, [a] => (asList a).bind srtD
  | .srs, [a] => srsEv a
  | .lzp, [a, b] => (asList a).bind fun xs => (asList b).bind fun ys => if min xs.length ys.length ≤ sizeLine then some (lT ((xs.zip ys).map fun p => PyData.tuple [p.1, p.2])) else none
  | .lrg false, [a] => (asInt a).bind fun j => if rgOkB 0 j then some (lT (rgD 0 j)) else none
  | .lrg true, [a, b] => (asInt a).bind fun i => (asInt b).bind fun j => if rgOkB i j then some (lT (rgD i j)) else none
  | .trg false, [a] => (asInt a).bind fun j => if rgOkB 0 j then some (.c (.tuple (rgD 0 j))) else none
  | .trg true, [a, b] => (asInt a).bind fun i => (asInt b).bind fun j => if rgOkB i j then some (.c (.tuple (rgD i j))) else none
  | _, _ => none
def asKey : Tr → Option (List Int)
  | .c (.tuple ds) => intsOf ds
  | _ => none
def vlI (kvs : List (List Int × Int)) (k : List Int) : Option Int := (kvs.find? fun q => decide (q.1 = k)).map (·.2)
def ptI (kvs : List (List Int × Int)) (k : List Int) (v : Int) : List (List Int × Int) :=
  if kvs.any (fun q => decide (q.1 = k)) then kvs.map fun q => if q.1 = k then (q.1, v) else q else kvs ++ [(k, v)]
def isStl : Tr → Bool
  | .c _ => true
  | .s _ => true
  | .x _ => true
  | _ => false
def putIn (i : Nat) (t : Tr) : Option ER → Option ER
  | some (.ok r Γ) => (match Γ[i]? with
    | some .gone => some (.ok r (Γ.set i t))
    | _ => none)
  | _ => none
def slotOk (Γ : List Tr) (i : Nat) : Bool := match Γ[i]? with
  | none => false
  | some .gone => false
  | some _ => true
def AR.cons (a : AV) : Option AR → Option AR
  | some (.ok avs Γ) => some (.ok (a :: avs) Γ)
  | r => r
def resolve (Γ : List Tr) : AV → Option Tr
  | .tmp t => some t
  | .pk i => Γ[i]?
  | .io _ => none
  | .own _ => none
def resolves (Γ : List Tr) : List AV → Option (List Tr)
  | [] => some []
  | a :: as => match resolve Γ a, resolves Γ as with
    | some t, some ts => some (t :: ts)
    | _, _ => none
def tmps : List AV → Option (List Tr)
  | [] => some []
  | .tmp t :: as => (tmps as).map (t :: ·)
  | _ => none
def settle : Tr → Option Tr
  | .s ns => some (.s ns)
  | .x n => some (.x n)
  | t => (frz t).map .c
def argOf (Γ : List Tr) : AV → Option Tr
  | .tmp t => settle t
  | .pk i => Γ[i]?.bind settle
  | .io i => match Γ[i]? with
    | some .gone => none
    | x => x
  | .own t => some t
def argsOf (Γ : List Tr) : List AV → Option (List Tr)
  | [] => some []
  | a :: as => match argOf Γ a, argsOf Γ as with
    | some t, some ts => some (t :: ts)
    | _, _ => none
def slotsOf : List AV → List Nat
  | [] => []
  | .tmp _ :: as => slotsOf as
  | .own _ :: as => slotsOf as
  | .pk i :: as => i :: slotsOf as
  | .io i :: as => i :: slotsOf as
def hasPk : List AV → Bool
  | [] => false
  | .pk _ :: _ => true
  | _ :: as => hasPk as
def backs (Γ : List Tr) : List AV → List Tr → List Tr
  | .io i :: as, o :: os => backs (Γ.set i o) as os
  | _ :: as, _ :: os => backs Γ as os
  | _, _ => Γ
def lost (Γ : List Tr) : List AV → List Tr
  | .io i :: as => lost (Γ.set i .gone) as
  | _ :: as => lost Γ as
  | [] => Γ
def bindTp (Γ : List Tr) : List Nat → List PyData → Option (List Tr)
  | [], [] => some Γ
  | i :: is, d :: ds => bindTp (Γ.set i (.c d)) is ds
  | _, _ => none
def bindTg (Γ : List Tr) : CTg → PyData → Option (List Tr)
  | .nm i, d => some (Γ.set i (.c d))
  | .tp is, .tuple ds => if is.length = ds.length then bindTp Γ is ds else none
  | .tp _, _ => none
def tupT (ts : List Tr) : Tr := match stl ts with
  | some ds => .c (.tuple ds)
  | none => .t ts
def wipeT (Γ : List Tr) : List Nat → List Tr
  | [] => Γ
  | i :: is => (wipeT Γ is).set i .gone
def kidD : PyData → Int → Option PyData
  | .list ds, i => atI ds i
  | .tuple ds, i => atI ds i
  | _, _ => none
def kidT : Tr → Int → Option Tr
  | .l xs, k => atI xs k
  | .t xs, k => atI xs k
  | .c d, k => (kidD d k).map .c
  | .s ns, k => (atI ns k).map iT
  | .gone, _ => none
  | .d _, _ => none
  | .x _, _ => none
def seqD : PyData → Option (List PyData)
  | .list ds => some ds
  | .tuple ds => some ds
  | _ => none
def lcL (f : PyData → List Tr → Option ER) (c : List Tr → Option TR) (own : List Nat) (bind : List Tr → PyData → Option (List Tr)) : List PyData → List Tr → List Tr → Option ER
  | [], Γ, acc => some (.ok (.l acc) Γ)
  | d :: ds, Γ, acc => match bind Γ d with
    | none => none
    | some Γ1 => match c Γ1 with
      | some (.ok true Γ2) => (match f d Γ2 with
        | some (.ok t Γ3) => if acc.length < sizeLine then lcL f c own bind ds (wipeT Γ3 own) (acc ++ [t]) else none
        | _ => none)
      | some (.ok false Γ2) => lcL f c own bind ds (wipeT Γ2 own) acc
      | _ => none
mutual
def lfD : PyData → Bool
  | .list _ => false
  | .dict _ => false
  | .tuple ds => lfDs ds
  | .none => true
  | .bool _ => true
  | .int _ => true
  | .str _ => true
def lfDs : List PyData → Bool
  | [] => true
  | d :: ds => lfD d && lfDs ds
end
mutual
def lfT : Tr → Bool
  | .c d => lfD d
  | .l xs => lfTs xs
  | .t xs => lfTs xs
  | .s _ => false
  | .x _ => false
  | .gone => true
  | .d _ => true
def lfTs : List Tr → Bool
  | [] => true
  | x :: xs => lfT x && lfTs xs
end
def stlE : Option ER → Option ER
  | some (.ok t Γ) => (frz t).map fun d => .ok (.c d) Γ
  | r => r
mutual
def ev (F : Genv) : CE → List Tr → Option ER
  | .var i, Γ => match Γ[i]? with
    | some (.c d) => some (.ok (.c d) Γ)
    | some (.s ns) => some (.ok (.s ns) Γ)
    | some (.x n) => some (.ok (.x n) Γ)
    | some t => (frz t).map fun d => .ok (.c d) (Γ.set i (.c d))
    | none => none
  | .mv i, Γ => match Γ[i]? with
    | some .gone => none
    | some t => some (.ok t (Γ.set i .gone))
    | none => none
  | .lit d, Γ => if flatD d then some (.ok (.c d) Γ) else none
  | .glb x, Γ => (F.gl x).bind fun d => if flatD d then some (.ok (.c d) Γ) else none
  | .prim p as, Γ => match evAs F as Γ with
    | some (.ok avs Γ1) => (resolves Γ1 avs).bind fun ts => (primEv p ts).map fun t => .ok t Γ1
    | some (.ex x Γ1) => some (.ex x Γ1)
    | none => none
  | .tup as, Γ => match evAs F as Γ with
    | some (.ok avs Γ1) => (tmps avs).bind fun ts => if ts.length ≤ sizeLine then some (.ok (tupT ts) Γ1) else none
    | some (.ex x Γ1) => some (.ex x Γ1)
    | none => none
  | .lst as, Γ => match evAs F as Γ with
    | some (.ok avs Γ1) => (tmps avs).bind fun ts => if ts.length ≤ sizeLine then some (.ok (.l ts) Γ1) else none
    | some (.ex x Γ1) => some (.ex x Γ1)
    | none => none
  | .and_ a b, Γ => match ev F a Γ with
    | some (.ok t Γ1) => (match asBool t with
      | some true => ev F b Γ1
      | some false => some (.ok (bT false) Γ1)
      | none => none)
    | r => r
  | .or_ a b, Γ => match ev F a Γ with
    | some (.ok t Γ1) => (match asBool t with
      | some true => some (.ok (bT true) Γ1)
      | some false => ev F b Γ1
      | none => none)
    | r => r
  | .not_ a, Γ => match ev F a Γ with
    | some (.ok t Γ1) => (truth t).map fun b => .ok (bT (!b)) Γ1
    | r => r
  | .ife c a b, Γ => match evT F c Γ with
    | some (.ok true Γ1) => ev F a Γ1
    | some (.ok false Γ1) => ev F b Γ1
    | some (.ex x Γ1) => some (.ex x Γ1)
    | none => none
  | .chain o1 o2 ab c, Γ => match evAs F ab Γ with
    | some (.ok avs Γ1) => (match resolves Γ1 avs with
      | some [ta, tb] => (match cmpEv o1 ta tb with
        | some false => some (.ok (bT false) Γ1)
        | some true => (match see tb with
          | some db => (if flatD db then (match ev F c Γ1 with
            | some (.ok tc Γ2) => (cmpEv o2 (.c db) tc).map fun r => .ok (bT r) Γ2
            | r => r) else none)
          | none => none)
        | none => none)
      | _ => none)
    | some (.ex x Γ1) => some (.ex x Γ1)
    | none => none
  | .call x as, Γ => match F.fn x with
    | none => none
    | some f => match evAs F as Γ with
      | some (.ok avs Γ1) => if (slotsOf avs).Nodup then (argsOf Γ1 avs).bind fun ts => match f ts with
          | some (.ok t os) => if hasPk avs = false ∧ os.length = avs.length then some (.ok t (backs Γ1 avs os)) else none
          | some (.ex y) => if hasPk avs = false then some (.ex y (lost Γ1 avs)) else none
          | none => none
        else none
      | some (.ex y Γ1) => some (.ex y Γ1)
      | none => none
  | .lc own tg it cond elt, Γ => match evIt F it Γ with
    | some (.ok ds Γ1) => lcL (fun _ Γ => ev F elt Γ) (fun Γ => evC F cond Γ) own (fun Γ d => bindTg Γ tg d) ds (wipeT Γ1 own) []
    | some (.ex x Γ1) => some (.ex x Γ1)
    | none => none
  | .pth i es, Γ => evP F i es Γ
  | .pop i as, Γ => match Γ[i]? with
    | some (.l _) => (match evAs F as Γ with
      | some (.ok avs Γ1) => (match tmps avs, Γ1[i]? with
        | some [], some (.l xs) => (match xs[xs.length - 1]? with
          | some x => some (.ok x (Γ1.set i (.l xs.dropLast)))
          | none => none)
        | some [t], some (.l xs) => (match asInt t with
          | some k => if okR k = true then (match seqIndex? k xs.length with
            | some j => (match xs[j]? with
              | some x => some (.ok x (Γ1.set i (.l (xs.eraseIdx j))))
              | none => none)
            | none => none) else none
          | none => none)
        | _, _ => none)
      | some (.ex x Γ1) => some (.ex x Γ1)
      | none => none)
    | _ => none
  | .idx i a, Γ => match Γ[i]? with
    | none => none
    | some t0 => (match see t0 with
      | some (.list _) => (match ev F a Γ with
        | some (.ok t Γ1) => (match Γ1[i]? with
          | some t1 => (match see t, see t1 with
            | some d, some (.list ds) => if (flatD d && ds.all flatD) = true then (match ds.findIdx? (fun z => PyData.eqv z d) with
              | some j => some (.ok (iT (j : Nat)) Γ1)
              | none => none) else none
            | _, _ => none)
          | none => none)
        | some (.ex x Γ1) => some (.ex x Γ1)
        | none => none)
      | _ => none)
  | .stl a, Γ => stlE (ev F a Γ)
  | .cpy i a, Γ => match Γ[i]? with
    | some t0 => (match frz t0 with
      | some d => (match ev F a (Γ.set i (.c d)) with
        | some (.ok t Γ1) => if (lfT t && lfTs (Γ1.set i .gone)) = true then some (.ok t (Γ1.set i t0)) else none
        | _ => none)
      | none => none)
    | none => none
  | .emp, Γ => some (.ok (.c (.dict [])) Γ)
  | .dnew, Γ => some (.ok (.d []) Γ)
  | .dget i a b, Γ => match Γ[i]? with
    | some (.d _) => (match ev F a Γ with
      | some (.ok ta Γ1) => (match asKey ta with
        | some ks => (match ev F b Γ1 with
          | some (.ok tb Γ2) => (match asInt tb, Γ2[i]? with
            | some z, some (.d kvs) => some (.ok (iT ((vlI kvs ks).getD z)) Γ2)
            | _, _ => none)
          | some (.ex x Γ2) => some (.ex x Γ2)
          | none => none)
        | none => none)
      | some (.ex x Γ1) => some (.ex x Γ1)
      | none => none)
    | _ => none
  | .sl2 a b c, Γ => match ev F a Γ with
    | some (.ok (.c d) Γ1) => (match ev F b Γ1 with
      | some (.ok tb Γ2) => (match asInt tb with
        | some i => (match ev F c Γ2 with
          | some (.ok tc Γ3) => (match asInt tc with
            | some j => (slEv (.c d) (some i) (some j)).map fun t => .ok t Γ3
            | none => none)
          | some (.ex x Γ3) => some (.ex x Γ3)
          | none => none)
        | none => none)
      | some (.ex x Γ2) => some (.ex x Γ2)
      | none => none)
    | some (.ex x Γ1) => some (.ex x Γ1)
    | _ => none
  | .cntT i, Γ => match Γ[i]? with
    | none => none
    | some t0 => (match asList t0 with
      | some xs => (boolsOf xs).map fun bs => .ok (iT ((bs.countP id : Nat) : Int)) Γ
      | none => none)
def evAs (F : Genv) : List CA → List Tr → Option AR
  | [], Γ => some (.ok [] Γ)
  | .pk i :: as, Γ => if slotOk Γ i then AR.cons (.pk i) (evAs F as Γ) else none
  | .io i :: as, Γ => if slotOk Γ i then AR.cons (.io i) (evAs F as Γ) else none
  | .e a :: as, Γ => match ev F a Γ with
    | some (.ok t Γ1) => AR.cons (.tmp t) (evAs F as Γ1)
    | some (.ex x Γ1) => some (.ex x Γ1)
    | none => none
  | .ow a :: as, Γ => match ev F a Γ with
    | some (.ok t Γ1) => AR.cons (.own t) (evAs F as Γ1)
    | some (.ex x Γ1) => some (.ex x Γ1)
    | none => none
def evT (F : Genv) : CT → List Tr → Option TR
  | .and_ a b, Γ => match evT F a Γ with
    | some (.ok true Γ1) => evT F b Γ1
    | r => r
  | .or_ a b, Γ => match evT F a Γ with
    | some (.ok false Γ1) => evT F b Γ1
    | r => r
  | .not_ a, Γ => match evT F a Γ with
    | some (.ok b Γ1) => some (.ok (!b) Γ1)
    | r => r
  | .pk i, Γ => match Γ[i]? with
    | some t => (truth t).map fun b => .ok b Γ
    | none => none
  | .e e, Γ => match ev F e Γ with
    | some (.ok t Γ1) => (truth t).map fun b => .ok b Γ1
    | some (.ex x Γ1) => some (.ex x Γ1)
    | none => none
def evC (F : Genv) : List CT → List Tr → Option TR
  | [], Γ => some (.ok true Γ)
  | c :: _, Γ => evT F c Γ
def evIt (F : Genv) : CIt → List Tr → Option IR
  | .sq e, Γ => match ev F e Γ with
    | some (.ok t Γ1) => (match t with
      | .s ns => some (.ok (ns.map .int) Γ1)
      | _ => match frz t with
        | some (.list ds) => some (.ok ds Γ1)
        | some (.tuple ds) => some (.ok ds Γ1)
        | _ => none)
    | some (.ex x Γ1) => some (.ex x Γ1)
    | none => none
  | .rng1 a, Γ => match ev F a Γ with
    | some (.ok t Γ1) => (asInt t).bind fun j => if okR j = true then some (.ok (rgD 0 j) Γ1) else none
    | some (.ex x Γ1) => some (.ex x Γ1)
    | none => none
  | .rng2 ab, Γ => match evAs F ab Γ with
    | some (.ok avs Γ1) => (match resolves Γ1 avs with
      | some [ta, tb] => (asInt ta).bind fun i => (asInt tb).bind fun j => if okR i = true ∧ okR j = true then some (.ok (rgD i j) Γ1) else none
      | _ => none)
    | some (.ex x Γ1) => some (.ex x Γ1)
    | none => none
  | .rng3 ab, Γ => match evAs F ab Γ with
    | some (.ok avs Γ1) => (match resolves Γ1 avs with
      | some [ta, tb, tc] => (asInt ta).bind fun i => (asInt tb).bind fun j => (asInt tc).bind fun c => if okR i = true ∧ okR j = true ∧ c = 2 then some (.ok (rg2D i j) Γ1) else none
      | _ => none)
    | some (.ex x Γ1) => some (.ex x Γ1)
    | none => none
  | .enm e, Γ => match ev F e Γ with
    | some (.ok t Γ1) => (match frz t with
      | some (.list ds) => some (.ok (ds.zipIdx.map fun p => .tuple [.int (p.2 : Nat), p.1]) Γ1)
      | some (.tuple ds) => some (.ok (ds.zipIdx.map fun p => .tuple [.int (p.2 : Nat), p.1]) Γ1)
      | _ => none)
    | some (.ex x Γ1) => some (.ex x Γ1)
    | none => none
  | .zip ab, Γ => match evAs F ab Γ with
    | some (.ok avs Γ1) => (match tmps avs with
      | some [ta, tb] => (match frz ta, frz tb with
        | some d, some e => (match seqD d, seqD e with
          | some xs, some ys => some (.ok ((xs.zip ys).map fun p => .tuple [p.1, p.2]) Γ1)
          | _, _ => none)
        | _, _ => none)
      | _ => none)
    | some (.ex x Γ1) => some (.ex x Γ1)
    | none => none
  | .zip3 ab, Γ => match evAs F ab Γ with
    | some (.ok avs Γ1) => (match tmps avs with
      | some [ta, tb, tc] => (match frz ta, frz tb, frz tc with
        | some d, some e, some g => (match seqD d, seqD e, seqD g with
          | some xs, some ys, some zs => some (.ok ((xs.zip (ys.zip zs)).map fun p => .tuple [p.1, p.2.1, p.2.2]) Γ1)
          | _, _, _ => none)
        | _, _, _ => none)
      | _ => none)
    | some (.ex x Γ1) => some (.ex x Γ1)
    | none => none
/-- x[e1][e2].. of the slot i -/
def evP (F : Genv) (i : Nat) : List CE → List Tr → Option ER
  | [], _ => none
  | e :: es, Γ => if slotOk Γ i then match ev F e Γ with
    | some (.ok te Γ1) => (match asInt te, Γ1[i]? with
      | some k, some t => (match kidT t k with
        | some t' => if isStl t' then evPt F t' es Γ1 else putIn i t (evPt F t' es (Γ1.set i .gone))
        | none => none)
      | _, _ => none)
    | r => r
    else none
def evPt (F : Genv) (t : Tr) : List CE → List Tr → Option ER
  | [], Γ => if isStl t then some (.ok t Γ) else none
  | e :: es, Γ => match ev F e Γ with
    | some (.ok te Γ1) => (match asInt te with
      | some k => (match kidT t k with
        | some t' => evPt F t' es Γ1
        | none => none)
      | none => none)
    | r => r
end
def idxs : List AV → Option (List Int)
  | [] => some []
  | .tmp t :: as => match asInt t, idxs as with
    | some k, some ks => some (k :: ks)
    | _, _ => none
  | _ => none
def putP (g : List Tr → Option (List Tr)) : List Int → Tr → Option Tr
  | [], .l xs => (g xs).map Tr.l
  | [], _ => none
  | k :: ks, .l xs => (ixN xs.length k).bind fun j => (xs[j]?).bind fun x => (putP g ks x).map fun y => .l (xs.set j y)
  | k :: ks, .t xs => (ixN xs.length k).bind fun j => (xs[j]?).bind fun x => (putP g ks x).map fun y => .t (xs.set j y)
  | _ :: _, _ => none
def setAt (k : Int) (v : Tr) (xs : List Tr) : Option (List Tr) := (ixN xs.length k).map fun j => xs.set j v
def appAt (v : Tr) (xs : List Tr) : Option (List Tr) := if xs.length < sizeLine then some (xs ++ [v]) else none
def extAt (vs : List Tr) (xs : List Tr) : Option (List Tr) := if xs.length + vs.length ≤ sizeLine then some (xs ++ vs) else none
def getT : List Int → Tr → Option Tr
  | [], t => some t
  | k :: ks, .l xs => (ixN xs.length k).bind fun j => (xs[j]?).bind fun x => getT ks x
  | k :: ks, .t xs => (ixN xs.length k).bind fun j => (xs[j]?).bind fun x => getT ks x
  | _ :: _, _ => none
def putT (s : Tr) : List Int → Tr → Option Tr
  | [], _ => some s
  | k :: ks, .l xs => (ixN xs.length k).bind fun j => (xs[j]?).bind fun x => (putT s ks x).map fun y => .l (xs.set j y)
  | k :: ks, .t xs => (ixN xs.length k).bind fun j => (xs[j]?).bind fun x => (putT s ks x).map fun y => .t (xs.set j y)
  | _ :: _, _ => none
def forL (body : List Tr → Option SR) (bind : List Tr → PyData → Option (List Tr)) : List PyData → List Tr → Option SR
  | [], Γ => some (.nx Γ)
  | d :: ds, Γ => match bind Γ d with
    | none => none
    | some Γ1 => match body Γ1 with
      | some (.nx Γ2) => forL body bind ds Γ2
      | some (.ct Γ2) => forL body bind ds Γ2
      | some (.bk Γ2) => some (.nx Γ2)
      | r => r
def whL (c : List Tr → Option TR) (body : List Tr → Option SR) : Nat → List Tr → Option SR
  | 0, _ => none
  | n + 1, Γ => match c Γ with
    | some (.ok true Γ1) => (match body Γ1 with
      | some (.nx Γ2) => whL c body n Γ2
      | some (.ct Γ2) => whL c body n Γ2
      | some (.bk Γ2) => some (.nx Γ2)
      | r => r)
    | some (.ok false Γ1) => some (.nx Γ1)
    | some (.ex x Γ1) => some (.ex x Γ1)
    | none => none
def setAll (Γ : List Tr) : List Nat → List Tr → Option (List Tr)
  | [], [] => some Γ
  | i :: is, t :: ts => setAll (Γ.set i t) is ts
  | _, _ => none
def partsOf : Tr → Option (List Tr)
  | .c (.tuple ds) => some (ds.map .c)
  | .t xs => some xs
  | _ => none
mutual
def exS (F : Genv) : CS → List Tr → Option SR
  | .set i e, Γ => match ev F e Γ with
    | some (.ok t Γ1) => some (.nx (Γ1.set i t))
    | some (.ex x Γ1) => some (.ex x Γ1)
    | none => none
  | .setT is e, Γ => match ev F e Γ with
    | some (.ok t Γ1) => (partsOf t).bind fun ts => if is.length = ts.length then (setAll Γ1 is ts).map .nx else none
    | some (.ex x Γ1) => some (.ex x Γ1)
    | none => none
  | .par i j a b, Γ => match ev F a Γ with
    | some (.ok t Γ1) => (match ev F b Γ1 with
      | some (.ok u Γ2) => some (.nx ((Γ2.set i t).set j u))
      | some (.ex x Γ2) => some (.ex x Γ2)
      | none => none)
    | some (.ex x Γ1) => some (.ex x Γ1)
    | none => none
  | .setp i es l e, Γ => match ev F e Γ with
    | some (.ok v Γ1) => (match Γ1[i]? with
      | some .gone => none
      | some t => (match evAs F (es.map .e) (Γ1.set i .gone) with
        | some (.ok avs Γ2) => (match idxs avs with
          | some ks => (match ev F l Γ2 with
            | some (.ok tl Γ3) => (match asInt tl, Γ3[i]? with
              | some k, some .gone => (match putP (setAt k v) ks t with
                | some t' => some (.nx (Γ3.set i t'))
                | none => none)
              | _, _ => none)
            | _ => none)
          | none => none)
        | _ => none)
      | none => none)
    | some (.ex x Γ1) => some (.ex x Γ1)
    | none => none
  | .app i [] e, Γ => match Γ[i]? with
    | some (.l _) => (match ev F e Γ with
      | some (.ok v Γ1) => (match Γ1[i]? with
        | some (.l xs) => if xs.length < sizeLine then some (.nx (Γ1.set i (.l (xs ++ [v])))) else none
        | _ => none)
      | some (.ex x Γ1) => some (.ex x Γ1)
      | none => none)
    | _ => none
  | .app i es e, Γ => match Γ[i]? with
    | some .gone => none
    | some t => (match evAs F (es.map .e) (Γ.set i .gone) with
      | some (.ok avs Γ2) => (match idxs avs with
        | some ks => (match ev F e Γ2 with
          | some (.ok v Γ3) => (match Γ3[i]? with
            | some .gone => (match putP (appAt v) ks t with
              | some t' => some (.nx (Γ3.set i t'))
              | none => none)
            | _ => none)
          | _ => none)
        | none => none)
      | _ => none)
    | none => none
  | .ext i e, Γ => match Γ[i]? with
    | some (.l _) => (match ev F e Γ with
      | some (.ok v Γ1) => (match Γ1[i]? with
        | some (.l xs) => (match v with
          | .l vs => if xs.length + vs.length ≤ sizeLine then some (.nx (Γ1.set i (.l (xs ++ vs)))) else none
          | .c (.list ds) => if xs.length + ds.length ≤ sizeLine then some (.nx (Γ1.set i (.l (xs ++ ds.map .c)))) else none
          | _ => none)
        | _ => none)
      | some (.ex x Γ1) => some (.ex x Γ1)
      | none => none)
    | _ => none
  | .clr i es, Γ => match Γ[i]? with
    | some .gone => none
    | some t => (match evAs F (es.map .e) (Γ.set i .gone) with
      | some (.ok avs Γ2) => (match idxs avs with
        | some ks => (match Γ2[i]? with
          | some .gone => (match putP (fun _ => some []) ks t with
            | some t' => some (.nx (Γ2.set i t'))
            | none => none)
          | _ => none)
        | none => none)
      | _ => none)
    | none => none
  | .ex e, Γ => match ev F e Γ with
    | some (.ok _ Γ1) => some (.nx Γ1)
    | some (.ex x Γ1) => some (.ex x Γ1)
    | none => none
  | .ret e, Γ => match ev F e Γ with
    | some (.ok t Γ1) => some (.rt t Γ1)
    | some (.ex x Γ1) => some (.ex x Γ1)
    | none => none
  | .retN, Γ => some (.rt (.c .none) Γ)
  | .ite c a b, Γ => match evT F c Γ with
    | some (.ok true Γ1) => exB F a Γ1
    | some (.ok false Γ1) => exB F b Γ1
    | some (.ex x Γ1) => some (.ex x Γ1)
    | none => none
  | .for_ tg it body, Γ => match evIt F it Γ with
    | some (.ok ds Γ1) => forL (fun Γ => exB F body Γ) (fun Γ d => bindTg Γ tg d) ds Γ1
    | some (.ex x Γ1) => some (.ex x Γ1)
    | none => none
  | .whl n c body, Γ => whL (fun Γ => evT F c Γ) (fun Γ => exB F body Γ) n Γ
  | .brk, Γ => some (.bk Γ)
  | .cnt, Γ => some (.ct Γ)
  | .pass, Γ => some (.nx Γ)
  | .doc, Γ => some (.nx Γ)
  | .rais x, Γ => some (.ex x Γ)
  | .tryC body c i j xs, Γ => match exB F body Γ with
    | some (.ex x Γ1) => if xs.contains x = true ∧ i < Γ1.length then (if Hx.isxB x c = true then some (.nx ((Γ1.set j (.x x)).set i .gone)) else some (.ex x Γ1)) else none
    | r => r
  | .dput i a e, Γ => match ev F e Γ with
    | some (.ok tv Γ1) => (match asInt tv, Γ1[i]? with
      | some v, some (.d _) => (match ev F a Γ1 with
        | some (.ok ta Γ2) => (match asKey ta, Γ2[i]? with
          | some ks, some (.d kvs) => if kvs.length < sizeLine then some (.nx (Γ2.set i (.d (ptI kvs ks v)))) else none
          | _, _ => none)
        | _ => none)
      | _, _ => none)
    | some (.ex x Γ1) => some (.ex x Γ1)
    | none => none
  | .bor i es j body, Γ => match Γ[i]? with
    | some .gone => none
    | some t => (match evAs F (es.map .e) (Γ.set i .gone) with
      | some (.ok avs Γ2) => (match idxs avs with
        | some ks => (match getT ks t, putP some ks t with
          | some x, some _ => (match exB F body (Γ2.set j x) with
            | some (.nx Γ3) => (match Γ3[i]?, Γ3[j]? with
              | some .gone, some (.l ys) => (match putT (.l ys) ks t with
                | some t' => some (.nx ((Γ3.set j .gone).set i t'))
                | none => none)
              | _, _ => none)
            | _ => none)
          | _, _ => none)
        | none => none)
      | _ => none)
    | none => none
  | .pre i s, Γ => match Γ[i]? with
    | some (.l xs) => (match frz (.l xs) with
      | some d => exS F s (Γ.set i (.c d))
      | none => none)
    | _ => exS F s Γ
def exB (F : Genv) : List CS → List Tr → Option SR
  | [], Γ => some (.nx Γ)
  | s :: ss, Γ => match exS F s Γ with
    | some (.nx Γ1) => exB F ss Γ1
    | r => r
end
def outsOf : List Bool → List Tr → List Tr
  | true :: ps, x :: xs => x :: outsOf ps xs
  | false :: ps, _ :: xs => .gone :: outsOf ps xs
  | _, _ => []
def runDef (F : Genv) (n : Nat) (ps : List Bool) (body : List CS) (ts : List Tr) : Option FR :=
  if ts.length = ps.length ∧ ps.length ≤ n then
    match exB F body (ts ++ List.replicate (n - ts.length) .gone) with
    | some (.nx Γ) => some (.ok (.c .none) (outsOf ps Γ))
    | some (.rt t Γ) => some (.ok t (outsOf ps Γ))
    | some (.ex x _) => some (.ex x)
    | _ => none
  else none
end Hw
set_option Elab.async false
set_option linter.all false
set_option maxRecDepth 100000
set_option maxHeartbeats 1000000
namespace Hx
open PySem PySem.Spec PyProof.Rows L2
def IsItB : Bool → Heap → Addr → Addr → Nat → Prop
  | true, h, it, a, i => h.IsTupleIter it a i
  | false, h, it, a, i => h.IsListIter it a i
def IsSqB : Bool → Heap → Addr → Array Value → Prop
  | true, h, a, zs => h.IsTuple a zs
  | false, h, a, zs => h.IsList a zs
def itc : Bool → String
  | true => "tuple_iterator"
  | false => "list_iterator"
def SqB (K : PySem.W.Frag) (H : Hp) : Bool → Addr → List V → Prop
  | true, a, xs => SqT K H a xs
  | false, a, xs => SqL K H a xs
theorem drawsB {P : Program} {w : World} {A : Around} (hh : A.handled = none) (it a : Addr) (n : a ≠ it) (zs : Array Value) : ∀ b : Bool, Draws P w A it [it, a] zs.size (fun i v => zs[i]? = some v) (fun i h => IsItB b h it a i ∧ IsSqB b h a zs)
  | true => Draws.tuple hh it a n zs
  | false => Draws.list hh it a n zs
theorem iterB {P : Program} {w : World} {A : Around} {E : Value → Shared → Prop} {s : Shared} {t : Addr} {zs : Array Value} {Q : Value → Shared → Prop} : ∀ {b : Bool}, IsSqB b s.heap t zs →
    Q (.ref s.heap.objs.size) { s with heap := s.heap.push { cls := .type (itc b), data := .fields #[.ref t, .int 0 0] } } → wpAny (model P w) A (pyIter (.ref t)) Q E s
  | true, ht, q => wpAny_pyIter_tuple ht q
  | false, ht, q => wpAny_pyIter_list ht q
theorem IsSqB.ex {h : Heap} {a : Addr} {zs : Array Value} : ∀ {b : Bool}, IsSqB b h a zs → ∃ o, h.get? a = some o
  | true, ⟨o, e, _⟩ => ⟨o, e⟩
  | false, ⟨o, e, _⟩ => ⟨o, e⟩
theorem IsSqB.push {h : Heap} {a : Addr} {zs : Array Value} (o : Obj) : ∀ {b : Bool}, IsSqB b h a zs → IsSqB b (h.push o) a zs
  | true, x => Heap.IsTuple.push x o
  | false, x => Heap.IsList.push x o
theorem IsItB.at {h h' : Heap} {it a : Addr} {i : Nat} : ∀ {b : Bool}, IsItB b h it a i → (∀ o, h.get? it = some o → h'.get? it = some o) → IsItB b h' it a i
  | true, x, k => Heap.IsTupleIter.at x k
  | false, x, k => Heap.IsListIter.at x k
theorem IsItB.ob {h : Heap} {it a : Addr} {i : Nat} : ∀ {b : Bool}, IsItB b h it a i → ∃ o, h.get? it = some o ∧ ∀ v, o.data ≠ .cell v
  | true, ⟨o, e, _, d⟩ => ⟨o, e, fun v q => by rw [d] at q; cases q⟩
  | false, ⟨o, e, _, d⟩ => ⟨o, e, fun v q => by rw [d] at q; cases q⟩
theorem apB {h : Heap} {it a : Addr} {i : Nat} {zs : Array Value} : ∀ {b : Bool}, IsSqB b h a zs → IsItB b h it a i → a ≠ it
  | true, x, ⟨o, e, hc, _⟩ => apart x e (by rw [hc]; decide)
  | false, ⟨u, e', hc', _⟩, ⟨o, e, hc, _⟩ => fun z => by
    subst z
    rw [e] at e'
    cases e'
    rw [hc] at hc'
    exact absurd hc' (by decide)
theorem IsItB.new {h : Heap} {it a : Addr} : ∀ {b : Bool}, h.get? it = some { cls := .type (itc b), data := .fields #[.ref a, .int 0 0] } → IsItB b h it a 0
  | true, e => ⟨_, e, rfl, rfl⟩
  | false, e => ⟨_, e, rfl, rfl⟩
theorem seqB {X : Cx} {pins : List (Addr × Obj)} {σ : L2.St} {H : Hp} {s : Shared} (I : Inv X pins σ H s) {a : Addr} {xs : List V} : ∀ {b : Bool}, SqB X.K H b a xs → ∃ its, Vals xs its ∧ IsSqB b s.heap a its.toArray
  | true, h => let ⟨its, rv, p, _⟩ := I.tuple h; ⟨its, rv, p⟩
  | false, h => let ⟨its, rv, p, _⟩ := I.list h; ⟨its, rv, p.isList⟩
theorem injB {X : Cx} {pins : List (Addr × Obj)} {σ : L2.St} {H : Hp} {s : Shared} (I : Inv X pins σ H s) {a : Addr} {xs ys : List V} : ∀ {b : Bool}, SqB X.K H b a xs → SqB X.K H b a ys → xs = ys
  | true, h, k => I.tuple_inj h k
  | false, h, k => I.list_inj h k
def ItzB (K : PySem.W.Frag) (b1 b2 : Bool) (a c : Addr) : It where
  go i H := ∃ (xs ys : List V) (x y : V), SqB K H b1 a xs ∧ SqB K H b2 c ys ∧ xs[i]? = some x ∧ ys[i]? = some y
  yld i H v H' := ∃ T x y, v = .ref T ∧ H T = none ∧ H' = upd H T (.tup [x, y]) ∧ (∀ xs, SqB K H b1 a xs → xs[i]? = some x) ∧ ∀ ys, SqB K H b2 c ys → ys[i]? = some y
  stop i H := ∃ xs ys : List V, SqB K H b1 a xs ∧ SqB K H b2 c ys ∧ i = min xs.length ys.length
theorem turn_zB {P : Program} {w : World} {K : PySem.W.Frag} {es : List Expr} {m : Nat} {tp : Pos} {b1 b2 : Bool} {a c z TI TO i1 i2 : Addr} (S : ZipSep2 z TI TO i1 i2 [i1, a] [i2, c]) :
    Turn P w K (.Tuple es m tp) (ItzB K b1 b2 a c) [z, TI, TO, i1, i2] z (fun i h => IsZip h z TI TO .none ∧ IsTupOf2 h TI (.ref i1) (.ref i2) ∧ (∃ x y, IsTupOf2 h TO x y) ∧ IsItB b1 h i1 a i ∧ IsItB b2 h i2 c i) where
  mem := List.mem_cons_self ..
  obj := fun i h st q hq => by
    obtain ⟨hz, hTI, ⟨x, y, hTO⟩, h1, h2⟩ := st
    have e : q = z ∨ q = TI ∨ q = TO ∨ q = i1 ∨ q = i2 := by simpa using hq
    rcases e with e | e | e | e | e
    · subst e; exact ⟨_, hz, fun v k => nomatch k⟩
    · subst e; exact ⟨_, hTI, fun v k => nomatch k⟩
    · subst e; exact ⟨_, hTO, fun v k => nomatch k⟩
    · subst e; exact h1.ob
    · subst e; exact h2.ob
  keep := fun i h h' st k => by
    obtain ⟨hz, hTI, ⟨x, y, hTO⟩, h1, h2⟩ := st
    exact ⟨k z (by simp) _ hz, k TI (by simp) _ hTI, ⟨x, y, k TO (by simp) _ hTO⟩, h1.at fun o q => k i1 (by simp) o q, h2.at fun o q => k i2 (by simp) o q⟩
  item := by
    intro X hP hw hK hc i pins s σ H E I hf st hg
    subst hP hw hK
    obtain ⟨hz, hTI, ⟨x0, y0, hTO⟩, h1, h2⟩ := st
    obtain ⟨xs, ys, x, y, hqx, hqy, hx, hy⟩ := hg
    obtain ⟨its, rv, p⟩ := seqB I hqx
    obtain ⟨jts, rv2, p2⟩ := seqB I hqy
    obtain ⟨u, hu, ru⟩ := rv.get hx
    obtain ⟨u2, hu2, ru2⟩ := rv2.get hy
    have zl : z < s.heap.objs.size := Heap.lt_size hz
    have n1 : a ≠ i1 := apB p h1
    have n2 : c ≠ i2 := apB p2 h2
    refine wpAny_pyNext_zipD2_item S (drawsB (A := X.A.in1) (I.ok.hd hc) i1 a n1 its.toArray b1) (drawsB (A := X.A.in1) (I.ok.hd hc) i2 c n2 jts.toArray b2) hz hTI hTO ⟨h1, p⟩ ⟨h2, p2⟩ (by have := (List.getElem?_eq_some_iff.mp hu).1; simpa using this) (by have := (List.getElem?_eq_some_iff.mp hu2).1; simpa using this) fun v1 v2 g tk e1 e2 z' TO' d1 d2 hT hsz hk => ?_
    have yu : v1 = u := by
      have : its[i]? = some v1 := by simpa using e1
      rw [hu] at this
      exact (Option.some.inj this).symm
    have yu2 : v2 = u2 := by
      have : jts[i]? = some v2 := by simpa using e2
      rw [hu2] at this
      exact (Option.some.inj this).symm
    subst yu yu2
    refine ⟨_, rfl, wpAny_letOwnedTupleGo_zip (s := { s with heap := g, toks := tk }) z' fun g2 z'' sb => ?_⟩
    have hT2 : g2.get? s.heap.objs.size = some { cls := .type "tuple", data := .seq #[v1, v2] } := (sb.2 _ (Nat.ne_of_gt zl)).trans hT
    have new : ObjOk X.prog X.w (upd H s.heap.objs.size (.tup [x, y])) g2 s.heap.objs.size (.tup [x, y]) :=
      ⟨by show 2 ≤ sizeLine; decide, [v1, v2], .cons ru (.cons ru2 .nil), ⟨_, hT2, rfl, _, rfl⟩⟩
    have I1 : Inv X pins σ (upd H s.heap.objs.size (.tup [x, y])) { s with heap := g2, toks := tk } :=
      I.turnedNew (t' := tk) (ch := [z, TI, TO, i1, i2]) (fun q o hb e => (sb.2 q (fun k => hb (by simp [k]))).trans (hk q o (fun k => hb (by simp [k])) (fun k => hb (by simp [k])) (fun k => hb (by simp [k])) (fun k => hb (by simp [k])) e)) hf (Nat.le_refl _) new
    refine ⟨.ref s.heap.objs.size, _, I1, rfl, ⟨_, x, y, rfl, I.hok.fresh (Nat.le_refl _), rfl, fun l hl => by rw [injB I hl hqx]; exact hx, fun l hl => by rw [injB I hl hqy]; exact hy⟩, ⟨z'', ?_, ⟨v1, v2, ?_⟩, ?_, ?_⟩, fun q hq => ?_⟩
    · exact (sb.2 _ S.TIz).trans (hk _ _ S.TIz S.TITO S.TIi1 S.TIi2 hTI)
    · exact (sb.2 _ S.TOz).trans TO'
    · exact d1.1.at fun o e => (sb.2 _ (Ne.symm S.zi1)).trans e
    · exact d2.1.at fun o e => (sb.2 _ (Ne.symm S.zi2)).trans e
    · have lt : q < s.heap.objs.size := by
        have e : q = z ∨ q = TI ∨ q = TO ∨ q = i1 ∨ q = i2 := by simpa using hq
        rcases e with e | e | e | e | e
        · rw [e]; exact zl
        · rw [e]; exact Heap.lt_size hTI
        · rw [e]; exact Heap.lt_size hTO
        · rw [e]; obtain ⟨_, e1, _⟩ := h1.ob; exact Heap.lt_size e1
        · rw [e]; obtain ⟨_, e2, _⟩ := h2.ob; exact Heap.lt_size e2
      rw [upd_ne (Nat.ne_of_lt lt)]
      exact (hf q hq).1
  done := by
    intro X hP hw hK hc i pins s σ H E I hf st hg
    subst hP hw hK
    obtain ⟨hz, hTI, ⟨x0, y0, hTO⟩, h1, h2⟩ := st
    obtain ⟨xs, ys, hqx, hqy, hend⟩ := hg
    obtain ⟨its, rv, p⟩ := seqB I hqx
    obtain ⟨jts, rv2, p2⟩ := seqB I hqy
    have l1 := rv.length
    have l2 := rv2.length
    have n1 : a ≠ i1 := apB p h1
    have n2 : c ≠ i2 := apB p2 h2
    exact wpAny_pyNext_zipD2_end S (drawsB (A := X.A.in1) (I.ok.hd hc) i1 a n1 its.toArray b1) (drawsB (A := X.A.in1) (I.ok.hd hc) i2 c n2 jts.toArray b2) hz hTI hTO ⟨h1, p⟩ ⟨h2, p2⟩ (by simp; omega) (by simp; omega) (by simp; omega) fun g tk hk => ⟨rfl, I.turnedL (t' := tk) (ch := [z, TI, TO, i1, i2]) (fun q o hb e =>
      hk q o (fun k => hb (by simp [k])) (fun k => hb (by simp [k])) (fun k => hb (by simp [k])) (fun k => hb (by simp [k])) e) hf⟩
  self := fun A i s Q E st h => wpAny_pyIter_zip st.1 h
abbrev zO (b : Bool) (l : Addr) : Obj := { cls := .type (itc b), data := .fields #[.ref l, .int 0 0] }
abbrev zA (h : Heap) (b1 b2 : Bool) (l1 l2 : Addr) : Heap := (h.push (zO b1 l1)).push (zO b2 l2)
abbrev zB (h : Heap) (b1 b2 : Bool) (l1 l2 : Addr) : Heap := (zA h b1 b2 l1 l2).push { cls := .type "tuple", data := .seq #[.ref h.objs.size, .ref (h.push (zO b1 l1)).objs.size] }
abbrev zC (h : Heap) (b1 b2 : Bool) (l1 l2 : Addr) : Heap := (zB h b1 b2 l1 l2).push { cls := .type "tuple", data := .seq #[.none, .none] }
abbrev zD (h : Heap) (b1 b2 : Bool) (l1 l2 : Addr) : Heap := (zC h b1 b2 l1 l2).push { cls := .type "zip", data := .fields #[.none, .bool false, .bool false, .ref (zA h b1 b2 l1 l2).objs.size, .ref (zB h b1 b2 l1 l2).objs.size] }
theorem made_zB (b1 b2 : Bool) (l1 l2 : Addr) (xs ys : Array Value) :
    Meets (Builtin.«zip.__new__» ⟨[.type "zip", .ref l1, .ref l2], []⟩) (fun _ R s => IsSqB b1 s.heap l1 xs ∧ IsSqB b2 s.heap l2 ys ∧
      R (.ok (.ret (.ref (zC s.heap b1 b2 l1 l2).objs.size))) { s with heap := zD s.heap b1 b2 l1 l2 }) :=
  .of_wp fun P w A R s hh => by
    obtain ⟨hp, g, d, tk, os⟩ := s
    obtain ⟨q1, q2, hr⟩ := hh
    have sub := sub_zip
    have m1 : IsSqB b1 (Shared.heap ⟨hp, g, d, tk, os⟩) l1 xs := q1
    have m2 : IsSqB b2 (Shared.heap ⟨hp.push (zO b1 l1), g, d, tk, os⟩) l2 ys := q2.push _
    wp_walk using iterB m1, iterB m2
    exact ⟨_, rfl, hr⟩
section
variable {P : Program} {w : World} {A : Around} {E : Value → Shared → Prop} {s : Shared}
theorem call_zB {b1 b2 : Bool} {l1 l2 : Addr} {xs ys : Array Value} {Q : Value → Shared → Prop} (q1 : IsSqB b1 s.heap l1 xs) (q2 : IsSqB b2 s.heap l2 ys)
    (k : ∀ h' n, n = s.heap.objs.size → IsZip h' (n + 4) (n + 2) (n + 3) .none → IsTupOf2 h' (n + 2) (.ref n) (.ref (n + 1)) → IsTupOf2 h' (n + 3) .none .none → IsItB b1 h' n l1 0 → IsItB b2 h' (n + 1) l2 0 →
      (∀ c o, s.heap.get? c = some o → h'.get? c = some o) → Q (.ref (n + 4)) { s with heap := h' }) :
    wpAny (model P w) A (call (.type "zip") [.ref l1, .ref l2]) Q E s := by
  refine callType_new F.called_zip (by decide) (F.typeCall_zip_2 _ _) (F.newCall_zip_2 _ _) (fun obj => F.args_object_init_3 obj _ _) F.entry_zip_new (made_zB b1 b2 l1 l2 xs ys) ⟨q1, q2, ?_⟩
  have s1 : (s.heap.push (zO b1 l1)).objs.size = s.heap.objs.size + 1 := Heap.size_push ..
  have s2 : (zA s.heap b1 b2 l1 l2).objs.size = s.heap.objs.size + 2 := by rw [Heap.size_push, s1]
  have s3 : (zB s.heap b1 b2 l1 l2).objs.size = s.heap.objs.size + 3 := by rw [Heap.size_push, s2]
  have s4 : (zC s.heap b1 b2 l1 l2).objs.size = s.heap.objs.size + 4 := by rw [Heap.size_push, s3]
  have up : ∀ {h : Heap} {o u : Obj} {q : Addr}, h.get? q = some u → (h.push o).get? q = some u := fun e => Heap.get?_push_of_some _ e
  have g5 : (zD s.heap b1 b2 l1 l2).get? (zC s.heap b1 b2 l1 l2).objs.size = some _ := Heap.get?_push_size _ rfl
  have g4 : (zD s.heap b1 b2 l1 l2).get? (zB s.heap b1 b2 l1 l2).objs.size = some _ := up (Heap.get?_push_size _ rfl)
  have g3 : (zD s.heap b1 b2 l1 l2).get? (zA s.heap b1 b2 l1 l2).objs.size = some _ := up (up (Heap.get?_push_size _ rfl))
  have g2 : (zD s.heap b1 b2 l1 l2).get? (s.heap.push (zO b1 l1)).objs.size = some _ := up (up (up (Heap.get?_push_size _ rfl)))
  have g1 : (zD s.heap b1 b2 l1 l2).get? s.heap.objs.size = some _ := up (up (up (up (Heap.get?_push_size _ rfl))))
  show _ ∧ _
  rw [s4, s2, s3] at g5
  rw [s2, s1] at g3
  rw [s3] at g4
  rw [s1] at g2
  rw [s4]
  exact ⟨⟨_, g5, rfl⟩, k _ _ rfl g5 g3 g4 (.new g1) (.new g2) fun c o x => up (up (up (up (up x))))⟩
end
theorem notin2 {x y z : Nat} (h : x ≠ y) (k : x ≠ z) : x ∉ [y, z] := fun m => by
  rcases List.mem_cons.mp m with e | e
  · exact h e
  · exact k (List.mem_singleton.mp e)
theorem ne_ {x y : Nat} (h : x < y ∨ y < x) : x ≠ y := fun e => by subst e; omega
theorem sepN (n a b : Nat) (la : a < n) (lb : b < n) : ZipSep2 (n + 4) (n + 2) (n + 3) n (n + 1) [n, a] [n + 1, b] where
  TIz := ne_ (by omega)
  TOz := ne_ (by omega)
  TITO := ne_ (by omega)
  TIi1 := ne_ (by omega)
  mem1 := List.mem_cons_self ..
  zf1 := notin2 (ne_ (by omega)) (ne_ (by omega))
  Tf1 := notin2 (ne_ (by omega)) (ne_ (by omega))
  TIi2 := ne_ (by omega)
  mem2 := List.mem_cons_self ..
  zf2 := notin2 (ne_ (by omega)) (ne_ (by omega))
  Tf2 := notin2 (ne_ (by omega)) (ne_ (by omega))
  sep1_2 := notin2 (ne_ (by omega)) (ne_ (by omega))
  sep2_1 := notin2 (ne_ (by omega)) (ne_ (by omega))
def iZipB (K : PySem.W.Frag) (ta : TA) : TI := fun σ H R => ta σ H fun vs H1 => ∃ b1 b2 a b xs ys, vs = [.ref a, .ref b] ∧ SqB K H1 b1 a xs ∧ SqB K H1 b2 b ys ∧ R (ItzB K b1 b2 a b) H1
theorem pi_zipB {X : Cx} {e e2 : Expr} {ta : TA} {p pos tp : Pos} {es : List Expr} {m : Nat} (hg : Gl X "zip") (hm : X.mg "zip" = none) (ha : PA X [e, e2] ta)
    (hs : starEach [e, e2] X.env = (false, eval e X.env) :: starEach [e2] X.env) (hpl : (backTo pos (starEach [e2] X.env)).any (·.1) = false) :
    PI X (.Tuple es m tp) (.Call (.Name "zip" p) [e, e2] [] pos) (iZipB X.K ta) := by
  constructor
  intro pins s σ H R I q
  refine Call_ (ld_blt I hg hm PyProof.Rows.boot_zip (PyProof.Rows.callWith_type1 (thn (ha.run pos pins s σ H _ I q) fun us s1 ⟨vs, H1, I1, r1, q1⟩ => ?_) hs hpl))
  obtain ⟨b1, b2, a, b, xs, ys, rfl, h1, h2, q⟩ := q1
  have go : ∀ u1 u2, us = [u1, u2] → u1 = .ref a → u2 = .ref b → wpAny (model X.prog X.w) X.A (call (.type "zip") us) (fun v s1 => wpAny (model X.prog X.w) X.A (pyIter v) (PIE X pins σ (.Tuple es m tp) R) X.xe s1) X.xe s1 := by
    intro u1 u2 hu e1 e2
    subst hu e1 e2
    obtain ⟨its, rv, t1⟩ := seqB I1 h1
    obtain ⟨jts, rv2, t2⟩ := seqB I1 h2
    obtain ⟨_, ea⟩ := t1.ex
    obtain ⟨_, eb⟩ := t2.ex
    have la := Heap.lt_size ea
    have lb := Heap.lt_size eb
    refine call_zB t1 t2 fun h' n hn z1 z2 z3 z4 z5 hk => wpAny_pyIter_zip z1 ?_
    have I2 : Inv X pins σ H1 { s1 with heap := h' } := I1.kept (t' := s1.toks) hk
    have S := sepN n a b (by rw [hn]; exact la) (by rw [hn]; exact lb)
    have fr : ∀ c ∈ [n + 4, n + 2, n + 3, n, n + 1], FpOk X pins H1 c := fun c hc => by
      have le : s1.heap.objs.size ≤ c := by
        have q : c = n + 4 ∨ c = n + 2 ∨ c = n + 3 ∨ c = n ∨ c = n + 1 := by simpa using hc
        have hn' : (n : Nat) = s1.heap.objs.size := hn
        rcases q with e | e | e | e | e <;> (rw [e, ← hn']; first | exact Nat.le_add_right _ _ | exact Nat.le_refl _)
      exact I1.fpOk le (I1.hok.fresh le)
    have T := turn_zB (P := X.prog) (w := X.w) (K := X.K) (es := es) (m := m) (tp := tp) (b1 := b1) (b2 := b2) S
    exact ⟨n + 4, [n + 4, n + 2, n + 3, n, n + 1], _, _, H1, rfl, I2, T, ⟨z1, z2, ⟨_, _, z3⟩, z4, z5⟩, fr, q⟩
  cases r1 with
  | cons r rr =>
    cases rr with
    | cons r' rr' =>
      cases rr'
      exact go _ _ rfl r r'
end Hx
set_option Elab.async false
set_option linter.all false
set_option maxRecDepth 100000
namespace Hx
open PySem PySem.Spec PyProof.Rows L2
section
variable {prog : Program} {w : World} {A : Around} {E : Value → Shared → Prop} {s : Shared} {l : Addr} {its : List Value} {ns : List Int} {Q : Value → Shared → Prop}
theorem tsum_raw (hh : A.handled = none) (hl : s.heap.IsTuple l its.toArray) (hi : IntsAre its ns)
    (h : ∀ h' tk t', (∀ b o, s.heap.get? b = some o → h'.get? b = some o) → Q (.int ns.sum t') { s with heap := h', toks := tk }) : wpAny (model prog w) A (call (.builtin "sum") [.ref l]) Q E s := by
  obtain ⟨xs, e⟩ := hi.allInts.items
  have hn : numsOf (intItems xs).toList = ns := by rw [← e]; exact hi.numsOf
  rw [nums_intItems] at hn
  rw [e] at hl
  refine PySem.W.ktm_sumG hh hl fun h' tk t' hk => ?_
  have := h h' tk t' hk
  rw [preSum_eq, List.take_of_length_le (by simp), hn]; exact this
theorem tup_it {xs : Array (Int × Tok)} (hl : s.heap.IsTuple l (intItems xs)) {Q : Value → Shared → Prop}
    (h : ∀ s₂ : Shared, s₂ = { s with heap := s.heap.push { cls := .type "tuple_iterator", data := .fields #[.ref l, .int 0 0] } } → (s₂.heap.IsTupleIter s.heap.objs.size l 0 ∧ s₂.heap.IsTuple l (intItems xs)) → (∀ b ∈ [s.heap.objs.size, l], b < s₂.heap.objs.size) → l ≠ s.heap.objs.size → Q (.ref s.heap.objs.size) s₂) :
    wpAny (model prog w) A (pyIter (.ref l)) Q E s := by
  have hlt : l < s.heap.objs.size := by obtain ⟨_, e, _⟩ := hl; exact Heap.lt_size e
  refine wpAny_pyIter_tuple hl (h _ rfl ⟨⟨_, Heap.get?_push_size _ rfl, rfl, rfl⟩, hl.at fun o e => Heap.get?_push_of_some _ e⟩ (fun b hb => ?_) (Nat.ne_of_lt hlt))
  show b < (s.heap.push _).objs.size
  rw [Heap.size_push]
  rcases List.mem_cons.mp hb with rfl | hb
  · exact Nat.lt_succ_self _
  · rcases List.mem_cons.mp hb with rfl | hb
    · exact Nat.lt_succ_of_lt hlt
    · cases hb
theorem old_tk {h' : Heap} (hk : ∀ b o, b ∉ [s.heap.objs.size] → (s.heap.push { cls := .type "tuple_iterator", data := .fields #[.ref l, .int 0 0] }).get? b = some o → h'.get? b = some o) : ∀ b o, s.heap.get? b = some o → h'.get? b = some o := fun b o e => by
  refine hk b o (fun hm => ?_) (Heap.get?_push_of_some _ e)
  have := Heap.lt_size e
  rcases List.mem_cons.mp hm with e1 | hm
  · rw [e1] at this; exact Nat.lt_irrefl _ this
  · cases hm
theorem tmax_raw (hh : A.handled = none) (hl : s.heap.IsTuple l its.toArray) (hi : IntsAre its ns) (hne : 0 < ns.length)
    (h : ∀ h' tk M t', (∀ b o, s.heap.get? b = some o → h'.get? b = some o) → M ∈ ns → (∀ a, a ∈ ns → a ≤ M) → Q (.int M t') { s with heap := h', toks := tk }) : wpAny (model prog w) A (call (.builtin "max") [.ref l]) Q E s := by
  obtain ⟨xs, e⟩ := hi.allInts.items
  have hn : numsOf (intItems xs).toList = ns := by rw [← e]; exact hi.numsOf
  rw [nums_intItems] at hn
  subst hn
  rw [e] at hl
  have hsz : 0 < xs.size := by simpa using hne
  refine call_max_walk (tup_it hl fun s₂ e st hfp hlI => ?_)
  subst e
  refine ⟨_, _, _, _, _, _, _, rfl, Walks.tuple (A := A.in1) hh _ l hlI (intItems xs), st, hfp, by simpa [intItems] using hsz, CmpOf.ints_gt (numAt xs) (fun _ _ => intItems_at), fun v h' tk hP hk => ?_⟩
  have hv : (intItems xs)[argBest (fun i j => decide (numAt xs i > numAt xs j)) (xs.size - 1)]? = some v := by simpa [intItems] using hP
  obtain ⟨t, rfl⟩ := intItems_at hv
  obtain ⟨h1, h2⟩ := argBest_gt (numAt xs) (xs.size - 1)
  refine h h' tk _ t (old_tk hk) ?_ fun a ha => ?_
  · rw [numAt_eq]; exact PySem.getD_mem (by rw [List.length_map, Array.length_toList]; omega)
  · obtain ⟨j, hj, rfl⟩ := mem_getD ha
    rw [List.length_map, Array.length_toList] at hj
    rw [← numAt_eq]; exact h2 j (by omega)
end
section
variable {X : Cx}
def rSumT (K : PySem.W.Frag) : List V → Hp → VK → Prop := fun vs H Q => ∃ (a : Addr) (ns : List Int), vs = [V.ref a] ∧ SqT K H a (ns.map V.int) ∧ Q (.int ns.sum) H
def rMaxT (K : PySem.W.Frag) : List V → Hp → VK → Prop := fun vs H Q => ∃ (a : Addr) (ns : List Int), vs = [V.ref a] ∧ SqT K H a (ns.map V.int) ∧ 0 < ns.length ∧ ∀ m, m ∈ ns → (∀ y, y ∈ ns → y ≤ m) → Q (.int m) H
theorem cr_sumT (hc : X.calm = true) : CallR X (.builtin "sum") (rSumT X.K) := by
  intro pins s σ H vs us Q I r h
  obtain ⟨a, ns, rfl, hs, q⟩ := h
  obtain ⟨its, rv, hl, _⟩ := I.tuple hs
  rw [Vals.ref1 r]
  exact tsum_raw (I.ok.hd hc) hl rv.ints fun h' tk t' hk => ⟨.int _, H, I.kept hk, ⟨_, rfl⟩, q⟩
theorem cr_maxT (hc : X.calm = true) : CallR X (.builtin "max") (rMaxT X.K) := by
  intro pins s σ H vs us Q I r h
  obtain ⟨a, ns, rfl, hs, hne, q⟩ := h
  obtain ⟨its, rv, hl, _⟩ := I.tuple hs
  rw [Vals.ref1 r]
  exact tmax_raw (I.ok.hd hc) hl rv.ints hne fun h' tk m t' hk h1 h2 => ⟨.int _, H, I.kept hk, ⟨_, rfl⟩, q m h1 h2⟩
end
end Hx
set_option Elab.async false
set_option linter.all false
set_option maxRecDepth 100000
set_option maxHeartbeats 1000000
namespace Hw
open PySem PySem.Spec PyProof.Rows L2
def RepW (K : PySem.W.Frag) (H : Hp) (f : Fp) (t : Tr) (v : V) : Prop := ∃ g, Rep K H f t v g
def Alc (H : Hp) (f : Fp) : Prop := ∀ a, 1 ≤ f a → ∃ o, H a = some o
theorem Alc.zero {H : Hp} {f : Fp} {p : Addr} (h : Alc H f) (n : H p = none) : f p = 0 := by
  cases q : f p with
  | zero => rfl
  | succ k =>
    obtain ⟨o, e⟩ := h p (by omega)
    rw [n] at e; cases e
def New (K : PySem.W.Frag) (H : Hp) (f : Fp) (H' : Hp) (f' : Fp) (t : Tr) (v : V) : Prop :=
  Ext H H' ∧ ∃ g, Rep K H' f' t v g ∧ (∀ a, f' a = f a + g a) ∧ ∀ a, 1 ≤ g a → g a ≤ 1 ∧ H a = none ∧ ∃ o, H' a = some o
section
variable {K : PySem.W.Frag} {H H' : Hp} {f f' pr : Fp}
theorem New.stp {t : Tr} {v : V} (n : New K H f H' f' t v) (pr : Fp) : Stp H f pr H' f' := by
  obtain ⟨e, g, r, hf, hg⟩ := n
  refine ⟨fun a o h h0 => ⟨e a o h, ?_⟩, fun a o _ h => e a o h⟩
  rw [hf a, h0, Nat.zero_add]
  cases q : g a with
  | zero => rfl
  | succ k =>
    obtain ⟨_, z, _⟩ := hg a (by omega)
    rw [h] at z; cases z
theorem New.alc {t : Tr} {v : V} (n : New K H f H' f' t v) (h : Alc H f) : Alc H' f' := by
  obtain ⟨e, g, r, hf, hg⟩ := n
  intro a ha
  rw [hf a] at ha
  by_cases q : 1 ≤ g a
  · exact (hg a q).2.2
  · obtain ⟨o, ho⟩ := h a (by omega)
    exact ⟨o, e a o ho⟩
theorem New.le1 {t : Tr} {v : V} (n : New K H f H' f' t v) (h : Alc H f) (h1 : ∀ a, f a ≤ 1) : ∀ a, f' a ≤ 1 := by
  obtain ⟨e, g, r, hf, hg⟩ := n
  intro a
  rw [hf a]
  by_cases q : 1 ≤ g a
  · obtain ⟨q1, q2, _⟩ := hg a q
    have := h.zero q2
    omega
  · have := h1 a
    omega
theorem New.flat {d : PyData} {v : V} (h : Dr K (mn H f) d v) : New K H f H f (.c d) v :=
  ⟨Ext.refl H, fun _ => 0, by unfold Rep; exact h, fun a => by simp, fun a z => by simp at z⟩
theorem New.int (i : Int) : New K H f H f (iT i) (.int i) := New.flat (by unfold Dr; rfl)
theorem New.bool (b : Bool) : New K H f H f (bT b) (.bl b) := New.flat (by unfold Dr; rfl)
theorem New.str (x : Str) : New K H f H f (.c (.str x)) (.str x) := New.flat (by unfold Dr; rfl)
theorem mn_new {p : Addr} {o : HO} (n : H p = none) (h : Alc H f) : Ext (mn H f) (mn (upd H p o) f) := fun a u e => by
  obtain ⟨e0, e⟩ := mn_some e
  exact mn_of e0 (Ext.new n a u e)
theorem New.tup {p : Addr} {ds : List PyData} {xs : List V} (n : H p = none) (h : Alc H f) (d : DrL K (mn H f) ds xs) : New K H f (upd H p (.tup xs)) f (.c (.tuple ds)) (.ref p) := by
  refine ⟨Ext.new n, fun _ => 0, ?_, fun a => by simp, fun a z => by simp at z⟩
  unfold Rep Dr
  exact ⟨p, xs, rfl, mn_of (h.zero n) upd_same, DrL.ext (mn_new n h) d⟩
theorem RepL.settled : ∀ {ds : List PyData} {xs : List V}, DrL K (mn H f) ds xs → RepL K H f (ds.map .c) xs (fun _ => 0)
  | [], _, h => by unfold DrL at h; rw [h]; show RepL K H f [] _ _; unfold RepL; rfl
  | d :: ds, _, h => by
    unfold DrL at h
    obtain ⟨v, r, rfl, h1, h2⟩ := h
    show RepL K H f (.c d :: ds.map .c) _ _
    unfold RepL
    exact ⟨v, r, fun _ => 0, fun _ => 0, rfl, by unfold Rep; exact h1, RepL.settled h2, fun _ => Nat.le_refl _⟩
theorem mn_lnew {p : Addr} {o : HO} (n : H p = none) (h : Alc H f) : Ext (mn H f) (mn (upd H p o) fun a => f a + one p a) := fun a u e => by
  obtain ⟨e0, e⟩ := mn_some e
  have hp : a ≠ p := ne_of_none e n
  refine mn_of ?_ (Ext.new n a u e)
  show f a + one p a = 0
  rw [e0, one_ne hp]
theorem New.lst {p : Addr} {ds : List PyData} {xs : List V} (n : H p = none) (h : Alc H f) (d : DrL K (mn H f) ds xs) : New K H f (upd H p (.lst xs)) (fun a => f a + one p a) (lT ds) (.ref p) := by
  refine ⟨Ext.new n, one p, ?_, fun a => rfl, fun a z => ?_⟩
  · unfold lT Rep
    exact ⟨p, xs, fun _ => 0, rfl, upd_same, RepL.settled (DrL.ext (mn_lnew n h) d), fun a => by simp⟩
  · by_cases q : a = p
    · subst q
      exact ⟨by rw [one_self]; exact Nat.le_refl _, n, _, upd_same⟩
    · rw [one_ne q] at z; omega
theorem asInt_rep {t : Tr} {v : V} {i : Int} (r : RepW K H f t v) (e : asInt t = some i) : v = .int i := by
  obtain ⟨g, r⟩ := r
  unfold asInt at e
  split at e
  · cases e; unfold Rep Dr at r; exact r
  · cases e
theorem asStr_rep {t : Tr} {v : V} {x : Str} (r : RepW K H f t v) (e : asStr t = some x) : v = .str x := by
  obtain ⟨g, r⟩ := r
  unfold asStr at e
  split at e
  · cases e; unfold Rep Dr at r; exact r
  · cases e
theorem asBool_rep {t : Tr} {v : V} {b : Bool} (r : RepW K H f t v) (e : asBool t = some b) : v = .bl b := by
  obtain ⟨g, r⟩ := r
  unfold asBool at e
  split at e
  · cases e; unfold Rep Dr at r; exact r
  · cases e
theorem stl_rep : ∀ {xs : List Tr} {vs : List V} {g : Fp} {ds : List PyData}, RepL K H f xs vs g → stl xs = some ds → DrL K (mn H f) ds vs
  | [], _, _, _, h, e => by unfold stl at e; cases e; unfold RepL at h; unfold DrL; exact h
  | .c d :: xs, _, _, _, h, e => by
    unfold stl at e
    obtain ⟨es, e1, e2⟩ := Option.map_eq_some_iff.mp e
    subst e2
    unfold RepL at h
    obtain ⟨v, r, g1, g2, rfl, h1, h2, h3⟩ := h
    unfold Rep at h1
    unfold DrL
    exact ⟨v, r, rfl, h1, stl_rep h2 e1⟩
  | .l _ :: _, _, _, _, _, e => by unfold stl at e; cases e
  | .t _ :: _, _, _, _, _, e => by unfold stl at e; cases e
  | .s _ :: _, _, _, _, _, e => by unfold stl at e; cases e
  | .gone :: _, _, _, _, _, e => by unfold stl at e; cases e
theorem asList_rep {t : Tr} {v : V} {ds : List PyData} (r : RepW K H f t v) (e : asList t = some ds) : ∃ p xs, v = .ref p ∧ H p = some (.lst xs) ∧ DrL K (mn H f) ds xs := by
  obtain ⟨g, r⟩ := r
  unfold asList at e
  split at e
  · cases e
    unfold Rep Dr at r
    obtain ⟨a, xs, rfl, h1, h2⟩ := r
    exact ⟨a, xs, rfl, mn_ext _ _ _ _ h1, h2⟩
  · unfold Rep at r
    obtain ⟨p, vs, g', rfl, h1, h2, _⟩ := r
    exact ⟨p, vs, rfl, h1, stl_rep h2 e⟩
  · cases e
theorem asTup_rep {t : Tr} {v : V} {ds : List PyData} (r : RepW K H f t v) (e : asTup t = some ds) : ∃ p xs, v = .ref p ∧ mn H f p = some (.tup xs) ∧ DrL K (mn H f) ds xs := by
  obtain ⟨g, r⟩ := r
  unfold asTup at e
  split at e
  · cases e
    unfold Rep Dr at r
    obtain ⟨a, xs, rfl, h1, h2⟩ := r
    exact ⟨a, xs, rfl, h1, h2⟩
  · unfold Rep at r
    obtain ⟨p, vs, rfl, h1, h2⟩ := r
    exact ⟨p, vs, rfl, h1, stl_rep h2 e⟩
  · cases e
theorem asSeq_rep {t : Tr} {v : V} {ds : List PyData} (r : RepW K H f t v) (e : asSeq t = some ds) : ∃ p xs, v = .ref p ∧ (H p = some (.lst xs) ∨ mn H f p = some (.tup xs)) ∧ DrL K (mn H f) ds xs := by
  unfold asSeq at e
  split at e
  · rename_i ds' q
    cases e
    obtain ⟨p, xs, h0, h1, h2⟩ := asList_rep r q
    exact ⟨p, xs, h0, .inl h1, h2⟩
  · obtain ⟨p, xs, h0, h1, h2⟩ := asTup_rep r e
    exact ⟨p, xs, h0, .inr h1, h2⟩
theorem script_dr {ns : List Int} : DrL K H (ns.map PyData.int) (ns.map V.int) := by
  induction ns with
  | nil => show DrL K H [] _; unfold DrL; rfl
  | cons n ns ih =>
    show DrL K H (.int n :: ns.map PyData.int) _
    unfold DrL
    exact ⟨.int n, _, rfl, by unfold Dr; rfl, ih⟩
theorem noDictL_ints (ns : List Int) : noDict.noDictL (ns.map PyData.int) = true := by
  induction ns with
  | nil => rfl
  | cons n ns ih => show (noDict (.int n) && noDict.noDictL (ns.map PyData.int)) = true; rw [ih]; rfl
theorem see_dp {t : Tr} {v : V} {d : PyData} (r : RepW K H f t v) (e : see t = some d) (n : noDict d = true) : Dp K H v d := by
  obtain ⟨g, r⟩ := r
  cases t with
  | s ns =>
    unfold see at e; cases e
    unfold Rep at r
    obtain ⟨a, rfl, h⟩ := r
    exact .lst ((mn_ext H f).sql h) (DrL.dp script_dr (noDictL_ints ns))
  | gone => unfold see frz at e; cases e
  | d _ => unfold see frz at e; cases e
  | x _ => unfold see frz at e; cases e
  | c d' => exact (r.see (by unfold see at e; exact e)).dp n
  | l xs => exact (r.see (by unfold see at e; exact e)).dp n
  | t xs => exact (r.see (by unfold see at e; exact e)).dp n
theorem intsOf_rep : ∀ {ds : List PyData} {ns : List Int} {xs : List V}, intsOf ds = some ns → DrL K H ds xs → xs = ns.map V.int
  | [], _, _, e, h => by unfold intsOf at e; cases e; unfold DrL at h; exact h
  | .int i :: ds, _, _, e, h => by
    unfold intsOf at e
    obtain ⟨ms, e1, e2⟩ := Option.map_eq_some_iff.mp e
    subst e2
    unfold DrL at h
    obtain ⟨v, r, rfl, h1, h2⟩ := h
    unfold Dr at h1
    rw [h1, intsOf_rep e1 h2]; rfl
  | .none :: _, _, _, e, _ => by unfold intsOf at e; cases e
  | .bool _ :: _, _, _, e, _ => by unfold intsOf at e; cases e
  | .str _ :: _, _, _, e, _ => by unfold intsOf at e; cases e
  | .list _ :: _, _, _, e, _ => by unfold intsOf at e; cases e
  | .tuple _ :: _, _, _, e, _ => by unfold intsOf at e; cases e
  | .dict _ :: _, _, _, e, _ => by unfold intsOf at e; cases e
theorem boolsOf_rep : ∀ {ds : List PyData} {ns : List Bool} {xs : List V}, boolsOf ds = some ns → DrL K H ds xs → xs = ns.map V.bl
  | [], _, _, e, h => by unfold boolsOf at e; cases e; unfold DrL at h; exact h
  | .bool i :: ds, _, _, e, h => by
    unfold boolsOf at e
    obtain ⟨ms, e1, e2⟩ := Option.map_eq_some_iff.mp e
    subst e2
    unfold DrL at h
    obtain ⟨v, r, rfl, h1, h2⟩ := h
    unfold Dr at h1
    rw [h1, boolsOf_rep e1 h2]; rfl
  | .none :: _, _, _, e, _ => by unfold boolsOf at e; cases e
  | .int _ :: _, _, _, e, _ => by unfold boolsOf at e; cases e
  | .str _ :: _, _, _, e, _ => by unfold boolsOf at e; cases e
  | .list _ :: _, _, _, e, _ => by unfold boolsOf at e; cases e
  | .tuple _ :: _, _, _, e, _ => by unfold boolsOf at e; cases e
  | .dict _ :: _, _, _, e, _ => by unfold boolsOf at e; cases e
theorem truth_rep {t : Tr} {v : V} {b : Bool} (r : RepW K H f t v) (e : truth t = some b) : TruV K v H b := by
  obtain ⟨g, r⟩ := r
  have em : ∀ {ds : List PyData} {xs : List V}, DrL K (mn H f) ds xs → (!ds.isEmpty) = !xs.isEmpty := fun {ds xs} h => by
    have := h.length
    cases ds <;> cases xs <;> simp_all
  have em2 : ∀ {xs : List Tr} {vs : List V} {g : Fp}, RepL K H f xs vs g → (!xs.isEmpty) = !vs.isEmpty := fun {xs vs g} h => by
    cases xs with
    | nil => unfold RepL at h; rw [h]; rfl
    | cons x xs => unfold RepL at h; obtain ⟨v, r, _, _, rfl, _⟩ := h; rfl
  unfold truth at e
  split at e
  · cases e; unfold Rep Dr at r; subst r; exact rfl
  · cases e; unfold Rep Dr at r; subst r; exact rfl
  · cases e; unfold Rep Dr at r; subst r; exact rfl
  · unfold Rep Dr at r; subst r
    split at e
    · cases e; exact ⟨by assumption, rfl⟩
    · cases e
  · cases e; unfold Rep Dr at r; obtain ⟨a, xs, rfl, h1, h2⟩ := r
    exact .inl ⟨xs, SqL.of (mn_ext _ _ _ _ h1), em h2⟩
  · cases e; unfold Rep Dr at r; obtain ⟨a, xs, rfl, h1, h2⟩ := r
    exact .inr (.inl ⟨xs, SqT.of (mn_ext _ _ _ _ h1), em h2⟩)
  · cases e; unfold Rep at r; obtain ⟨p, vs, g', rfl, h1, h2, _⟩ := r
    exact .inl ⟨vs, SqL.of h1, em2 h2⟩
  · cases e; unfold Rep at r; obtain ⟨p, vs, rfl, h1, h2⟩ := r
    exact .inr (.inl ⟨vs, SqT.of (mn_ext _ _ _ _ h1), em2 h2⟩)
  · cases e; unfold Rep at r; obtain ⟨a, rfl, h⟩ := r
    rename_i ns
    exact .inl ⟨_, (mn_ext H f).sql h, by cases ns <;> rfl⟩
  · cases e
end
section
variable {X : Cx} {H : Hp} {f : Fp} {a b t : Tr} {x y : V} {Q : VK}
def rAdd4 (K : PySem.W.Frag) : R2 := fun x y H Q => rI0 (fun i j => .int (i + j)) x y H Q ∨ rCat x y H Q ∨ rCatA K x y H Q ∨ (∃ i j, x = .str i ∧ y = .str j ∧ i.length + j.length ≤ sizeLine ∧ Q (.str (i ++ j)) H)
theorem op_add4 : OpR X (binaryOp .Add) (rAdd4 X.K) := op_add.or (op_cat.or (op_catA.or op_add_str))
theorem add_ok {K : PySem.W.Frag} (al : Alc H f) (ra : RepW K H f a x) (rb : RepW K H f b y) (e : addEv a b = some t) (q : ∀ v H' f', New K H f H' f' t v → Q v H') : rAdd4 K x y H Q := by
  unfold addEv at e
  split at e
  · rename_i i j e1 e2
    cases e
    exact .inl ⟨i, j, asInt_rep ra e1, asInt_rep rb e2, q _ _ _ (New.int _)⟩
  · split at e
    · rename_i xs ys e1 e2
      split at e
      · rename_i hl
        cases e
        obtain ⟨p, vs, rfl, h1, d1⟩ := asList_rep ra e1
        obtain ⟨p2, vs2, rfl, h2, d2⟩ := asList_rep rb e2
        exact .inr (.inl ⟨p, p2, vs, vs2, rfl, rfl, h1, h2, by rw [d1.length, d2.length]; exact hl, fun l hl => q _ _ _ (New.lst hl al (d1.append d2))⟩)
      · cases e
    · split at e
      · rename_i xs ys e1 e2
        split at e
        · rename_i hl
          cases e
          obtain ⟨p, vs, rfl, h1, d1⟩ := asTup_rep ra e1
          obtain ⟨p2, vs2, rfl, h2, d2⟩ := asTup_rep rb e2
          refine .inr (.inr (.inl ⟨p, p2, vs, vs2, rfl, rfl, SqT.of (mn_ext _ _ _ _ h1), SqT.of (mn_ext _ _ _ _ h2), by rw [d1.length, d2.length]; exact hl, fun z => ?_, fun z1 z2 => ?_, fun _ _ l hl => q _ _ _ (New.tup hl al (d1.append d2))⟩))
          · subst z
            have : xs = [] := List.eq_nil_of_length_eq_zero (by have := d1.length; simpa using this.symm)
            subst this
            exact q _ _ _ (New.flat (by unfold Dr; exact ⟨p2, vs2, rfl, h2, d2⟩))
          · subst z2
            have : ys = [] := List.eq_nil_of_length_eq_zero (by have := d2.length; simpa using this.symm)
            subst this
            rw [List.append_nil] at q
            exact q _ _ _ (New.flat (by unfold Dr; exact ⟨p, vs, rfl, h1, d1⟩))
        · cases e
      · split at e
        · rename_i u w e1 e2
          split at e
          · rename_i hl
            cases e
            exact .inr (.inr (.inr ⟨u, w, asStr_rep ra e1, asStr_rep rb e2, hl, q _ _ _ (New.str _)⟩))
          · cases e
        · cases e
theorem int2_ok {K : PySem.W.Frag} {g : Int → Int → Option Int} (ra : RepW K H f a x) (rb : RepW K H f b y) (e : int2 g a b = some t) : ∃ i j k, x = .int i ∧ y = .int j ∧ g i j = some k ∧ t = iT k := by
  unfold int2 at e
  split at e
  · rename_i i j e1 e2
    obtain ⟨k, e3, e4⟩ := Option.map_eq_some_iff.mp e
    exact ⟨i, j, k, asInt_rep ra e1, asInt_rep rb e2, e3, e4.symm⟩
  · cases e
theorem RepL.flatten {K : PySem.W.Frag} {H : Hp} {ds : List PyData} {xs : List V} (h : DrL K H ds xs) : ∀ n : Nat, DrL K H (List.replicate n ds).flatten (List.replicate n xs).flatten
  | 0 => by show DrL K H [] []; unfold DrL; rfl
  | n + 1 => by
    rw [List.replicate_succ, List.replicate_succ, List.flatten_cons, List.flatten_cons]
    exact h.append (RepL.flatten h n)
end
theorem tuple_mul1 (l : Addr) (items : Array Value) (n : Nat) (dd : Option Addr) (sl : Array (Option Value)) (u : Tok) :
    Meets (Builtin.«tuple.__mul__» ⟨[.ref l, .int 1 u], []⟩) (fun _ R s => s.heap.get? l = some { cls := .type "tuple", dict := dd, data := .seq items n, slots := sl } ∧
      R (.ok (.ret (Value.ref l))) s) :=
  .of_wp fun prog w A R s h => by
    obtain ⟨hp, g, d, tk, os⟩ := s
    obtain ⟨hl, h⟩ := h
    have f1 := AutoSeq1.idx_int
    wp_walk using wpAny_loadPart' hl
    exact ⟨_, rfl, h⟩
theorem tuple_mul0 (l : Addr) (items : Array Value) (n : Nat) (dd : Option Addr) (sl : Array (Option Value)) (x : Int) (u : Tok) (c0 : (decide (x < -(2 ^ 63)) || decide (x ≥ 2 ^ 63)) = false) (c1 : (items.isEmpty || x == 1) = false) (c2 : (decide (x ≤ 0) || items.isEmpty) = true) :
    Meets (Builtin.«tuple.__mul__» ⟨[.ref l, .int x u], []⟩) (fun _ R s => s.heap.get? l = some { cls := .type "tuple", dict := dd, data := .seq items n, slots := sl } ∧
      R (.ok (.ret (Value.ref s.heap.objs.size))) { s with heap := s.heap.push { cls := Value.type "tuple", data := Data.seq #[] }, toks := s.toks }) :=
  .of_wp fun prog w A R s h => by
    obtain ⟨hp, g, d, tk, os⟩ := s
    obtain ⟨hl, h⟩ := h
    have f1 := AutoSeq1.idx_int
    wp_walk using wpAny_loadPart' hl
    repeat (first
      | (refine wpAny_ite_false (decide_eq_false (by rw [c0]; exact Bool.false_ne_true)) ?_; wp_walk using wpAny_loadPart' hl)
      | (refine wpAny_ite_false (decide_eq_false (by rw [c1]; exact Bool.false_ne_true)) ?_; wp_walk using wpAny_loadPart' hl)
      | (refine wpAny_ite_true (decide_eq_true c2) ?_; wp_walk using wpAny_loadPart' hl))
    exact ⟨_, rfl, h⟩
def rRepA (K : PySem.W.Frag) : R2 := fun x y H Q => ∃ l k xs, x = .ref l ∧ y = .int k ∧ SqT K H l xs ∧ xs ≠ [] ∧ -(2 ^ 31) ≤ k ∧ k ≤ 2 ^ 31 ∧ xs.length * k.toNat ≤ sizeLine ∧
  (k = 1 → Q (.ref l) H) ∧ (k ≠ 1 → ∀ p, H p = none → Q (.ref p) (upd H p (.tup (List.replicate k.toNat xs).flatten)))
theorem op_repA {X : Cx} : OpR X (binaryOp .Mult) (rRepA X.K) := by
  intro pins s σ H x y v u Q I rx ry h
  obtain ⟨l, k, xs, rfl, rfl, hT, hne, h1, h2, hz, q1, q⟩ := h
  cases rx
  obtain ⟨t, rfl⟩ := ry
  obtain ⟨its, r, ⟨⟨cls, dd, data, sl⟩, ho, hc, n, hd⟩, hs⟩ := I.tuple hT
  simp only at hc hd
  subst hc hd
  have hle : its.length = xs.length := r.length.symm
  have hn : its ≠ [] := fun e => hne (by
    rw [e] at hle
    exact List.eq_nil_of_length_eq_zero hle.symm)
  have hi : its.toArray.isEmpty = false := by
    cases its with
    | nil => exact absurd rfl hn
    | cons a b => rfl
  have hsz0 : its.toArray.size = xs.length := by rw [List.size_toArray, hle]
  have c0 : (decide (k < -(2 ^ 63)) || decide (k ≥ 2 ^ 63)) = false := by
    rw [decide_eq_false (by omega), decide_eq_false (by omega)] <;> rfl
  by_cases k1 : k = 1
  · subst k1
    exact wpAny_binaryOp_repeat_ref (T := "tuple") (U := "int") (by decide) ⟨_, ho, rfl⟩ (fun s' => typeIs_int s' 1 t) noFill_tuple_mul F.fills_int_mul F.slot_int_rmul repeat_tuple F.slot_int_index.lookup
      (call_meets F.slot_int_rmul (typeIs_int s 1 t) F.entry_int_rmul (F.args_int_rmul_2 _ _) (int_rmul_tuple 1 t l its.toArray n dd sl)
        ⟨ho, rfl, ⟨_, ho, rfl⟩, call_meets F.slot_tuple_mul ⟨_, ho, rfl⟩ F.entry_tuple_mul (F.args_tuple_mul_2 _ _) (tuple_mul1 l its.toArray n dd sl t) ⟨ho, ⟨.ref l, H, I, rfl, q1 rfl⟩⟩⟩)
  have c1 : (its.toArray.isEmpty || k == 1) = false := by
    rw [hi, Bool.false_or]
    exact beq_eq_false_iff_ne.mpr k1
  by_cases k0 : k ≤ 0
  · have c2 : (decide (k ≤ 0) || its.toArray.isEmpty) = true := by rw [decide_eq_true k0]; rfl
    refine wpAny_binaryOp_repeat_ref (T := "tuple") (U := "int") (by decide) ⟨_, ho, rfl⟩ (fun s' => typeIs_int s' k t) noFill_tuple_mul F.fills_int_mul F.slot_int_rmul repeat_tuple F.slot_int_index.lookup
      (call_meets F.slot_int_rmul (typeIs_int s k t) F.entry_int_rmul (F.args_int_rmul_2 _ _) (int_rmul_tuple k t l its.toArray n dd sl)
        ⟨ho, rfl, ⟨_, ho, rfl⟩, call_meets F.slot_tuple_mul ⟨_, ho, rfl⟩ F.entry_tuple_mul (F.args_tuple_mul_2 _ _) (tuple_mul0 l its.toArray n dd sl k t c0 c1 c2) ⟨ho, ?_⟩⟩)
    have e0 : k.toNat = 0 := by omega
    have q' := q k1
    rw [e0] at q'
    exact ⟨.ref s.heap.objs.size, _, I.laid (t' := s.toks) (o := .tup (List.replicate 0 xs).flatten) (fun b ob q => Heap.get?_push_of_some _ q) (Nat.le_refl _) ⟨Nat.zero_le _, [], .nil, IsTup.new _ _⟩, rfl, q' _ (I.hok.fresh (Nat.le_refl _))⟩
  have flen : (List.replicate k.toNat its).flatten.length ≤ sizeLine := by
    rw [PyProof.Rows.lm_len_rep_flat, hle, Nat.mul_comm]
    exact hz
  have hm : ((its.toArray.size : Nat) : Int) * k ≤ 16777216 := by
    rw [hsz0]
    have e : k = ((k.toNat : Nat) : Int) := by omega
    rw [e, ← Int.natCast_mul]
    rw [sizeLine_eq] at hz
    omega
  have c2 : (decide (k ≤ 0) || its.toArray.isEmpty) = false := by
    rw [hi, Bool.or_false]
    exact decide_eq_false k0
  have c4 : Builtin.Tuple.tupleTooMany (((its.toArray.size : Nat) : Int) * k) = false := by
    unfold Builtin.Tuple.tupleTooMany
    rw [sizeLine_eq]
    exact decide_eq_false (by omega)
  refine wpAny_binaryOp_repeat_ref (T := "tuple") (U := "int") (by decide) ⟨_, ho, rfl⟩ (fun s' => typeIs_int s' k t) noFill_tuple_mul F.fills_int_mul F.slot_int_rmul repeat_tuple F.slot_int_index.lookup
    (call_meets F.slot_int_rmul (typeIs_int s k t) F.entry_int_rmul (F.args_int_rmul_2 _ _) (int_rmul_tuple k t l its.toArray n dd sl)
      ⟨ho, rfl, ⟨_, ho, rfl⟩, call_meets F.slot_tuple_mul ⟨_, ho, rfl⟩ F.entry_tuple_mul (F.args_tuple_mul_2 _ _) (tuple_mulW l its.toArray n dd sl k t c0 c1 c2 (by omega) c4 (by rw [size_rep, List.size_toArray]; exact flen)) ⟨ho, ?_⟩⟩)
  rw [size_rep]
  refine ⟨.ref s.heap.objs.size, _, I.laid (t' := s.toks) (o := .tup (List.replicate k.toNat xs).flatten) (fun b ob q => Heap.get?_push_of_some _ q) (Nat.le_refl _) ?_, rfl, q k1 _ (I.hok.fresh (Nat.le_refl _))⟩
  exact ⟨by rw [PyProof.Rows.lm_len_rep_flat, Nat.mul_comm]; exact hz, _, r.rep k.toNat, IsTup.new _ _⟩
section
variable {X : Cx} {H : Hp} {f : Fp} {a b t : Tr} {x y : V} {Q : VK} {K : PySem.W.Frag}
def rMul4 (K : PySem.W.Frag) : R2 := fun x y H Q => rI CMulW (fun i j => .int (i * j)) x y H Q ∨ rRep x y H Q ∨ rRepA K x y H Q ∨ Hx.rMulS x y H Q
theorem op_mul4 : OpR X (binaryOp .Mult) (rMul4 X.K) := op_mulW.or (op_rep.or (op_repA.or Hx.op_mulS))
theorem mul_ok (al : Alc H f) (ra : RepW K H f a x) (rb : RepW K H f b y) (e : mulEv a b = some t) (q : ∀ v H' f', New K H f H' f' t v → Q v H') : rMul4 K x y H Q := by
  unfold mulEv at e
  split at e
  · rename_i k e1
    split at e
    · rename_i i e2
      split at e
      · rename_i hl
        cases e
        exact .inl ⟨i, k, asInt_rep ra e2, asInt_rep rb e1, hl, q _ _ _ (New.int _)⟩
      · cases e
    · split at e
      · rename_i xs e2
        split at e
        · rename_i hl
          cases e
          obtain ⟨p, vs, rfl, h1, d1⟩ := asList_rep ra e2
          exact .inr (.inl ⟨p, k, vs, rfl, asInt_rep rb e1, h1, (okR_63 hl.1).1, (okR_63 hl.1).2, by rw [d1.length]; exact hl.2, fun l hl => q _ _ _ (New.lst hl al (RepL.flatten d1 _))⟩)
        · cases e
      · split at e
        · rename_i xs e2
          split at e
          · rename_i hl
            cases e
            obtain ⟨p, vs, rfl, h1, d1⟩ := asTup_rep ra e2
            refine .inr (.inr (.inl ⟨p, k, vs, rfl, asInt_rep rb e1, SqT.of (mn_ext _ _ _ _ h1), fun z => hl.1 ?_, (okR_31 hl.2.1).1, (okR_31 hl.2.1).2, by rw [d1.length]; exact hl.2.2, fun k1 => ?_, fun _ l hl => q _ _ _ (New.tup hl al (RepL.flatten d1 _))⟩))
            · subst z
              exact List.eq_nil_of_length_eq_zero (by have := d1.length; simpa using this.symm)
            · subst k1
              have e0 : (List.replicate (1 : Int).toNat xs).flatten = xs := by show (List.replicate 1 xs).flatten = xs; simp
              rw [e0] at q
              exact q _ _ _ (New.flat (by unfold Dr; exact ⟨p, vs, rfl, h1, d1⟩))
          · cases e
        · split at e
          · rename_i z e2
            split at e
            · rename_i hl
              cases e
              exact .inr (.inr (.inr ⟨z, k, asStr_rep ra e2, asInt_rep rb e1, hl.1, hl.2.1, hl.2.2, q _ _ _ (New.str _)⟩))
            · cases e
          · cases e
  · cases e
theorem atI_map {α β : Type} (g : α → β) (xs : List α) (i : Int) : atI (xs.map g) i = (atI xs i).map g := by
  unfold atI
  rw [List.length_map]
  cases ixN xs.length i with
  | none => rfl
  | some j => simp
theorem atI_rep {ds : List PyData} {xs : List V} {i : Int} {d : PyData} (h : DrL K H ds xs) (e : atI ds i = some d) : ∃ v, atI xs i = some v ∧ Dr K H d v := by
  unfold atI at e ⊢
  rw [h.length]
  cases q : ixN ds.length i with
  | none => rw [q] at e; cases e
  | some j =>
    rw [q] at e
    exact h.get e
theorem ix_ok (ra : RepW K H f a x) (rb : RepW K H f b y) (e : ixEv a b = some t) (q : ∀ v H' f', New K H f H' f' t v → Q v H') : rIx K x y H Q := by
  unfold ixEv at e
  split at e
  · rename_i i e1
    have hy := asInt_rep rb e1
    subst hy
    split at e
    · rename_i ns
      obtain ⟨n, e2, rfl⟩ := Option.map_eq_some_iff.mp e
      obtain ⟨g, r⟩ := ra
      unfold Rep at r
      obtain ⟨p, rfl, h⟩ := r
      exact .inl ⟨p, _, i, .int n, rfl, rfl, (mn_ext H f).sql h, by rw [atI_map, e2]; rfl, q _ _ _ (New.int _)⟩
    · split at e
      · rename_i xs e2
        obtain ⟨d, e3, rfl⟩ := Option.map_eq_some_iff.mp e
        obtain ⟨p, vs, rfl, h1, d1⟩ := asSeq_rep ra e2
        obtain ⟨v, e4, d2⟩ := atI_rep d1 e3
        rcases h1 with h1 | h1
        · exact .inl ⟨p, vs, i, v, rfl, rfl, SqL.of h1, e4, q _ _ _ (New.flat d2)⟩
        · exact .inr (.inl ⟨p, vs, i, v, rfl, rfl, SqT.of (mn_ext _ _ _ _ h1), e4, q _ _ _ (New.flat d2)⟩)
      · split at e
        · rename_i z e2
          split at e
          · rename_i hl
            obtain ⟨c, e3, rfl⟩ := Option.map_eq_some_iff.mp e
            exact .inr (.inr ⟨z, i, c, asStr_rep ra e2, rfl, hl, e3, q _ _ _ (New.str _)⟩)
          · cases e
        · cases e
  · cases e
theorem DrL.take {ds : List PyData} {xs : List V} (h : DrL K H ds xs) (n : Nat) : DrL K H (ds.take n) (xs.take n) := by
  refine DrL.of_get (by rw [List.length_take, List.length_take, h.length]) fun i d v e1 e2 => ?_
  rw [List.getElem?_take] at e1 e2
  split at e1
  · rename_i hi
    rw [if_pos hi] at e2
    obtain ⟨w, e3, e4⟩ := h.get e1
    rw [e2] at e3; cases e3; exact e4
  · cases e1
theorem DrL.drop {ds : List PyData} {xs : List V} (h : DrL K H ds xs) (n : Nat) : DrL K H (ds.drop n) (xs.drop n) := by
  refine DrL.of_get (by rw [List.length_drop, List.length_drop, h.length]) fun i d v e1 e2 => ?_
  rw [List.getElem?_drop] at e1 e2
  obtain ⟨w, e3, e4⟩ := h.get e1
  rw [e2] at e3; cases e3; exact e4
theorem DrL.reverse {ds : List PyData} {xs : List V} (h : DrL K H ds xs) : DrL K H ds.reverse xs.reverse := by
  refine DrL.of_get (by rw [List.length_reverse, List.length_reverse, h.length]) fun i d v e1 e2 => ?_
  have hi : i < ds.length := by have := (List.getElem?_eq_some_iff.mp e1).1; simpa using this
  rw [List.getElem?_reverse hi] at e1
  rw [List.getElem?_reverse (by rw [h.length]; exact hi), h.length] at e2
  obtain ⟨w, e3, e4⟩ := h.get e1
  rw [e2] at e3; cases e3; exact e4
theorem DrL.cut {ds : List PyData} {xs : List V} (h : DrL K H ds xs) (lo hi : Option Int) : DrL K H (cutD ds lo hi) (cutV xs lo hi) := by
  unfold cutD cutV
  rw [h.length]
  exact (h.drop _).take _
def rSl2 (K : PySem.W.Frag) : V → Option Int → Option Int → Hp → VK → Prop := fun x lo hi H Q => rSlL K x lo hi H Q ∨ rSlA K x lo hi H Q
theorem sl_2 : SlR X (rSl2 X.K) := sl_list.or sl_tupA
theorem sl_ok {lo hi : Option Int} (al : Alc H f) (ra : RepW K H f a x) (e : slEv a lo hi = some t) (q : ∀ v H' f', New K H f H' f' t v → Q v H') : rSl2 K x lo hi H Q := by
  unfold slEv at e
  split at e
  · rename_i xs e1
    cases e
    obtain ⟨p, vs, rfl, h1, d1⟩ := asList_rep ra e1
    exact .inl ⟨p, vs, rfl, SqL.of h1, fun l hl => q _ _ _ (New.lst hl al (d1.cut lo hi))⟩
  · split at e
    · rename_i xs e1
      cases e
      obtain ⟨p, vs, rfl, h1, d1⟩ := asTup_rep ra e1
      refine .inr ⟨p, vs, rfl, SqT.of (mn_ext _ _ _ _ h1), fun z => ?_, fun _ l hl => q _ _ _ (New.tup hl al (d1.cut lo hi))⟩
      have e0 : cutD xs lo hi = xs := by
        unfold cutD
        rw [← d1.length, z.1, z.2, List.drop_zero, Nat.sub_zero, d1.length]
        exact List.take_length
      rw [e0] at q
      exact q _ _ _ (New.flat (by unfold Dr; exact ⟨p, vs, rfl, h1, d1⟩))
    · cases e
theorem eqv_flat {d e : PyData} {v w : V} (hd : Dr K H d v) (he : Dr K H e w) (fd : flatD d = true) (fe : flatD e = true) : PyData.eqv d e = eqV v w := by
  cases d <;> first | (unfold flatD at fd; cases fd; done) | (cases e <;> first | (unfold flatD at fe; cases fe; done) | (unfold Dr at hd he; subst hd; subst he; rfl))
theorem flat_v {d : PyData} {v : V} (hd : Dr K H d v) (fd : flatD d = true) : flatV v = true := by
  cases d <;> first | (unfold flatD at fd; cases fd; done) | (unfold Dr at hd; subst hd; rfl)
theorem flats_v : ∀ {ds : List PyData} {vs : List V}, DrL K H ds vs → ds.all flatD = true → vs.all flatV = true
  | [], _, h, _ => by unfold DrL at h; rw [h]; rfl
  | d :: ds, _, h, f => by
    unfold DrL at h
    obtain ⟨v, r, rfl, h1, h2⟩ := h
    rw [List.all_cons, Bool.and_eq_true] at f
    rw [List.all_cons, flat_v h1 f.1, flats_v h2 f.2]; rfl
theorem any_flat {d : PyData} {v : V} (hd : Dr K H d v) (fd : flatD d = true) : ∀ {ds : List PyData} {vs : List V}, DrL K H ds vs → ds.all flatD = true → (ds.any fun z => PyData.eqv z d) = inV v vs
  | [], _, h, _ => by unfold DrL at h; rw [h]; rfl
  | e :: ds, _, h, f => by
    unfold DrL at h
    obtain ⟨w, r, rfl, h1, h2⟩ := h
    rw [List.all_cons, Bool.and_eq_true] at f
    unfold inV
    rw [List.any_cons, List.any_cons, eqv_flat h1 hd f.1 fd]
    have := any_flat hd fd h2 f.2
    unfold inV at this
    rw [this]
def rCmp (K : PySem.W.Frag) : CmpOp → R2
  | .Eq => fun x y H Q => rEqD K x y H Q ∨ rEq x y H Q
  | .NotEq => fun x y H Q => rNeD K x y H Q ∨ rNe x y H Q
  | .Lt => fun x y H Q => rI0 (fun i j => .bl (decide (i < j))) x y H Q ∨ rLtT K x y H Q
  | .LtE => rI0 fun i j => .bl (decide (i ≤ j))
  | .Gt => rI0 fun i j => .bl (decide (j < i))
  | .GtE => rI0 fun i j => .bl (decide (j ≤ i))
  | .Is => fun x y H Q => (y = .non ∧ Q (.bl (decide (x = .non))) H) ∨ rIsB x y H Q
  | .IsNot => fun x y H Q => (y = .non ∧ Q (.bl (!decide (x = .non))) H) ∨ rNotB x y H Q
  | .In => fun x y H Q => rIn K false x y H Q ∨ rInD K x y H Q
  | .NotIn => fun x y H Q => rIn K true x y H Q ∨ rNotInD K x y H Q
theorem op_cmp (hu : X.A.units + 65 < cLine) : ∀ o : CmpOp, OpR X (compareOp o) (rCmp X.K o)
  | .Eq => (op_eqD (X := X) (by omega)).or op_eq
  | .NotEq => (op_neD (X := X) (by omega)).or op_ne
  | .Lt => op_lt.or (op_ltT (by omega))
  | .LtE => op_le
  | .Gt => op_gt
  | .GtE => op_ge
  | .Is => op_isN.or op_isBl
  | .IsNot => op_notN.or op_notBl
  | .In => op_in_seq.or (op_inD hu)
  | .NotIn => op_notIn_seq.or (op_notInD hu)
theorem eq_ok0 {r : Bool} (ra : RepW K H f a x) (rb : RepW K H f b y) (e : eqEv0 a b = some r) : ∃ d e, Dp K H x d ∧ Dp K H y e ∧ SeqAt.shaped d = true ∧ SeqAt.shaped e = true ∧ PyData.eqv d e = r := by
  unfold eqEv0 at e
  split at e
  · rename_i d d' e1 e2
    split at e
    · rename_i hp
      cases e
      simp only [plainD, Bool.and_eq_true] at hp
      exact ⟨d, d', see_dp ra e1 hp.1.1, see_dp rb e2 hp.2.1, hp.1.2, hp.2.2, rfl⟩
    · cases e
  · cases e
theorem eq_ok {r : Bool} (ra : RepW K H f a x) (rb : RepW K H f b y) (e : eqEv a b = some r) : (∃ d e, Dp K H x d ∧ Dp K H y e ∧ SeqAt.shaped d = true ∧ SeqAt.shaped e = true ∧ PyData.eqv d e = r) ∨ ∃ u v, x = .str u ∧ y = .str v ∧ decide (u = v) = r := by
  unfold eqEv at e
  split at e
  · rename_i u v e1 e2
    cases e
    exact .inr ⟨u, v, asStr_rep ra e1, asStr_rep rb e2, rfl⟩
  · exact .inl (eq_ok0 ra rb e)
theorem scal_str {u v : Str} {r : Bool} (h : decide (u = v) = r) : scal (.str u) (.str v) = true ∧ decide (V.str u = V.str v) = r := by
  subst h
  refine ⟨rfl, ?_⟩
  rw [dec_str]
  by_cases e : u = v
  · subst e; simp
  · simp [e]
theorem cmpI_ok {p : Int → Int → Bool} {r : Bool} (ra : RepW K H f a x) (rb : RepW K H f b y) (e : cmpI p a b = some r) : ∃ i j, x = .int i ∧ y = .int j ∧ p i j = r := by
  unfold cmpI at e
  split at e
  · rename_i i j e1 e2
    cases e
    exact ⟨i, j, asInt_rep ra e1, asInt_rep rb e2, rfl⟩
  · cases e
theorem isEv_ok {r : Bool} (ra : RepW K H f a x) (rb : RepW K H f b y) (e : isEv a b = some r) : (y = .non ∧ decide (x = .non) = r) ∨ ∃ i j : Bool, x = .bl i ∧ y = .bl j ∧ decide (i = j) = r := by
  unfold isEv at e
  split at e
  · obtain ⟨g, rb⟩ := rb
    unfold Rep Dr at rb
    refine .inl ⟨rb, ?_⟩
    split at e
    · cases e
      obtain ⟨g, ra⟩ := ra
      unfold Rep Dr at ra
      rw [ra]; rfl
    · cases e
    · rename_i n1 n2
      cases e
      refine decide_eq_false fun z => ?_
      subst z
      obtain ⟨g, ra⟩ := ra
      cases a with
      | gone => exact n2 rfl
      | d _ => unfold Rep at ra; obtain ⟨_, h, _⟩ := ra; cases h
      | x _ => unfold Rep at ra; obtain ⟨_, _, h, _⟩ := ra; cases h
      | l xs => unfold Rep at ra; obtain ⟨_, _, _, h, _⟩ := ra; cases h
      | t xs => unfold Rep at ra; obtain ⟨_, _, h, _⟩ := ra; cases h
      | s ns => unfold Rep at ra; obtain ⟨_, h, _⟩ := ra; cases h
      | c d =>
        unfold Rep at ra
        cases d with
        | none => exact n1 rfl
        | bool b => unfold Dr at ra; cases ra
        | int b => unfold Dr at ra; cases ra
        | str b => unfold Dr at ra; cases ra
        | list b => unfold Dr at ra; obtain ⟨_, _, h, _⟩ := ra; cases h
        | tuple b => unfold Dr at ra; obtain ⟨_, _, h, _⟩ := ra; cases h
        | dict b => unfold Dr at ra; obtain ⟨_, h, _⟩ := ra; cases h
  · obtain ⟨g, rb⟩ := rb
    unfold Rep Dr at rb
    split at e
    · rename_i j e1
      cases e
      exact .inr ⟨j, _, asBool_rep ra e1, rb, rfl⟩
    · cases e
  · cases e
theorem inEv_ok {r : Bool} (ra : RepW K H f a x) (rb : RepW K H f b y) (e : inEv a b = some r) :
    (∃ p xs, y = .ref p ∧ (SqL K H p xs ∨ SqT K H p xs) ∧ flatV x = true ∧ xs.all flatV = true ∧ inV x xs = r) ∨
    (∃ d ds, Dp K H x d ∧ Dp K H y (.list ds) ∧ SeqAt.shaped d = true ∧ SeqAt.shaped (.list ds) = true ∧ (ds.any fun z => PyData.eqv z d) = r) := by
  unfold inEv at e
  split at e
  · rename_i d e1
    split at e
    · rename_i ds
      split at e
      · rename_i hp
        cases e
        rw [Bool.and_eq_true] at hp
        obtain ⟨g, rb⟩ := rb
        unfold Rep Dr at rb
        obtain ⟨p, xs, rfl, h1, h2⟩ := rb
        have nd : noDict d = true := by
          cases d <;> first | rfl | (have := hp.1; unfold flatD at this; cases this; done)
        have dx : Dr K H d x := by
          have h := see_dp ra e1 nd
          have h0 := hp.1
          cases d <;> first | (unfold flatD at h0; cases h0; done) | (cases h; unfold Dr; rfl)
        refine .inl ⟨p, xs, rfl, .inr (SqT.of (mn_ext _ _ _ _ h1)), flat_v dx hp.1, flats_v h2 hp.2, ?_⟩
        exact (any_flat dx hp.1 (DrL.ext (mn_ext H f) h2) hp.2).symm
      · cases e
    · split at e
      · rename_i ds e2
        split at e
        · rename_i hp
          cases e
          simp only [plainD, Bool.and_eq_true] at hp
          exact .inr ⟨d, ds, see_dp ra e1 hp.1.1, see_dp rb e2 hp.2.1, hp.1.2, hp.2.2, rfl⟩
        · cases e
      · cases e
  · cases e
theorem cmp_ok {o : CmpOp} {r : Bool} (ra : RepW K H f a x) (rb : RepW K H f b y) (e : cmpEv o a b = some r) (q : Q (.bl r) H) : rCmp K o x y H Q := by
  cases o with
  | Eq =>
    rcases eq_ok ra rb e with ⟨d, e', h1, h2, h3, h4, h5⟩ | ⟨u, v, rfl, rfl, h5⟩
    · exact .inl ⟨d, e', h1, h2, h3, h4, by rw [h5]; exact q⟩
    · exact .inr ⟨(scal_str h5).1, by rw [(scal_str h5).2]; exact q⟩
  | NotEq =>
    obtain ⟨r', e1, rfl⟩ := Option.map_eq_some_iff.mp (show (eqEv a b).map (!·) = some r from e)
    rcases eq_ok ra rb e1 with ⟨d, e', h1, h2, h3, h4, h5⟩ | ⟨u, v, rfl, rfl, h5⟩
    · exact .inl ⟨d, e', h1, h2, h3, h4, by rw [h5]; exact q⟩
    · exact .inr ⟨(scal_str h5).1, by rw [(scal_str h5).2]; exact q⟩
  | Lt =>
    simp only [cmpEv] at e
    split at e
    · rename_i r' e1
      cases e
      obtain ⟨i, j, h1, h2, h3⟩ := cmpI_ok ra rb e1
      exact .inl ⟨i, j, h1, h2, by show Q (.bl (decide (i < j))) H; rw [h3]; exact q⟩
    · unfold ltT at e
      split at e
      · rename_i xs ys e1 e2
        split at e
        · rename_i ns ms e3 e4
          cases e
          obtain ⟨p, vs, rfl, h1, d1⟩ := asTup_rep ra e1
          obtain ⟨p2, vs2, rfl, h2, d2⟩ := asTup_rep rb e2
          refine .inr ⟨p, p2, ns, ms, rfl, rfl, ?_, ?_, q⟩
          · rw [← intsOf_rep e3 d1]; exact SqT.of (mn_ext _ _ _ _ h1)
          · rw [← intsOf_rep e4 d2]; exact SqT.of (mn_ext _ _ _ _ h2)
        · cases e
      · cases e
  | LtE => obtain ⟨i, j, h1, h2, h3⟩ := cmpI_ok ra rb e; exact ⟨i, j, h1, h2, by show Q (.bl (decide (i ≤ j))) H; rw [h3]; exact q⟩
  | Gt => obtain ⟨i, j, h1, h2, h3⟩ := cmpI_ok ra rb e; exact ⟨i, j, h1, h2, by show Q (.bl (decide (j < i))) H; rw [h3]; exact q⟩
  | GtE => obtain ⟨i, j, h1, h2, h3⟩ := cmpI_ok ra rb e; exact ⟨i, j, h1, h2, by show Q (.bl (decide (j ≤ i))) H; rw [h3]; exact q⟩
  | Is =>
    rcases isEv_ok ra rb e with ⟨h1, h2⟩ | ⟨i, j, h1, h2, h3⟩
    · exact .inl ⟨h1, by rw [h2]; exact q⟩
    · exact .inr ⟨i, j, h1, h2, by rw [h3]; exact q⟩
  | IsNot =>
    obtain ⟨r', e1, rfl⟩ := Option.map_eq_some_iff.mp (show (isEv a b).map (!·) = some r from e)
    rcases isEv_ok ra rb e1 with ⟨h1, h2⟩ | ⟨i, j, h1, h2, h3⟩
    · exact .inl ⟨h1, by rw [h2]; exact q⟩
    · exact .inr ⟨i, j, h1, h2, by rw [h3]; exact q⟩
  | In =>
    rcases inEv_ok ra rb e with ⟨p, xs, h0, h1, h2, h3, h4⟩ | ⟨d, ds, h1, h2, h3, h4, h5⟩
    · exact .inl ⟨p, xs, h0, h1, h2, h3, by rw [h4]; exact q⟩
    · exact .inr ⟨d, ds, h1, h2, h3, h4, by rw [h5]; exact q⟩
  | NotIn =>
    obtain ⟨r', e1, rfl⟩ := Option.map_eq_some_iff.mp (show (inEv a b).map (!·) = some r from e)
    rcases inEv_ok ra rb e1 with ⟨p, xs, h0, h1, h2, h3, h4⟩ | ⟨d, ds, h1, h2, h3, h4, h5⟩
    · exact .inl ⟨p, xs, h0, h1, h2, h3, by rw [h4]; exact q⟩
    · exact .inr ⟨d, ds, h1, h2, h3, h4, by rw [h5]; exact q⟩
theorem foldl_max (ns : List Int) : ∀ n : Int, (ns.foldl max n = n ∨ ns.foldl max n ∈ ns) ∧ n ≤ ns.foldl max n ∧ ∀ y ∈ ns, y ≤ ns.foldl max n := by
  induction ns with
  | nil => intro n; exact ⟨.inl rfl, Int.le_refl _, fun _ h => nomatch h⟩
  | cons a r ih =>
    intro n
    obtain ⟨h1, h2, h3⟩ := ih (max n a)
    show ((r.foldl max (max n a)) = n ∨ _) ∧ _
    refine ⟨?_, by show n ≤ r.foldl max (max n a); omega, fun y hy => ?_⟩
    · rcases h1 with h1 | h1
      · show r.foldl max (max n a) = n ∨ r.foldl max (max n a) ∈ a :: r
        rw [h1]
        by_cases q : a ≤ n
        · exact .inl (by omega)
        · exact .inr (by rw [show max n a = a by omega]; exact List.mem_cons_self)
      · exact .inr (List.mem_cons_of_mem _ h1)
    · rcases List.mem_cons.mp hy with rfl | hy
      · show y ≤ r.foldl max (max n y); omega
      · exact h3 y hy
theorem foldl_min (ns : List Int) : ∀ n : Int, (ns.foldl min n = n ∨ ns.foldl min n ∈ ns) ∧ ns.foldl min n ≤ n ∧ ∀ y ∈ ns, ns.foldl min n ≤ y := by
  induction ns with
  | nil => intro n; exact ⟨.inl rfl, Int.le_refl _, fun _ h => nomatch h⟩
  | cons a r ih =>
    intro n
    obtain ⟨h1, h2, h3⟩ := ih (min n a)
    show ((r.foldl min (min n a)) = n ∨ _) ∧ _
    refine ⟨?_, by show r.foldl min (min n a) ≤ n; omega, fun y hy => ?_⟩
    · rcases h1 with h1 | h1
      · show r.foldl min (min n a) = n ∨ r.foldl min (min n a) ∈ a :: r
        rw [h1]
        by_cases q : n ≤ a
        · exact .inl (by omega)
        · exact .inr (by rw [show min n a = a by omega]; exact List.mem_cons_self)
      · exact .inr (List.mem_cons_of_mem _ h1)
    · rcases List.mem_cons.mp hy with rfl | hy
      · show r.foldl min (min n y) ≤ y; omega
      · exact h3 y hy
def Bi.val : Bi → Value
  | .len => .builtin "len" | .abs => .builtin "abs" | .max2 => .builtin "max" | .min2 => .builtin "min" | .max3 => .builtin "max" | .min3 => .builtin "min" | .max1 => .builtin "max" | .min1 => .builtin "min"
  | .sum => .builtin "sum" | .all => .builtin "all" | .any => .builtin "any" | .tuple => .type "tuple" | .list => .type "list" | .int => .type "int" | .str => .type "str"
def Bi.nm : Bi → Str
  | .len => "len" | .abs => "abs" | .max2 => "max" | .min2 => "min" | .max3 => "max" | .min3 => "min" | .max1 => "max" | .min1 => "min"
  | .sum => "sum" | .all => "all" | .any => "any" | .tuple => "tuple" | .list => "list" | .int => "int" | .str => "str"
def Bi.ar : Bi → Nat
  | .max2 => 2 | .min2 => 2 | .max3 => 3 | .min3 => 3 | _ => 1
abbrev RL := List V → Hp → VK → Prop
def rBi (K : PySem.W.Frag) : Bi → RL
  | .len => fun xs H Q => (∃ p ys, xs = [.ref p] ∧ (SqL K H p ys ∨ SqT K H p ys) ∧ Q (.int ys.length) H) ∨ (∃ z, xs = [.str z] ∧ z.length ≤ sizeLine ∧ Q (.int z.length) H)
  | .abs => fun xs H Q => ∃ i, xs = [.int i] ∧ Q (.int (if i < 0 then -i else i)) H
  | .max2 => fun xs H Q => ∃ i j, xs = [.int i, .int j] ∧ Q (.int (if j > i then j else i)) H
  | .min2 => fun xs H Q => ∃ i j, xs = [.int i, .int j] ∧ Q (.int (if j < i then j else i)) H
  | .max3 => rNuC3 nuMax3
  | .min3 => rNuC3 nuMin3
  | .max1 => fun xs H Q => rMax K xs H Q ∨ Hx.rMaxT K xs H Q
  | .min1 => rMin K
  | .sum => fun xs H Q => rSum K xs H Q ∨ Hx.rSumT K xs H Q
  | .all => rAll K
  | .any => rAny K
  | .tuple => fun xs H Q => ∃ p ys, xs = [.ref p] ∧ ((SqL K H p ys ∧ ∀ l, H l = none → Q (.ref l) (upd H l (.tup ys))) ∨ (SqT K H p ys ∧ Q (.ref p) H))
  | .list => fun xs H Q => ∃ p ys, xs = [.ref p] ∧ (SqL K H p ys ∨ SqT K H p ys) ∧ ∀ l, H l = none → Q (.ref l) (upd H l (.lst ys))
  | .int => fun xs H Q => (∃ i, xs = [.int i] ∧ Q (.int i) H) ∨ ∃ k, xs = [.bl k] ∧ Q (.int (if k then 1 else 0)) H
  | .str => fun xs H Q => ∃ i, xs = [.int i] ∧ i.natAbs.log2 < 1920 ∧ Q (.str (toString i)) H
theorem call_bi (hc : X.calm = true) : ∀ b : Bi, CallR X b.val (rBi X.K b)
  | .len => call_len_seq.or call_len_str
  | .abs => call_abs
  | .max2 => call_max2 hc
  | .min2 => call_min2 hc
  | .max3 => call_max3Nu hc
  | .min3 => call_min3Nu hc
  | .max1 => (cr_max hc).or (Hx.cr_maxT hc)
  | .min1 => cr_min hc
  | .sum => (cr_sum hc).or (Hx.cr_sumT hc)
  | .all => cr_all hc
  | .any => cr_any hc
  | .tuple => call_tuple_of
  | .list => call_list_of
  | .int => call_int1
  | .str => call_str_int
def RepWs (K : PySem.W.Frag) (H : Hp) (f : Fp) : List Tr → List V → Prop
  | [], vs => vs = []
  | t :: ts, vs => ∃ v r, vs = v :: r ∧ RepW K H f t v ∧ RepWs K H f ts r
theorem RepWs.one {vs : List V} (h : RepWs K H f [a] vs) : ∃ v, vs = [v] ∧ RepW K H f a v := by
  obtain ⟨v, r, rfl, h1, h2⟩ := h
  unfold RepWs at h2
  exact ⟨v, by rw [h2], h1⟩
theorem RepWs.two {vs : List V} (h : RepWs K H f [a, b] vs) : ∃ v w, vs = [v, w] ∧ RepW K H f a v ∧ RepW K H f b w := by
  obtain ⟨v, r, rfl, h1, h2⟩ := h
  obtain ⟨w, rfl, h3⟩ := RepWs.one h2
  exact ⟨v, w, rfl, h1, h3⟩
theorem RepWs.three {c : Tr} {vs : List V} (h : RepWs K H f [a, b, c] vs) : ∃ v w z, vs = [v, w, z] ∧ RepW K H f a v ∧ RepW K H f b w ∧ RepW K H f c z := by
  obtain ⟨v, r, rfl, h1, h2⟩ := h
  obtain ⟨w, z, rfl, h3, h4⟩ := RepWs.two h2
  exact ⟨v, w, z, rfl, h1, h3, h4⟩
theorem nu_max3 (i j k : Int) : nuMax3 (.int i) (.int j) (.int k) = some (.int (if k > (if j > i then j else i) then k else (if j > i then j else i))) := by
  have e : ∀ a b : Int, nuLt (.int a) (.int b) = some (decide (a < b)) := fun _ _ => rfl
  have e2 : ∀ a b : Int, nuMax2 (.int a) (.int b) = some (.int (if b > a then b else a)) := fun a b => by
    unfold nuMax2
    rw [e]
    by_cases h : a < b <;> simp [h]
  unfold nuMax3
  rw [e2]
  exact e2 _ _
theorem nu_min3 (i j k : Int) : nuMin3 (.int i) (.int j) (.int k) = some (.int (if k < (if j < i then j else i) then k else (if j < i then j else i))) := by
  have e : ∀ a b : Int, nuLt (.int a) (.int b) = some (decide (a < b)) := fun _ _ => rfl
  have e2 : ∀ a b : Int, nuMin2 (.int a) (.int b) = some (.int (if b < a then b else a)) := fun a b => by
    unfold nuMin2
    rw [e]
    by_cases h : b < a <;> simp [h]
  unfold nuMin3
  rw [e2]
  exact e2 _ _
theorem noDict_ints : ∀ ns : List Int, noDict.noDictL (ns.map PyData.int) = true
  | [] => by simp [noDict.noDictL]
  | n :: ns => by rw [List.map_cons]; unfold noDict.noDictL; rw [noDict_ints ns]; simp [noDict]
theorem see_dr {t : Tr} {v : V} {d : PyData} (r : RepW K H f t v) (e : see t = some d) (n : noDict d = false) : Dr K H d v := by
  obtain ⟨g, r⟩ := r
  cases t with
  | s ns => cases e; unfold noDict at n; rw [noDict_ints] at n; cases n
  | c d' => exact Rep.see r (by simpa [see] using e)
  | l xs => exact Rep.see r (by simpa [see] using e)
  | t xs => exact Rep.see r (by simpa [see] using e)
  | gone => unfold see frz at e; cases e
  | d _ => unfold see frz at e; cases e
  | x _ => unfold see frz at e; cases e
theorem bi_ok {bi : Bi} {ts : List Tr} {vs : List V} (al : Alc H f) (r : RepWs K H f ts vs) (e : biEv bi ts = some t) (q : ∀ v H' f', New K H f H' f' t v → Q v H') : rBi K bi vs H Q := by
  unfold biEv at e
  split at e
  · obtain ⟨v, rfl, rr⟩ := r.one
    split at e
    · cases e
      obtain ⟨g, rr⟩ := rr
      unfold Rep at rr
      obtain ⟨p, rfl, h⟩ := rr
      exact .inl ⟨p, _, rfl, .inl ((mn_ext H f).sql h), by rw [List.length_map]; exact q _ _ _ (New.int _)⟩
    · split at e
      · rename_i xs e1
        cases e
        obtain ⟨p, vs, rfl, h1, d1⟩ := asSeq_rep rr e1
        refine .inl ⟨p, vs, rfl, ?_, by rw [d1.length]; exact q _ _ _ (New.int _)⟩
        rcases h1 with h1 | h1
        · exact .inl (SqL.of h1)
        · exact .inr (SqT.of (mn_ext _ _ _ _ h1))
      · split at e
        · rename_i z e1
          split at e
          · rename_i hl
            cases e
            exact .inr ⟨z, by rw [asStr_rep rr e1], hl, q _ _ _ (New.int _)⟩
          · cases e
        · cases e
  · obtain ⟨v, rfl, rr⟩ := r.one
    obtain ⟨i, e1, rfl⟩ := Option.map_eq_some_iff.mp e
    exact ⟨i, by rw [asInt_rep rr e1], q _ _ _ (New.int _)⟩
  · obtain ⟨v, w, rfl, r1, r2⟩ := r.two
    obtain ⟨i, j, k, rfl, rfl, h, rfl⟩ := int2_ok (K := K) r1 r2 e
    cases h
    exact ⟨i, j, rfl, q _ _ _ (New.int _)⟩
  · obtain ⟨v, w, rfl, r1, r2⟩ := r.two
    obtain ⟨i, j, k, rfl, rfl, h, rfl⟩ := int2_ok (K := K) r1 r2 e
    cases h
    exact ⟨i, j, rfl, q _ _ _ (New.int _)⟩
  · obtain ⟨v, w, z, rfl, r1, r2, r3⟩ := r.three
    split at e
    · rename_i i j k e1 e2 e3
      cases e
      refine ⟨v, w, z, _, rfl, ?_, q _ _ _ (New.int _)⟩
      rw [asInt_rep r1 e1, asInt_rep r2 e2, asInt_rep r3 e3]
      exact nu_max3 i j k
    · cases e
  · obtain ⟨v, w, z, rfl, r1, r2, r3⟩ := r.three
    split at e
    · rename_i i j k e1 e2 e3
      cases e
      refine ⟨v, w, z, _, rfl, ?_, q _ _ _ (New.int _)⟩
      rw [asInt_rep r1 e1, asInt_rep r2 e2, asInt_rep r3 e3]
      exact nu_min3 i j k
    · cases e
  · obtain ⟨v, rfl, rr⟩ := r.one
    split at e
    · rename_i xs e1
      obtain ⟨ns, e2, rfl⟩ := Option.map_eq_some_iff.mp e
      obtain ⟨p, vs, rfl, h1, d1⟩ := asList_rep rr e1
      exact .inl ⟨p, ns, rfl, by rw [← intsOf_rep e2 d1]; exact SqL.of h1, q _ _ _ (New.int _)⟩
    · split at e
      · rename_i xs e1
        obtain ⟨ns, e2, rfl⟩ := Option.map_eq_some_iff.mp e
        obtain ⟨p, vs, rfl, h1, d1⟩ := asTup_rep rr e1
        exact .inr ⟨p, ns, rfl, by rw [← intsOf_rep e2 d1]; exact SqT.of (mn_ext _ _ _ _ h1), q _ _ _ (New.int _)⟩
      · cases e
  · obtain ⟨v, rfl, rr⟩ := r.one
    split at e
    · rename_i xs e1
      split at e
      · rename_i n ns e2
        cases e
        obtain ⟨p, vs, rfl, h1, d1⟩ := asList_rep rr e1
        refine .inl ⟨p, n :: ns, rfl, by rw [← intsOf_rep e2 d1]; exact SqL.of h1, Nat.succ_pos _, fun m hm hle => ?_⟩
        obtain ⟨k1, k2, k3⟩ := foldl_max ns n
        have : m = ns.foldl max n := by
          have a1 : ns.foldl max n ≤ m := by
            rcases k1 with k1 | k1
            · rw [k1]; exact hle n List.mem_cons_self
            · exact hle _ (List.mem_cons_of_mem _ k1)
          have a2 : m ≤ ns.foldl max n := by
            rcases List.mem_cons.mp hm with rfl | hm
            · exact k2
            · exact k3 m hm
          omega
        rw [this]
        exact q _ _ _ (New.int _)
      · cases e
    · split at e
      · rename_i xs e1
        split at e
        · rename_i n ns e2
          cases e
          obtain ⟨p, vs, rfl, h1, d1⟩ := asTup_rep rr e1
          refine .inr ⟨p, n :: ns, rfl, by rw [← intsOf_rep e2 d1]; exact SqT.of (mn_ext _ _ _ _ h1), Nat.succ_pos _, fun m hm hle => ?_⟩
          obtain ⟨k1, k2, k3⟩ := foldl_max ns n
          have : m = ns.foldl max n := by
            have a1 : ns.foldl max n ≤ m := by
              rcases k1 with k1 | k1
              · rw [k1]; exact hle n List.mem_cons_self
              · exact hle _ (List.mem_cons_of_mem _ k1)
            have a2 : m ≤ ns.foldl max n := by
              rcases List.mem_cons.mp hm with rfl | hm
              · exact k2
              · exact k3 m hm
            omega
          rw [this]
          exact q _ _ _ (New.int _)
        · cases e
      · cases e
  · obtain ⟨v, rfl, rr⟩ := r.one
    split at e
    · rename_i xs e1
      split at e
      · rename_i n ns e2
        cases e
        obtain ⟨p, vs, rfl, h1, d1⟩ := asList_rep rr e1
        refine ⟨p, n :: ns, rfl, by rw [← intsOf_rep e2 d1]; exact SqL.of h1, Nat.succ_pos _, fun m hm hle => ?_⟩
        obtain ⟨k1, k2, k3⟩ := foldl_min ns n
        have : m = ns.foldl min n := by
          have a1 : m ≤ ns.foldl min n := by
            rcases k1 with k1 | k1
            · rw [k1]; exact hle n List.mem_cons_self
            · exact hle _ (List.mem_cons_of_mem _ k1)
          have a2 : ns.foldl min n ≤ m := by
            rcases List.mem_cons.mp hm with rfl | hm
            · exact k2
            · exact k3 m hm
          omega
        rw [this]
        exact q _ _ _ (New.int _)
      · cases e
    · cases e
  · obtain ⟨v, rfl, rr⟩ := r.one
    split at e
    · rename_i xs e1
      obtain ⟨ns, e2, rfl⟩ := Option.map_eq_some_iff.mp e
      obtain ⟨p, vs, rfl, h1, d1⟩ := asList_rep rr e1
      exact ⟨p, ns, rfl, by rw [← boolsOf_rep e2 d1]; exact SqL.of h1, q _ _ _ (New.bool _)⟩
    · cases e
  · obtain ⟨v, rfl, rr⟩ := r.one
    split at e
    · rename_i xs e1
      obtain ⟨ns, e2, rfl⟩ := Option.map_eq_some_iff.mp e
      obtain ⟨p, vs, rfl, h1, d1⟩ := asList_rep rr e1
      exact ⟨p, ns, rfl, by rw [← boolsOf_rep e2 d1]; exact SqL.of h1, q _ _ _ (New.bool _)⟩
    · cases e
  · obtain ⟨v, rfl, rr⟩ := r.one
    obtain ⟨xs, e1, rfl⟩ := Option.map_eq_some_iff.mp e
    obtain ⟨p, vs, rfl, h1, d1⟩ := asSeq_rep rr e1
    refine ⟨p, vs, rfl, ?_⟩
    rcases h1 with h1 | h1
    · exact .inl ⟨SqL.of h1, fun l hl => q _ _ _ (New.tup hl al d1)⟩
    · exact .inr ⟨SqT.of (mn_ext _ _ _ _ h1), q _ _ _ (New.flat (by unfold Dr; exact ⟨p, vs, rfl, h1, d1⟩))⟩
  · obtain ⟨v, rfl, rr⟩ := r.one
    obtain ⟨xs, e1, rfl⟩ := Option.map_eq_some_iff.mp e
    obtain ⟨p, vs, rfl, h1, d1⟩ := asSeq_rep rr e1
    refine ⟨p, vs, rfl, ?_, fun l hl => q _ _ _ (New.lst hl al d1)⟩
    rcases h1 with h1 | h1
    · exact .inl (SqL.of h1)
    · exact .inr (SqT.of (mn_ext _ _ _ _ h1))
  · obtain ⟨v, rfl, rr⟩ := r.one
    obtain ⟨g, rr⟩ := rr
    split at e
    · cases e
      unfold Rep Dr at rr; subst rr
      exact .inl ⟨_, rfl, q _ _ _ (New.int _)⟩
    · cases e
      unfold Rep Dr at rr; subst rr
      exact .inr ⟨_, rfl, q _ _ _ (New.int _)⟩
    · cases e
  · obtain ⟨v, rfl, rr⟩ := r.one
    split at e
    · rename_i i e1
      split at e
      · rename_i hl
        cases e
        exact ⟨i, by rw [asInt_rep rr e1], hl, q _ _ _ (New.str _)⟩
      · cases e
    · cases e
  · cases e
theorem tyName_rep {n : String} (r : RepW K H f a x) (e : tyName a = some n) : TyX K H x (.type n) := by
  obtain ⟨g, r⟩ := r
  unfold tyName at e
  split at e <;> first | (cases e; done) | skip
  · cases e; unfold Rep Dr at r; subst r; exact .base .non
  · cases e; unfold Rep Dr at r; subst r; exact .base (.bl _)
  · cases e; unfold Rep Dr at r; subst r; exact .base (.int _)
  · cases e; unfold Rep Dr at r; subst r; exact .base (.str _)
  · cases e; unfold Rep Dr at r; obtain ⟨p, xs, rfl, h, _⟩ := r; exact .base (.lst (mn_ext _ _ _ _ h))
  · cases e; unfold Rep Dr at r; obtain ⟨p, xs, rfl, h, _⟩ := r; exact .base (.tup (mn_ext _ _ _ _ h))
  · cases e; unfold Rep Dr at r; obtain ⟨p, rfl, _, h⟩ := r; exact .base (.dK (mn_ext _ _ _ _ h))
  · cases e; unfold Rep at r; obtain ⟨p, xs, _, rfl, h, _⟩ := r; exact .base (.lst h)
  · cases e; unfold Rep at r; obtain ⟨p, xs, rfl, h, _⟩ := r; exact .base (.tup (mn_ext _ _ _ _ h))
theorem rg_dr {i j : Int} : DrL K H (rgD i j) (rgV i j) := by
  unfold rgD rgV
  refine DrL.of_get (by simp) fun k d v e1 e2 => ?_
  rw [List.getElem?_map] at e1 e2
  obtain ⟨m, h1, rfl⟩ := Option.map_eq_some_iff.mp e1
  obtain ⟨m', h2, rfl⟩ := Option.map_eq_some_iff.mp e2
  rw [h1] at h2; cases h2
  unfold Dr; rfl
end
end Hw
set_option Elab.async false
set_option linter.all false
set_option maxRecDepth 100000
set_option maxHeartbeats 1000000
namespace Hw
open PySem PySem.Spec PyProof.Rows L2
structure RC where
  K : PySem.W.Frag
  mg : Str → Option Value
  F : Genv
  W : WX
def padd (f g : Fp) : Fp := fun a => f a + g a
theorem padd_at (f g : Fp) (a : Addr) : padd f g a = f a + g a := rfl
section
variable {K : PySem.W.Frag} {Γ Γ' : List Tr} {σ : Sig} {H H' : Hp} {f f' pr : Fp} {G G' : Fp → Prop} {v : V} {t : Tr}
theorem StA.le1 (h : StA K Γ σ H f pr G) : ∀ a, f a ≤ 1 := h.1
theorem StA.alc (h : StA K Γ σ H f pr G) : Alc H f := h.2.1
theorem StA.out (h : StA K Γ σ H f pr G) : ∃ ga, G ga ∧ St0 K Γ σ H f (padd pr ga) := by
  obtain ⟨h1, h2, g, ga, hs, hg, hl⟩ := h
  exact ⟨ga, hg, h1, h2, g, fun _ => 0, hs, trivial, fun a => by have := hl a; show 0 + (g a + (pr a + ga a)) ≤ _; omega⟩
theorem StA.inn {ga : Fp} (h : StA K Γ σ H f (padd pr ga) G') (hG : ∀ gb, G' gb → G (padd ga gb)) : StA K Γ σ H f pr G := by
  obtain ⟨h1, h2, g, gb, hs, hg, hl⟩ := h
  exact ⟨h1, h2, g, padd ga gb, hs, hG gb hg, fun a => by have := hl a; simp only [padd_at] at this ⊢; omega⟩
theorem StA.imp (h : StA K Γ σ H f pr G) (hG : ∀ gb, G gb → G' gb) : StA K Γ σ H f pr G' := by
  obtain ⟨h1, h2, g, gb, hs, hg, hl⟩ := h
  exact ⟨h1, h2, g, gb, hs, hG gb hg, hl⟩
theorem StA.drop (h : StA K Γ σ H f pr G) : St0 K Γ σ H f pr := h.imp fun _ _ => trivial
theorem StA.less {pr' : Fp} (h : StA K Γ σ H f pr G) (l : ∀ a, pr' a ≤ pr a) : StA K Γ σ H f pr' G := by
  obtain ⟨h1, h2, g, gb, hs, hg, hl⟩ := h
  exact ⟨h1, h2, g, gb, hs, hg, fun a => by have := hl a; have := l a; omega⟩
theorem le_padd (f g : Fp) : ∀ a, f a ≤ padd f g a := fun a => Nat.le_add_right _ _
theorem le_padd' (f g : Fp) : ∀ a, g a ≤ padd f g a := fun a => Nat.le_add_left _ _
theorem StA.new (h : St0 K Γ σ H f pr) (n : New K H f H' f' t v) : St1 K Γ σ H' f' pr v t := by
  have al := h.alc
  have l1 := h.le1
  obtain ⟨h1, h2, g, _, hs, _, hl⟩ := h
  obtain ⟨e, gn, r, hf, hg⟩ := id n
  exact ⟨n.le1 al l1, n.alc al, g, gn, hs.stp (n.stp g) (fun _ => Nat.le_refl _), r, fun a => by rw [hf a]; have := hl a; omega⟩
theorem Rep.lef (l : ∀ a, f' a ≤ f a) {x : Tr} {v : V} {g : Fp} (h : Rep K H f x v g) : Rep K H f' x v g := by
  have s : Stp H f g H f' := ⟨fun a o e e0 => ⟨e, by have := l a; omega⟩, fun _ _ _ e => e⟩
  exact h.stp s fun _ => Nat.le_refl _
theorem stp_less (l : ∀ a, f' a ≤ f a) : Stp H f pr H f' := ⟨fun a o e e0 => ⟨e, by have := l a; omega⟩, fun _ _ _ e => e⟩
theorem StA.settle {d : PyData} (h : St1 K Γ σ H f pr v t) (e : frz t = some d) : ∃ f', Stp H f pr H f' ∧ St0 K Γ σ H f' pr ∧ Dr K (mn H f') d v := by
  obtain ⟨h1, h2, g, ga, hs, hg, hl⟩ := h
  have l : ∀ a, (fun a => f a - ga a) a ≤ f a := fun a => Nat.sub_le _ _
  refine ⟨fun a => f a - ga a, stp_less l, ⟨fun a => by have := h1 a; show f a - ga a ≤ 1; omega, fun a ha => h2 a (Nat.le_trans ha (l a)), g, fun _ => 0, hs.stp (stp_less l) (fun _ => Nat.le_refl _), trivial, fun a => by
    have := hl a; show 0 + (g a + pr a) ≤ f a - ga a; omega⟩, ?_⟩
  exact hg.frz l e fun a => by have := hl a; have := h1 a; show ga a + (f a - ga a) ≤ 1; omega
end
def RepA (K : PySem.W.Frag) (H : Hp) (f : Fp) (σ : Sig) : List AV → List V → Fp → Prop
  | [], vs, _ => vs = []
  | .tmp t :: as, vs, g => ∃ v r g1 g2, vs = v :: r ∧ Rep K H f t v g1 ∧ RepA K H f σ as r g2 ∧ ∀ a, g1 a + g2 a ≤ g a
  | .own t :: as, vs, g => ∃ v r g1 g2, vs = v :: r ∧ Rep K H f t v g1 ∧ RepA K H f σ as r g2 ∧ ∀ a, g1 a + g2 a ≤ g a
  | .pk i :: as, vs, g => ∃ v r, vs = v :: r ∧ σ[i]? = some (some v) ∧ RepA K H f σ as r g
  | .io i :: as, vs, g => ∃ v r, vs = v :: r ∧ σ[i]? = some (some v) ∧ RepA K H f σ as r g
section
variable (R : RC)
def tE (c : CE) : TE := fun σ H Q => ∃ Γ f pr, St0 R.K Γ σ H f pr ∧ match ev R.F c Γ with
  | some (.ok t Γ') => ∀ v H' f', Stp H f pr H' f' → St1 R.K Γ' σ H' f' pr v t → Q v H'
  | some (.ex x Γ') => ∀ C H' f', R.mg x = some (.ref C) → Stp H f pr H' f' → St0 R.K Γ' σ H' f' pr → R.W (.ref C) none σ H'
  | none => False
def tAs (cs : List CA) : TA := fun σ H Q => ∃ Γ f pr, St0 R.K Γ σ H f pr ∧ match evAs R.F cs Γ with
  | some (.ok avs Γ') => ∀ vs H' f', Stp H f pr H' f' → StA R.K Γ' σ H' f' pr (RepA R.K H' f' σ avs vs) → Q vs H'
  | some (.ex x Γ') => ∀ C H' f', R.mg x = some (.ref C) → Stp H f pr H' f' → St0 R.K Γ' σ H' f' pr → R.W (.ref C) none σ H'
  | none => False
def tT (c : CT) : TT := fun σ H Q => ∃ Γ f pr, St0 R.K Γ σ H f pr ∧ match evT R.F c Γ with
  | some (.ok b Γ') => ∀ H' f', Stp H f pr H' f' → St0 R.K Γ' σ H' f' pr → Q b H'
  | some (.ex x Γ') => ∀ C H' f', R.mg x = some (.ref C) → Stp H f pr H' f' → St0 R.K Γ' σ H' f' pr → R.W (.ref C) none σ H'
  | none => False
def tA : CA → TE
  | .e a => tE R a
  | .ow a => tE R a
  | .pk i => tVar i
  | .io i => tVar i
end
section
variable {R : RC} {σ : Sig} {H : Hp}
theorem RepS.val {K : PySem.W.Frag} {f : Fp} {Γ : List Tr} {g : Fp} {i : Nat} {x : Tr} (h : RepS K H f Γ σ g) (e : Γ[i]? = some x) (n : x ≠ .gone) : ∃ v g', σ[i]? = some (some v) ∧ Rep K H f x v g' ∧ ∀ a, g' a ≤ g a := by
  obtain ⟨o, g1, g2, h1, h2, h3, h4⟩ := h.take e
  obtain ⟨v, rfl, r⟩ := h2.get n
  exact ⟨v, g1, h1, r, fun a => by have := h4 a; omega⟩
theorem slotOk_get {Γ : List Tr} {i : Nat} (h : slotOk Γ i = true) : ∃ x, Γ[i]? = some x ∧ x ≠ .gone := by
  unfold slotOk at h
  split at h
  · cases h
  · cases h
  · rename_i x n e
    exact ⟨x, e, fun z => n z⟩
theorem as_cons {c : CA} {cs : List CA} {Q : List V → Hp → Prop} (h : tAs R (c :: cs) σ H Q) : tCons (tA R c) (tAs R cs) σ H Q := by
  obtain ⟨Γ, f, pr, st, h⟩ := h
  unfold tCons
  have slot : ∀ (i : Nat) (av : AV), slotOk Γ i = true → (∀ K' H' f' vs v g as, σ[i]? = some (some v) → RepA K' H' f' σ as vs g → RepA K' H' f' σ (av :: as) (v :: vs) g) →
      (match AR.cons av (evAs R.F cs Γ) with
        | some (.ok avs Γ') => ∀ vs H' f', Stp H f pr H' f' → StA R.K Γ' σ H' f' pr (RepA R.K H' f' σ avs vs) → Q vs H'
        | some (.ex x Γ') => ∀ C H' f', R.mg x = some (.ref C) → Stp H f pr H' f' → St0 R.K Γ' σ H' f' pr → R.W (.ref C) none σ H'
        | none => False) → tVar i σ H fun x H1 => tAs R cs σ H1 fun xs H2 => Q (x :: xs) H2 := by
    intro i av ok hav h
    obtain ⟨x, e, n⟩ := slotOk_get ok
    obtain ⟨h1, h2, g, ga, hs, hg, hl⟩ := id st
    obtain ⟨v, _, ev, _⟩ := hs.val e n
    refine ⟨v, ev, Γ, f, pr, st, ?_⟩
    cases q : evAs R.F cs Γ with
    | none => simp only [q, AR.cons] at h
    | some r =>
      cases r with
      | ex y Γ1 => simp only [q, AR.cons] at h; exact h
      | ok avs Γ1 =>
        simp only [q, AR.cons] at h
        intro vs H' f' s st'
        exact h (v :: vs) H' f' s (st'.imp fun gb hb => hav _ _ _ _ _ _ _ ev hb)
  cases c with
  | pk i =>
    simp only [evAs] at h
    by_cases ok : slotOk Γ i = true
    · rw [if_pos ok] at h
      exact slot i (.pk i) ok (fun K' H' f' vs v g as h1 h2 => ⟨v, vs, rfl, h1, h2⟩) h
    · rw [if_neg ok] at h; exact h.elim
  | io i =>
    simp only [evAs] at h
    by_cases ok : slotOk Γ i = true
    · rw [if_pos ok] at h
      exact slot i (.io i) ok (fun K' H' f' vs v g as h1 h2 => ⟨v, vs, rfl, h1, h2⟩) h
    · rw [if_neg ok] at h; exact h.elim
  | e a =>
    refine ⟨Γ, f, pr, st, ?_⟩
    simp only [evAs] at h
    cases q : ev R.F a Γ with
    | none => simp only [q] at h
    | some r =>
      cases r with
      | ex y Γ1 => simp only [q] at h; exact h
      | ok t Γ1 =>
        simp only [q] at h
        intro v H1 f1 s1 st1
        obtain ⟨ga, hga, st1'⟩ := st1.out
        refine ⟨Γ1, f1, padd pr ga, st1', ?_⟩
        cases q2 : evAs R.F cs Γ1 with
        | none => simp only [q2, AR.cons] at h
        | some r2 =>
          cases r2 with
          | ex y Γ2 =>
            simp only [q2, AR.cons] at h
            intro C H' f' hm s2 st2
            exact h C H' f' hm (s1.trans s2 (le_padd _ _)) (st2.less (le_padd _ _))
          | ok avs Γ2 =>
            simp only [q2, AR.cons] at h
            intro vs H' f' s2 st2
            refine h (v :: vs) H' f' (s1.trans s2 (le_padd _ _)) (st2.inn fun gb hb => ?_)
            exact ⟨v, vs, ga, gb, rfl, hga.stp s2 (le_padd' _ _), hb, fun _ => Nat.le_refl _⟩
  | ow a =>
    refine ⟨Γ, f, pr, st, ?_⟩
    simp only [evAs] at h
    cases q : ev R.F a Γ with
    | none => simp only [q] at h
    | some r =>
      cases r with
      | ex y Γ1 => simp only [q] at h; exact h
      | ok t Γ1 =>
        simp only [q] at h
        intro v H1 f1 s1 st1
        obtain ⟨ga, hga, st1'⟩ := st1.out
        refine ⟨Γ1, f1, padd pr ga, st1', ?_⟩
        cases q2 : evAs R.F cs Γ1 with
        | none => simp only [q2, AR.cons] at h
        | some r2 =>
          cases r2 with
          | ex y Γ2 =>
            simp only [q2, AR.cons] at h
            intro C H' f' hm s2 st2
            exact h C H' f' hm (s1.trans s2 (le_padd _ _)) (st2.less (le_padd _ _))
          | ok avs Γ2 =>
            simp only [q2, AR.cons] at h
            intro vs H' f' s2 st2
            refine h (v :: vs) H' f' (s1.trans s2 (le_padd _ _)) (st2.inn fun gb hb => ?_)
            exact ⟨v, vs, ga, gb, rfl, hga.stp s2 (le_padd' _ _), hb, fun _ => Nat.le_refl _⟩
theorem as_nil {Q : List V → Hp → Prop} (h : tAs R [] σ H Q) : tNil σ H Q := by
  obtain ⟨Γ, f, pr, st, h⟩ := h
  simp only [evAs] at h
  exact h [] H f Stp.refl (st.imp fun _ _ => rfl)
end
theorem PE.imp {X : Cx} {e : Expr} {t t' : TE} (h : PE X e t) (i : ∀ σ H Q, t' σ H Q → t σ H Q) : PE X e t' := ⟨fun pins s σ H Q I q => h.run pins s σ H Q I (i _ _ _ q)⟩
theorem PT.imp {X : Cx} {e : Expr} {t t' : TT} (h : PT X e t) (i : ∀ σ H Q, t' σ H Q → t σ H Q) : PT X e t' := ⟨fun pins s σ H Q I q => h.run pins s σ H Q I (i _ _ _ q)⟩
theorem PW.imp {X : Cx} {e : Expr} {t t' : TT} (h : PW X e t) (i : ∀ σ H Q, t' σ H Q → t σ H Q) : PW X e t' := ⟨fun wh pins s σ H Q I q => h.run wh pins s σ H Q I (i _ _ _ q)⟩
theorem PA.imp {X : Cx} {e : List Expr} {t t' : TA} (h : PA X e t) (i : ∀ σ H Q, t' σ H Q → t σ H Q) : PA X e t' := ⟨fun pos pins s σ H Q I q => h.run pos pins s σ H Q I (i _ _ _ q)⟩
theorem PS.imp {X : Cx} {e : Stmt} {t t' : TS} (h : PS X e t) (i : ∀ D σ H, t' D σ H → t D σ H) : PS X e t' := ⟨fun pins s σ H D I q => h.run pins s σ H D I (i _ _ _ q)⟩
theorem PSs.imp {X : Cx} {e : List Stmt} {t t' : TS} (h : PSs X e t) (i : ∀ D σ H, t' D σ H → t D σ H) : PSs X e t' := ⟨fun pins s σ H D I q => h.run pins s σ H D I (i _ _ _ q)⟩
theorem PI.imp {X : Cx} {tg e : Expr} {t t' : TI} (h : PI X tg e t) (i : ∀ σ H Q, t' σ H Q → t σ H Q) : PI X tg e t' := ⟨fun pins s σ H Q I q => h.run pins s σ H Q I (i _ _ _ q)⟩
theorem PE.or {X : Cx} {e : Expr} {t t' : TE} (h : PE X e t) (h' : PE X e t') : PE X e (fun σ H Q => t σ H Q ∨ t' σ H Q) := ⟨fun pins s σ H Q I q => q.elim (h.run pins s σ H Q I) (h'.run pins s σ H Q I)⟩
theorem PI.or {X : Cx} {tg e : Expr} {t t' : TI} (h : PI X tg e t) (h' : PI X tg e t') : PI X tg e (fun σ H Q => t σ H Q ∨ t' σ H Q) := ⟨fun pins s σ H Q I q => q.elim (h.run pins s σ H Q I) (h'.run pins s σ H Q I)⟩
def plainE : Expr → Bool
  | .Starred .. => false
  | .Slice .. => false
  | .Set .. => false
  | _ => true
theorem star_of {e : Expr} (h : plainE e = true) (es : List Expr) (env : Env) : starEach (e :: es) env = (false, eval e env) :: starEach es env := by
  cases e <;> first | rfl | cases h
theorem plainIx {e : Expr} (h : plainE e = true) : PlainIx e := fun o i => by
  cases e <;> first | rfl | cases h
theorem stars_no : ∀ {es : List Expr} {env : Env} {pos : Pos}, es.all plainE = true → (backTo pos (starEach es env)).any (·.1) = false
  | [], _, _, _ => rfl
  | e :: es, env, pos, h => by
    rw [List.all_cons, Bool.and_eq_true] at h
    rw [star_of h.1]
    have := stars_no (env := env) (pos := pos) h.2
    unfold backTo at this ⊢
    rw [List.map_cons, List.any_cons, this]; rfl
theorem pa_cons' {X : Cx} {e : Expr} {es : List Expr} {te : TE} {t : TA} (p : plainE e = true) (ha : PE X e te) (hr : PA X es t) : PA X (e :: es) (tCons te t) := pa_cons ha hr (star_of p es X.env)
end Hw
set_option Elab.async false
set_option linter.all false
set_option maxRecDepth 100000
set_option maxHeartbeats 2000000
namespace Hq
open PySem PySem.Spec PyProof.Rows L2
abbrev Gd (A : Around) : Prop := A.guards = some []
theorem Gd.deeper {A : Around} (g : Gd A) (env : Env) : Gd (A.deeper env) := g
structure FnG (P : Program) (w : World) (K : PySem.W.Frag) (mg : Str → Option Value) (base : Heap) (k : Nat) (f : Addr) (fd : FuncData) (ps : List Str) (sp : Sp) : Prop where
  len : ∀ xs H Q E, sp xs H Q E → xs.length = ps.length
  run : ∀ (A : Around) (out : List Env) (s : Shared) (H : Hp) (as : Args) (ws : List Value) (xs : List V) (Q : VK) (E : XK), Gd A → Room k A → Env0 P w K mg base A out s H →
    BindsTo s fd as (ps.zip ws) → Vals xs ws → sp xs H Q E → codeAny (model P w) A (.call (.ref f) as) (CR (L2.CX P w) out P w H s Q E) s
section
variable {P : Program} {w : World} {K : PySem.W.Frag} {mg : Str → Option Value} {base : Heap} {k : Nat} {f : Addr} {fd : FuncData} {ps : List Str} {sp : Sp}
theorem FnG.mono {j : Nat} (F : FnG P w K mg base j f fd ps sp) (h : j ≤ k) : FnG P w K mg base k f fd ps sp :=
  ⟨F.len, fun A out s H as ws xs Q E g r => F.run A out s H as ws xs Q E g (r.mono h)⟩
theorem FnG.imp {sp' : Sp} (F : FnG P w K mg base k f fd ps sp) (h : ∀ xs H Q E, sp' xs H Q E → sp xs H Q E) : FnG P w K mg base k f fd ps sp' :=
  ⟨fun xs H Q E q => F.len xs H Q E (h _ _ _ _ q), fun A out s H as ws xs Q E g r e b v q => F.run A out s H as ws xs Q E g r e b v (h _ _ _ _ q)⟩
theorem okG {x qual : Str} {st : Stmt} {N : List Str} (F : Fun K x qual st f fd) (S : FnScope N ps (defScope st)) (len : ∀ xs H Q E, sp xs H Q E → xs.length = ps.length)
    (hbody : ∀ (cdv : Value) (A : Around) (out : List Env) (s : Shared) (H : Hp) (xs : List V) (Q : VK) (E : XK), Gd A → Room k (A.deeper (envOfC qual (defScope st) s.heap.objs.size f cdv)) → sp xs H Q E →
      ∃ t, PSs (cxOf (L2.CX P w) P w K mg base N qual (defScope st) f cdv A out s H E) (defBody st) t ∧ t { nx := fun _ H' => Q .non H', rt := Q } (start N xs) H) :
    FnG P w K mg base (k + 1) f fd ps sp := by
  obtain ⟨oc, od, kV, doc, pm, an, cdv, ct, osl, rfl, lk, hcd⟩ := F.ex
  refine ⟨len, fun A out s H as ws xs Q E g r e b v q => ?_⟩
  have lx := len _ _ _ _ q
  have kx : K.In s.heap := e.mod.kin.keeps fun b o z => (e.bs b o z).1
  have nl : s.heap.NoLimit := e.mod.nolimit.keeps fun b o z => (e.bs b o z).1
  have hk : ∀ y ∈ ps.zip ws, (defScope st).names.lookup y.1 = some .local ∨ ((defScope st).names.lookup y.1 = some .cell ∧ ((cellsFrom (s.heap.objs.size + 1) (defScope st).names []).lookup y.1).isSome = true) := by
    rintro ⟨n, u⟩ hy
    rcases S.par n (List.of_mem_zip hy).1 with z | z
    · exact .inl z
    · exact .inr ⟨z, PySem.W.cellsFrom_some _ _ _ (.inl z)⟩
  refine codeAny_call_function r.depth (kx _ _ lk) rfl S.co S.gen rfl (PySem.W.codeRec_of kx hcd) (b _ _ _ _ ?_)
  refine wpAny_newFunctionEnv_cells S.kind hk fun env he s1 inn => ?_
  subst he
  refine ⟨nl.keeps inn.toInCall.keep, codeAny_func ?_⟩
  obtain ⟨t, ht, hq⟩ := hbody cdv A out s H xs Q E g (r.deeper _) q
  have J := inv_start (CX := L2.CX P w) (E := E) (cd := cdv) S r.hd e lx v inn
  refine wpAny_mono (ht.run [] s1 (start N xs) H _ J hq) (fun fl s' hs => ?_) fun e s' hs => hs
  have fin : ∀ {σ' : L2.St} {H' : Hp} {x : V} {u : Value}, Inv (cxOf (L2.CX P w) P w K mg base N qual (defScope st) f cdv A out s H E) [] σ' H' s' → RelV x u → Q x H' → L2.CE out P w H s Q u s' :=
    fun {σ' H' x u} J rx z => ⟨x, H', J.os, J.bare, J.base, J.hok, rx, z⟩
  cases fl with
  | ret u => obtain ⟨x, σ', H', J, rx, z⟩ := hs; exact fin J rx z
  | next => obtain ⟨σ', H', J, z⟩ := hs; exact fin (x := V.non) (u := Value.none) J rfl z
  | brk => obtain ⟨_, _, _, z⟩ := hs; exact z.elim
  | cont => obtain ⟨_, _, _, z⟩ := hs; exact z.elim
end
section
variable {X : Cx} {k : Nat} {f : Addr} {fd : FuncData} {ps : List Str} {sp : Sp} {E : L2.St → XK} {x : Str} {p pos : Pos} {e : Expr} {es : List Expr} {t : TA}
theorem run_G {pins : List (Addr × Obj)} {σ : L2.St} {H : Hp} {s : Shared} {Q : VK} {us : List Value} {vs : List V} (F : FnG X.prog X.w X.K X.mg X.base k f fd ps sp) (hg : Gd X.A) (hr : Room k X.A)
    (hb : Binds X.K fd ps []) (hx : PassesAt (L2.CX X.prog X.w) X σ (E σ)) (I : Inv X pins σ H s) (r : Vals vs us) (h : sp vs H Q (E σ)) :
    wpAny (model X.prog X.w) X.A (call (.ref f) us) (EP X pins σ Q) X.xe s := by
  have ll : us.length = ps.length := r.length.symm.trans (F.len _ _ _ _ h)
  have b := hb s us I.kIn (by simpa using ll)
  simp only [List.append_nil] at b
  refine wpAny_call (codeAny_mono (F.run X.A X.stack s H ⟨us, []⟩ us vs Q (E σ) hg hr I.env0 b r h) fun r s' z => ?_)
  match r, z with
  | .error e, z => exact hx pins H s e s' I z
  | .ok (.ret u), z => exact I.after z
  | .ok .next, z => exact False.elim z
  | .ok .brk, z => exact False.elim z
  | .ok .cont, z => exact False.elim z
theorem pe_G (F : FnG X.prog X.w X.K X.mg X.base k f fd ps sp) (hgd : Gd X.A) (hr : Room k X.A) (hg : Gl X x) (hm : X.mg x = some (.ref f)) (hk : PySem.W.keepIn X.K (.ref f) = true) (hb : Binds X.K fd ps [])
    (hx : ∀ σ, PassesAt (L2.CX X.prog X.w) X σ (E σ)) (ha : PA X (e :: es) t) (hdb : (x == ("__debug__" : Str)) = false) (he : starEach (e :: es) X.env = (false, eval e X.env) :: starEach es X.env)
    (hpl : (backTo pos (starEach es X.env)).any (·.1) = false) : PE X (.Call (.Name x p) (e :: es) [] pos) (tCallS sp E t) := by
  constructor
  intro pins s σ H Q I h
  refine wpAny_Call_Name_kw (ld_glob I hg hm ?_ hdb)
  refine PySem.W.callWith_K (h₀ := X.base) I.ok.mod.kin hk (thn (ha.run pos pins s σ H _ I h) fun us s1 z => ?_) he hpl
  obtain ⟨vs, H1, I1, r, q⟩ := z
  exact ⟨I1.kIn, run_G F hgd hr hb (hx σ) I1 r q⟩
theorem pe_G0 (F : FnG X.prog X.w X.K X.mg X.base k f fd ps sp) (hgd : Gd X.A) (hr : Room k X.A) (hg : Gl X x) (hm : X.mg x = some (.ref f)) (hk : PySem.W.keepIn X.K (.ref f) = true) (hb : Binds X.K fd ps [])
    (hx : ∀ σ, PassesAt (L2.CX X.prog X.w) X σ (E σ)) (hdb : (x == ("__debug__" : Str)) = false) : PE X (.Call (.Name x p) [] [] pos) (tCallS sp E tNil) := by
  constructor
  intro pins s σ H Q I h
  refine wpAny_Call_Name_kw (ld_glob I hg hm ?_ hdb)
  exact PySem.W.callWith_K0 I.kIn hk (run_G F hgd hr hb (hx σ) (us := []) I .nil h)
end
theorem call_G {P : Program} {w : World} {K : PySem.W.Frag} {mg mb : Str → Option Value} {k : Nat} {fa a : Addr} {fd : FuncData} {x : Str} {sp : Sp} {s₁ : Shared} {vs : List Value} {ns : List Int}
    (KX : K.In s₁.heap) (hns : s₁.heap.Ns mainGlobals mg) (hb : s₁.heap.Ns builtinsNs mb) (hbb : ∀ x : Str, x ≠ "__name__" → mb x = bootBuiltins x) (hlim : s₁.heap.NoLimit) (hg : s₁.gens = #[])
    (ha : s₁.heap.get? a = some { cls := .type "list", data := .seq vs.toArray }) (hi : IntsAre vs ns) (hl : ns.length ≤ sizeLine) (hr : Room k callerA)
    (F : ∀ base : Heap, K.In base → base.Ns mainGlobals mg → FnG P w K mg base k fa fd [x] sp) (hbind : ∀ (s : Shared) (u : Value), BindsTo s fd ⟨[u], []⟩ [(x, u)])
    (hsp : ∀ H : Hp, Only H → SqL K H a (ns.map V.int) → sp [.ref a] H (fun v _ => v = .bl true) fun _ _ _ => False) :
    codeAny (model P w) callerA (.call (.ref fa) ⟨[.ref a], []⟩) (fun r s' => r = .ok (.ret (.bool true)) ∧ OldK s₁.heap s'.heap ∧ s'.os = s₁.os ∧ AllBare s'.gens) s₁ := by
  have noX : ∀ H e s', L2.CX P w [] H s₁ (fun _ _ _ => False) e s' → False := fun H e s' h => by
    obtain ⟨_, _, _, _, _, _, _, _, _, _, _, _, z⟩ := h
    exact z
  have vi := vals_ints hi
  have lv := hi.length
  have main : ∀ H : Hp, Only H → SqL K H a (ns.map V.int) → HOk P w H s₁.heap → (∀ b, H b ≠ none → b = a) → (H a ≠ none → K.lookup a = none) →
      codeAny (model P w) callerA (.call (.ref fa) ⟨[.ref a], []⟩) (fun r s' => r = .ok (.ret (.bool true)) ∧ OldK s₁.heap s'.heap ∧ s'.os = s₁.os ∧ AllBare s'.gens) s₁ := by
    intro H hO hS ok hA hK
    have hid : ∀ {b : Addr} {o : Obj}, s₁.heap.get? b = some o → H b = none → (hidT s₁.heap H).get? b = some o := fun e n => hidT_get e n
    have nd : ∀ {b : Addr} {o : Obj} {es : Array DictEntry} {ep : Nat}, s₁.heap.get? b = some o → o.data = .dict es ep → H b = none := by
      intro b o es ep e d
      cases q : H b with
      | none => rfl
      | some u =>
        obtain rfl : b = a := hA b (by simp [q])
        rw [ha] at e; cases e
        cases (show Data.seq vs.toArray _ = Data.dict es ep from d)
    have ns' : ∀ {b : Addr} {m : Str → Option Value}, s₁.heap.Ns b m → (hidT s₁.heap H).Ns b m := fun {b m} ⟨o, es, ep, e, d, r⟩ => ⟨o, es, ep, hid e (nd e d), d, r⟩
    have kb : K.In (hidT s₁.heap H) := fun b o e => hid (KX b o e) (by
      cases q : H b with
      | none => rfl
      | some u =>
        obtain rfl : b = a := hA b (by simp [q])
        rw [hK (by simp [q])] at e; cases e)
    have M : Mod K mg (hidT s₁.heap H) := ⟨kb, ns' hns, ⟨mb, ns' hb, hbb⟩, let ⟨mc, h1, h2⟩ := hlim; ⟨mc, ns' h1, h2⟩⟩
    have env : Env0 P w K mg (hidT s₁.heap H) callerA [] s₁ H := ⟨rfl, M, fun b o e => of_hidT e, Nat.le_of_eq (hidT_size _ _), trivial, fun b hb => absurd (show b ∈ ([] : List Addr) from hb) (by simp), ok, .of_eq hg⟩
    refine codeAny_mono ((F _ kb (ns' hns)).run callerA [] s₁ H ⟨[.ref a], []⟩ [.ref a] [.ref a] _ _ rfl hr env (hbind s₁ (.ref a)) (.cons rfl .nil) (hsp H hO hS)) fun r s' h => ?_
    match r, h with
    | .error e, h => exact (noX H e s' h).elim
    | .ok .next, h => exact False.elim h
    | .ok .brk, h => exact False.elim h
    | .ok .cont, h => exact False.elim h
    | .ok (.ret u), h =>
      obtain ⟨v, H', os, bare, un, ok', r', q⟩ := h
      obtain rfl : v = .bl true := q
      obtain rfl : u = Value.bool true := r'
      refine ⟨rfl, OldK.of_keep fun b o e => ?_, os, bare⟩
      cases q : H b with
      | none => exact un.keep b o e q (by intro z; exact absurd (show b ∈ ([] : List Addr) from z) (by simp)) (by simp)
      | some u =>
        rcases hO b with z | ⟨ob, xs, z⟩
        · rw [q] at z; cases z
        · obtain ⟨e1, _⟩ := ok b _ z
          obtain ⟨e2, _⟩ := ok' b _ (un.frzs b ob _ z)
          rw [e] at e1; cases e1
          exact e2
  cases hk : K.lookup a with
  | some o =>
    have e := KX a o hk
    rw [ha] at e
    cases e
    have sq : SqL K (fun _ => none) a (ns.map V.int) := .inr ⟨_, vs.toArray, _, hk, rfl, rfl, rfl, by rw [List.size_toArray, lv]; exact hl, by simpa using vi⟩
    exact main (fun _ => none) (fun _ => .inl rfl) sq (fun b u z => by cases (show (none : Option HO) = some u from z)) (fun b z => absurd rfl z) fun z => absurd rfl z
  | none =>
    let H0 : Hp := fun b => if b = a then some (.frz { cls := .type "list", data := .seq vs.toArray } (.lst (ns.map V.int))) else none
    have h0 : H0 a = some (.frz { cls := .type "list", data := .seq vs.toArray } (.lst (ns.map V.int))) := if_pos rfl
    have h1 : ∀ b, b ≠ a → H0 b = none := fun b hb => if_neg hb
    refine main H0 (fun b => ?_) (.inl (.inr ⟨{ cls := .type "list", data := .seq vs.toArray }, h0⟩)) (fun b u z => ?_) (fun b z => ?_) fun _ => hk
    · by_cases hb : b = a
      · subst hb; exact .inr ⟨_, _, h0⟩
      · exact .inl (h1 b hb)
    · by_cases hb : b = a
      · subst hb
        rw [h0] at z; cases z
        exact ⟨ha, by rw [List.length_map]; exact hl, vs, _, vi, ha⟩
      · rw [h1 b hb] at z; cases z
    · by_cases hb : b = a
      · exact hb
      · exact absurd (h1 b hb) z
theorem walk_G {l : PySem.W.OpenLaw} {n k : Nat} {q : Program} {loose : List Str} {XP : (Str → Option Value) → Heap → Prop} {YP : World → Heap → Prop} {d : DefRec} {K : Params → PySem.W.Frag} {sp : World → Sp} {x : Str}
    (hn : l.most = some n) (hn2 : n ≤ sizeLine) (hdf : d.params.defaults = []) (hr : Room k callerA) (hY : ∀ (w : World) (h : Heap), YP w h → (K w.params).In h)
    (F : ∀ (w : World) (mg : Str → Option Value) (fa : Addr) (h : Heap), (K w.params).In h → h.Ns mainGlobals mg → mg d.name = some (.ref fa) → ∃ fd : FuncData,
      (∀ (s : Shared) (u : Value), BindsTo s fd ⟨[u], []⟩ [(x, u)]) ∧ ∀ base : Heap, (K w.params).In base → base.Ns mainGlobals mg → FnG l.prog w (K w.params) mg base k fa fd [x] (sp w))
    (hsp : ∀ (w : World) (H : Hp) (a : Addr) (ns : List Int), ns.length ≤ n → (∀ z ∈ ns, Builtin.Int.intBits z ≤ 1048576) → Only H → SqL (K w.params) H a (ns.map V.int) →
      sp w [.ref a] H (fun v _ => v = .bl true) fun _ _ _ => False) :
    PySem.W.WalkO q loose XP YP l.row.toRowW d [] (fun f vs => PySem.call f vs) := by
  refine Att.attach_callB hn hdf ?_
  intro w s₀ s₁ mg mb fa o pm cd doc a vs ns G Y ho hd hcd hmg hobj hints hlen hbits hg
  have KX := hY w _ Y
  obtain ⟨fd, hb, hF⟩ := F w mg fa _ KX G.T.g hmg
  exact call_G KX G.T.g G.T.b G.T.builtins G.T.nolimit hg hobj hints (Nat.le_trans hlen hn2) hr hF hb fun H hO hS => hsp w H a ns hlen hbits hO hS
end Hq
set_option Elab.async false
set_option linter.all false
set_option maxRecDepth 100000
set_option maxHeartbeats 1000000
namespace Hw
open PySem PySem.Spec PyProof.Rows L2
def spF (K : PySem.W.Frag) (mg : Str → Option Value) (n : Nat) (run : List Tr → Option FR) : Sp := fun vs H Q E => vs.length = n ∧ ∃ ts f pr ga, RepL K H f ts vs ga ∧ (∀ a, f a ≤ 1) ∧ Alc H f ∧ (∀ a, ga a + pr a ≤ f a) ∧ match run ts with
  | some (.ok t os) => ∀ v H' f', Stp H f pr H' f' → (∀ a, f' a ≤ 1) → Alc H' f' → (∃ g go, Rep K H' f' t v g ∧ RepL K H' f' os vs go ∧ ∀ a, g a + (go a + pr a) ≤ f' a) → Q v H'
  | some (.ex x) => ∀ C H' f', mg x = some (.ref C) → Stp H f pr H' f' → (∀ a, f' a ≤ 1) → Alc H' f' → (∀ a, pr a ≤ f' a) → E (.ref C) none H'
  | none => False
structure MC where
  N : List Str
  sc : Scope
  fnc : Str → Bool
  cls : List Str
def bltNames : List Str := ["bool", "repr", "sorted", "set", "dict", "len", "abs", "max", "min", "sum", "all", "any", "tuple", "list", "int", "str", "isinstance", "range", "enumerate", "zip", "ValueError"]
structure XOk (R : RC) (M : MC) (X : Cx) : Prop where
  K : X.K = R.K
  mg : X.mg = R.mg
  N : X.N = M.N
  sc : X.env.scope = M.sc
  fnc : X.fn = M.fnc
  nd : M.N.Nodup
  calm : X.calm = true
  tk : Takes X R.W
  un : X.A.units + 65 < cLine
  gd : Hq.Gd X.A
  fns : ∀ x run, R.F.fn x = some run → ∃ n f fd ps k, Hq.FnG X.prog X.w X.K X.mg X.base k f fd ps (spF R.K R.mg n run) ∧ X.mg x = some (.ref f) ∧ PySem.W.keepIn X.K (.ref f) = true ∧ Binds X.K fd ps [] ∧ Room k X.A ∧ ∀ ts r, run ts = some r → ts.length = n
  gls : ∀ x d, R.F.gl x = some d → ∃ v u, X.mg x = some u ∧ RelV v u ∧ ∀ K H, Dr K H d v
  blt : ∀ x ∈ bltNames, X.mg x = none
  cl : ∀ c ∈ M.cls, c ∈ Hx.excNames ∧ ∃ D, PySem.W.nsIn R.K mainGlobals c = some (some (.ref D)) ∧ R.mg c = some (.ref D) ∧ PySem.W.keepIn R.K (.ref D) = true ∧ PySem.W.kitOne R.K (.type "NoneType") (.ref D) = some false
def okName (x : Str) : Bool := !(x == ("__debug__" : Str)) && !(x == ("__classdict__" : Str)) && !(x == ("__name__" : Str))
def MC.vis (M : MC) (i : Nat) (x : Str) : Bool := decide (M.N[i]? = some x) && (match M.sc.names.lookup x with | some .local => true | some .cell => true | some .free => true | _ => false) && okName x
def MC.glo (M : MC) (x : Str) : Bool := (match M.sc.names.lookup x with | some .globalImplicit => true | _ => false) && okName x
def MC.loc (M : MC) (i : Nat) (x : Str) : Bool := decide (M.N[i]? = some x) && (match M.sc.names.lookup x with | some .local => true | some .cell => M.fnc x | _ => false)
def MC.blk (M : MC) (s : Scope) : MC := { N := M.N, sc := relS s M.sc, fnc := fun x => s.names.lookup x == some .cell, cls := M.cls }
def eqOp (a b : CmpOp) : Bool := match a, b with
  | .Eq, .Eq => true | .NotEq, .NotEq => true | .Lt, .Lt => true | .LtE, .LtE => true | .Gt, .Gt => true | .GtE, .GtE => true
  | .Is, .Is => true | .IsNot, .IsNot => true | .In, .In => true | .NotIn, .NotIn => true
  | _, _ => false
theorem eqOp_of {a b : CmpOp} (h : eqOp a b = true) : a = b := by cases a <;> cases b <;> first | rfl | cases h
def primArgs (M : MC) : P → Expr → Option (List Expr)
  | .add, .BinOp a .Add b _ => some [a, b]
  | .sub, .BinOp a .Sub b _ => some [a, b]
  | .mul, .BinOp a .Mult b _ => some [a, b]
  | .fdiv, .BinOp a .FloorDiv b _ => some [a, b]
  | .mod, .BinOp a .Mod b _ => some [a, b]
  | .pow, .BinOp a .Pow b _ => some [a, b]
  | .neg, .UnaryOp .USub a _ => some [a]
  | .cmp o, .Compare a [o'] [b] _ => if eqOp o o' then some [a, b] else none
  | .sl false false, .Subscript a (.Slice none none none _) _ => some [a]
  | .sl true false, .Subscript a (.Slice (some b) none none _) _ => some [a, b]
  | .sl false true, .Subscript a (.Slice none (some b) none _) _ => some [a, b]
  | .rev, .Subscript a (.Slice none none (some (.UnaryOp .USub (.Constant (.int 1) _ _) _)) _) _ => some [a]
  | .ix, .Subscript a b _ => some [a, b]
  | .bi b, .Call (.Name x _) args [] _ => if x = b.nm ∧ M.glo x = true ∧ args.length = b.ar then some args else none
  | .isi T, .Call (.Name x _) [a, .Name t _] [] _ => if x = "isinstance" ∧ M.glo x = true ∧ t = Str.ofString T ∧ M.glo t = true ∧ bltNames.contains t = true ∧ bootBuiltins t = some (.type T) then some [a] else none
  | .isx c, .Call (.Name x _) [a, .Name t _] [] _ => if x = "isinstance" ∧ M.glo x = true ∧ t = c ∧ M.glo t = true ∧ (M.cls.contains t || t == "ValueError") = true then some [a] else none
  | .lrg false, .Call (.Name x _) [.Call (.Name y _) [a] [] _] [] _ => if x = "list" ∧ M.glo x = true ∧ y = "range" ∧ M.glo y = true then some [a] else none
  | .lrg true, .Call (.Name x _) [.Call (.Name y _) [a, b] [] _] [] _ => if x = "list" ∧ M.glo x = true ∧ y = "range" ∧ M.glo y = true then some [a, b] else none
  | .trg false, .Call (.Name x _) [.Call (.Name y _) [a] [] _] [] _ => if x = "tuple" ∧ M.glo x = true ∧ y = "range" ∧ M.glo y = true then some [a] else none
  | .trg true, .Call (.Name x _) [.Call (.Name y _) [a, b] [] _] [] _ => if x = "tuple" ∧ M.glo x = true ∧ y = "range" ∧ M.glo y = true then some [a, b] else none
  | .srt, .Call (.Name x _) [a] [] _ => if x = "sorted" ∧ M.glo x = true then some [a] else none
  | .srs, .Call (.Name x _) [.Call (.Name y _) [a] [] _] [] _ => if x = "sorted" ∧ M.glo x = true ∧ y = "set" ∧ M.glo y = true then some [a] else none
  | .lzp, .Call (.Name x _) [.Call (.Name y _) [a, b] [] _] [] _ => if x = "list" ∧ M.glo x = true ∧ y = "zip" ∧ M.glo y = true then some [a, b] else none
  | .rpr, .Call (.Name x _) [a] [] _ => if x = "repr" ∧ M.glo x = true then some [a] else none
  | _, _ => none
def PEs (X : Cx) (R : RC) : List CA → List Expr → Prop
  | [], es => es = []
  | c :: cs, es => ∃ e r, es = e :: r ∧ plainE e = true ∧ PE X e (tA R c) ∧ PEs X R cs r
section
variable {R : RC} {M : MC} {X : Cx}
theorem PEs.pa : ∀ {cs : List CA} {es : List Expr}, PEs X R cs es → PA X es (tAs R cs)
  | [], _, h => by unfold PEs at h; rw [h]; exact PA.imp pa_nil fun _ _ _ q => as_nil q
  | c :: cs, _, h => by
    obtain ⟨e, r, rfl, h1, h2, h3⟩ := h
    exact PA.imp (pa_cons' h1 h2 (PEs.pa h3)) fun _ _ _ q => as_cons q
theorem PEs.one {c : CA} {es : List Expr} (h : PEs X R [c] es) : ∃ e, es = [e] ∧ plainE e = true ∧ PE X e (tA R c) := by
  obtain ⟨e, r, rfl, h1, h2, h3⟩ := h
  unfold PEs at h3
  exact ⟨e, by rw [h3], h1, h2⟩
theorem PEs.two {c d : CA} {es : List Expr} (h : PEs X R [c, d] es) : ∃ e e2, es = [e, e2] ∧ plainE e = true ∧ PE X e (tA R c) ∧ plainE e2 = true ∧ PE X e2 (tA R d) := by
  obtain ⟨e, r, rfl, h1, h2, h3⟩ := h
  obtain ⟨e2, rfl, h4, h5⟩ := PEs.one h3
  exact ⟨e, e2, rfl, h1, h2, h4, h5⟩
theorem PEs.three {c d e0 : CA} {es : List Expr} (h : PEs X R [c, d, e0] es) : ∃ e e2 e3, es = [e, e2, e3] ∧ plainE e = true ∧ PE X e (tA R c) ∧ plainE e2 = true ∧ PE X e2 (tA R d) ∧ plainE e3 = true ∧ PE X e3 (tA R e0) := by
  obtain ⟨e, r, rfl, h1, h2, h3⟩ := h
  obtain ⟨e2, e3, rfl, h4, h5⟩ := PEs.two h3
  exact ⟨e, e2, e3, rfl, h1, h2, h4, h5⟩
theorem PEs.length : ∀ {cs : List CA} {es : List Expr}, PEs X R cs es → es.length = cs.length
  | [], _, h => by unfold PEs at h; rw [h]; rfl
  | c :: cs, _, h => by
    obtain ⟨e, r, rfl, h1, h2, h3⟩ := h
    simp [PEs.length h3]
theorem PEs.plain : ∀ {cs : List CA} {es : List Expr}, PEs X R cs es → es.all plainE = true
  | [], _, h => by unfold PEs at h; rw [h]; rfl
  | c :: cs, _, h => by
    obtain ⟨e, r, rfl, h1, h2, h3⟩ := h
    rw [List.all_cons, h1, PEs.plain h3]; rfl
theorem tE.mono {c : CE} {σ : Sig} {H : Hp} {Q Q' : VK} (h : tE R c σ H Q) (q : ∀ v H', Q v H' → Q' v H') : tE R c σ H Q' := by
  obtain ⟨Γ, f, pr, st, h⟩ := h
  refine ⟨Γ, f, pr, st, ?_⟩
  split at h
  · exact fun v H' f' s s1 => q _ _ (h v H' f' s s1)
  · exact h
  · exact h
theorem tA.mono {c : CA} {σ : Sig} {H : Hp} {Q Q' : VK} (h : tA R c σ H Q) (q : ∀ v H', Q v H' → Q' v H') : tA R c σ H Q' := by
  cases c with
  | e a => exact tE.mono h q
  | ow a => exact tE.mono h q
  | pk i => obtain ⟨v, h1, h2⟩ := h; exact ⟨v, h1, q _ _ h2⟩
  | io i => obtain ⟨v, h1, h2⟩ := h; exact ⟨v, h1, q _ _ h2⟩
theorem as1 {a : CA} {σ : Sig} {H : Hp} {Q : List V → Hp → Prop} (h : tAs R [a] σ H Q) : tA R a σ H fun x H1 => Q [x] H1 := tA.mono (as_cons h) fun _ _ q => as_nil q
theorem as2 {a b : CA} {σ : Sig} {H : Hp} {Q : List V → Hp → Prop} (h : tAs R [a, b] σ H Q) : tA R a σ H fun x H1 => tA R b σ H1 fun y H2 => Q [x, y] H2 := tA.mono (as_cons h) fun _ _ q => as1 q
theorem resolves_rep {K : PySem.W.Frag} {H : Hp} {f : Fp} {Γ : List Tr} {σ : Sig} {g : Fp} (hs : RepS K H f Γ σ g) : ∀ {avs : List AV} {vs : List V} {ga : Fp} {ts : List Tr}, RepA K H f σ avs vs ga → resolves Γ avs = some ts → RepWs K H f ts vs
  | [], _, _, _, h, e => by unfold resolves at e; cases e; unfold RepA at h; exact h
  | av :: avs, _, _, _, h, e => by
    unfold resolves at e
    split at e
    · rename_i t ts e1 e2
      cases e
      cases av with
      | tmp t' =>
        obtain ⟨v, r, g1, g2, rfl, h1, h2, h3⟩ := h
        unfold resolve at e1; cases e1
        exact ⟨v, r, rfl, ⟨g1, h1⟩, resolves_rep hs h2 e2⟩
      | pk i =>
        obtain ⟨v, r, rfl, h1, h2⟩ := h
        unfold resolve at e1
        refine ⟨v, r, rfl, ?_, resolves_rep hs h2 e2⟩
        by_cases n : t = .gone
        · subst n; exact ⟨fun _ => 0, by unfold Rep; trivial⟩
        · obtain ⟨w, g', e3, r3, _⟩ := hs.val e1 n
          rw [h1] at e3; cases e3
          exact ⟨g', r3⟩
      | io i => unfold resolve at e1; cases e1
      | own t' => unfold resolve at e1; cases e1
    · cases e
def rPrim (K : PySem.W.Frag) (p : P) : RL := fun vs H Q => ∃ f ts t, Alc H f ∧ RepWs K H f ts vs ∧ primEv p ts = some t ∧ ∀ v H' f', New K H f H' f' t v → Q v H'
theorem prim_as {p : P} {as : List CA} {σ : Sig} {H : Hp} {Q : VK} (h : tE R (.prim p as) σ H Q) : tAs R as σ H fun vs H1 => rPrim R.K p vs H1 Q := by
  obtain ⟨Γ, f, pr, st, h⟩ := h
  refine ⟨Γ, f, pr, st, ?_⟩
  simp only [ev] at h
  cases q : evAs R.F as Γ with
  | none => simp only [q] at h
  | some r =>
    cases r with
    | ex y Γ1 => simp only [q] at h; exact h
    | ok avs Γ1 =>
      simp only [q] at h
      intro vs H1 f1 s1 st1
      cases q1 : resolves Γ1 avs with
      | none => simp only [q1, Option.bind_none] at h
      | some ts =>
        simp only [q1, Option.bind_some] at h
        cases q2 : primEv p ts with
        | none => simp only [q2, Option.map_none] at h
        | some t =>
          simp only [q2, Option.map_some] at h
          obtain ⟨g, ga, hs, hg, hl⟩ := id st1.2.2
          refine ⟨f1, ts, t, st1.alc, resolves_rep hs hg q1, q2, fun v H' f' n => ?_⟩
          exact h v H' f' (s1.trans (n.stp pr) fun _ => Nat.le_refl _) (st1.drop.new n)
theorem prim2 {p : P} {a b : CA} {r : R2} {σ : Sig} {H : Hp} {Q : VK} (hr : ∀ x y H1, rPrim R.K p [x, y] H1 Q → r x y H1 Q) (h : tE R (.prim p [a, b]) σ H Q) : tOp r (tA R a) (tA R b) σ H Q :=
  tA.mono (as2 (prim_as h)) fun _ _ q => tA.mono q fun _ _ q => hr _ _ _ q
theorem prim1 {p : P} {a : CA} {r : V → Hp → VK → Prop} {σ : Sig} {H : Hp} {Q : VK} (hr : ∀ x H1, rPrim R.K p [x] H1 Q → r x H1 Q) (h : tE R (.prim p [a]) σ H Q) : tA R a σ H fun x H1 => r x H1 Q :=
  tA.mono (as1 (prim_as h)) fun _ _ q => hr _ _ q
theorem rprim2 {K : PySem.W.Frag} {p : P} {x y : V} {H : Hp} {Q : VK} (h : rPrim K p [x, y] H Q) : ∃ f a b t, Alc H f ∧ RepW K H f a x ∧ RepW K H f b y ∧ primEv p [a, b] = some t ∧ ∀ v H' f', New K H f H' f' t v → Q v H' := by
  obtain ⟨f, ts, t, al, r, e, q⟩ := h
  cases ts with
  | nil => unfold RepWs at r; cases r
  | cons a ts =>
    obtain ⟨v, w, h0, r1, r2⟩ := r
    cases h0
    cases ts with
    | nil => unfold RepWs at r2; cases r2
    | cons b ts =>
      obtain ⟨v, w, h0, r3, r4⟩ := r2
      cases h0
      cases ts with
      | nil => exact ⟨f, a, b, t, al, r1, r3, e, q⟩
      | cons c ts => obtain ⟨v, w, h0, _⟩ := r4; cases h0
theorem rprim1 {K : PySem.W.Frag} {p : P} {x : V} {H : Hp} {Q : VK} (h : rPrim K p [x] H Q) : ∃ f a t, Alc H f ∧ RepW K H f a x ∧ primEv p [a] = some t ∧ ∀ v H' f', New K H f H' f' t v → Q v H' := by
  obtain ⟨f, ts, t, al, r, e, q⟩ := h
  cases ts with
  | nil => unfold RepWs at r; cases r
  | cons a ts =>
    obtain ⟨v, w, h0, r1, r2⟩ := r
    cases h0
    cases ts with
    | nil => exact ⟨f, a, t, al, r1, e, q⟩
    | cons b ts => obtain ⟨v, w, h0, _⟩ := r2; cases h0
theorem XOk.gl (ok : XOk R M X) {x : Str} (h : M.glo x = true) : Gl X x ∧ (x == ("__debug__" : Str)) = false ∧ x ≠ "__name__" := by
  unfold MC.glo at h
  rw [Bool.and_eq_true] at h
  obtain ⟨h1, h2⟩ := h
  simp only [okName, Bool.and_eq_true, Bool.not_eq_true', beq_eq_false_iff_ne, ne_eq] at h2
  refine ⟨?_, beq_eq_false_iff_ne.mpr h2.1.1, h2.2⟩
  show X.env.scope.names.lookup x = some .globalImplicit
  rw [ok.sc]
  split at h1
  · assumption
  · cases h1
theorem XOk.vi (ok : XOk R M X) {i : Nat} {x : Str} (h : M.vis i x = true) : X.N[i]? = some x ∧ Vis X.env.scope x ∧ (x == ("__debug__" : Str)) = false ∧ (x == ("__classdict__" : Str)) = false := by
  unfold MC.vis at h
  simp only [Bool.and_eq_true, decide_eq_true_eq] at h
  obtain ⟨⟨h0, h1⟩, h2⟩ := h
  simp only [okName, Bool.and_eq_true, Bool.not_eq_true', beq_eq_false_iff_ne, ne_eq] at h2
  refine ⟨by rw [ok.N]; exact h0, ?_, beq_eq_false_iff_ne.mpr h2.1.1, beq_eq_false_iff_ne.mpr h2.1.2⟩
  unfold Vis
  rw [ok.sc]
  split at h1 <;> first | exact .inl (by assumption) | exact .inr (.inl (by assumption)) | exact .inr (.inr (by assumption)) | cases h1
theorem pe_slot (ok : XOk R M X) {i : Nat} {x : Str} {pos : Pos} (h : M.vis i x = true) : PE X (.Name x pos) (tVar i) := by
  obtain ⟨h1, h2, h3, h4⟩ := ok.vi h
  exact pe_var h1 h2 h3 h4
theorem bi_boot (b : Bi) : bootBuiltins b.nm = some b.val := by
  cases b <;> first | exact boot_len | exact boot_abs | exact boot_max | exact boot_min | exact boot_sum | exact boot_all | exact boot_any | exact PySem.boot_tuple | exact PySem.boot_list | exact PySem.boot_int | exact PySem.boot_str | decide +kernel
theorem bi_blt (b : Bi) : b.nm ∈ bltNames := by cases b <;> decide +kernel
theorem bi_call (ok : XOk R M X) {b : Bi} {e : Expr} {es : List Expr} {t : TA} {p pos : Pos} (hg : M.glo b.nm = true) (hp : plainE e = true) (hps : es.all plainE = true) (ha : PA X (e :: es) t) : PE X (.Call (.Name b.nm p) (e :: es) [] pos) (tCB (rBi X.K b) t) := by
  obtain ⟨g1, g2, g3⟩ := ok.gl hg
  have hm := ok.blt _ (bi_blt b)
  have hv := bi_boot b
  have hc := call_bi (X := X) ok.calm b
  cases b <;> first
    | exact pe_callB hc g1 hm hv ha g3 g2 (star_of hp _ _) (stars_no hps)
    | exact pe_callTy hc g1 hm hv ha g3 g2 (star_of hp _ _) (stars_no hps)
end
end Hw
set_option Elab.async false
set_option linter.all false
set_option maxRecDepth 100000
set_option maxHeartbeats 1000000
namespace Hw
open PySem PySem.Spec PyProof.Rows L2
theorem listText_le : ∀ (ts : List Str) (k : Nat) (acc : Str), (textFrom k acc ts).length ≤ acc.length + (ts.map fun t => t.length + 2).sum
  | [], k, acc => by show acc.length ≤ _; simp
  | t :: r, k, acc => by
    have h := listText_le r (k + 1) (acc ++ (if k > 0 then ", " else "" : String) ++ t)
    have e : (acc ++ (if k > 0 then ", " else "" : String) ++ t).length ≤ acc.length + 2 + t.length := by
      rw [strLen_append, strLen_append]
      split
      · exact Nat.le_refl _
      · exact Nat.add_le_add_right (Nat.add_le_add_left (Nat.zero_le _) _) _
    show (textFrom (k + 1) _ r).length ≤ _
    simp only [List.map_cons, List.sum_cons]
    omega
theorem join_le : ∀ ts : List Str, (Str.join ", " ts).length ≤ (ts.map fun t => t.length + 2).sum
  | [] => Nat.zero_le _
  | [x] => by show x.length ≤ _; simp
  | x :: y :: r => by
    have ih := join_le (y :: r)
    show (x ++ ", " ++ Str.join ", " (y :: r)).length ≤ _
    have e2 : ((", " : String) : Str).length = 2 := rfl
    rw [strLen_append, strLen_append, e2, List.map_cons, List.sum_cons]
    omega
def okD : PyData → Bool
  | .list ds => okDL ds
  | .tuple ds => okDL ds
  | .dict kvs => kvs.isEmpty
  | _ => true
where okDL : List PyData → Bool
  | [] => true
  | d :: ds => okD d && okDL ds
mutual
theorem noDict_ok : ∀ d : PyData, noDict d = true → okD d = true
  | .none, _ => rfl
  | .bool b, _ => rfl
  | .int i, _ => rfl
  | .str x, _ => rfl
  | .list xs, h => by unfold okD; exact noDict_okL xs (by unfold noDict at h; exact h)
  | .tuple xs, h => by unfold okD; exact noDict_okL xs (by unfold noDict at h; exact h)
  | .dict _, h => by unfold noDict at h; cases h
theorem noDict_okL : ∀ xs : List PyData, noDict.noDictL xs = true → okD.okDL xs = true
  | [], _ => rfl
  | x :: xs, h => by
    unfold noDict.noDictL at h
    rw [Bool.and_eq_true] at h
    unfold okD.okDL
    rw [noDict_ok x h.1, noDict_okL xs h.2]; rfl
end
mutual
theorem noLst_ok : ∀ d : PyData, noLst d = true → okD d = true
  | .none, _ => rfl
  | .bool b, _ => rfl
  | .int i, _ => rfl
  | .str x, _ => rfl
  | .list xs, h => by unfold okD; exact noLst_okL xs (by unfold noLst at h; exact h)
  | .tuple xs, h => by unfold okD; exact noLst_okL xs (by unfold noLst at h; exact h)
  | .dict _, h => by unfold noLst at h; unfold okD; exact h
theorem noLst_okL : ∀ xs : List PyData, noLst.noLstL xs = true → okD.okDL xs = true
  | [], _ => rfl
  | x :: xs, h => by
    unfold noLst.noLstL at h
    rw [Bool.and_eq_true] at h
    unfold okD.okDL
    rw [noLst_ok x h.1, noLst_okL xs h.2]; rfl
end
mutual
theorem szD_ok : ∀ d : PyData, okD d = true → (PyData.shown d).length ≤ szD d
  | .none, _ => by simp only [PyData.shown]; decide
  | .bool b, _ => by simp only [PyData.shown]; cases b <;> decide
  | .int i, _ => by
    simp only [PyData.shown, szD]
    have h := int_text_length_le (a := i) (k := i.natAbs.log2 + 1) (Nat.succ_pos _) (Nat.lt_succ_self _)
    have e : (Str.ofString (toString i)).length = (toString i).length := PySem.ofString_length _
    show (Str.ofString (toString i)).length ≤ _
    omega
  | .str x, _ => by simp only [PyData.shown, szD]; exact Nat.le_refl _
  | .list xs, h => by
    have h2 := szL_ok xs (by unfold okD at h; exact h)
    simp only [PyData.shown, szD]
    unfold listText
    have := listText_le (PyData.shownAll xs) 0 "["
    rw [strLen_append]
    have e1 : ((("[" : String) : Str)).length = 1 := rfl
    have e2 : ((("]" : String) : Str)).length = 1 := rfl
    omega
  | .tuple xs, h => by
    have h2 := szL_ok xs (by unfold okD at h; exact h)
    simp only [PyData.shown, szD]
    unfold tupleText
    have := join_le (PyData.shownAll xs)
    rw [strLen_append, strLen_append]
    have e1 : ((("(" : String) : Str)).length = 1 := rfl
    have e2 : (((if (PyData.shownAll xs).length == 1 then ",)" else ")" : String) : Str)).length ≤ 2 := by split <;> decide
    omega
  | .dict kvs, h => by
    unfold okD at h
    cases kvs with
    | nil => simp only [PyData.shown, szD]; decide
    | cons _ _ => cases h
theorem szL_ok : ∀ xs : List PyData, okD.okDL xs = true → ((PyData.shownAll xs).map fun t => t.length + 2).sum ≤ szL xs
  | [], _ => by simp [PyData.shownAll, szL]
  | x :: xs, h => by
    unfold okD.okDL at h
    rw [Bool.and_eq_true] at h
    have h1 := szD_ok x h.1
    have h2 := szL_ok xs h.2
    simp only [PyData.shownAll, szL, List.map_cons, List.sum_cons]
    omega
end
mutual
theorem noDict_has : ∀ d : PyData, noDict d = true → PyData.hasDict d = false
  | .none, _ => by simp only [PyData.hasDict]
  | .bool b, _ => by simp only [PyData.hasDict]
  | .int i, _ => by simp only [PyData.hasDict]
  | .str x, _ => by simp only [PyData.hasDict]
  | .list xs, h => by simp only [PyData.hasDict]; exact noDict_hasL xs (by unfold noDict at h; exact h)
  | .tuple xs, h => by simp only [PyData.hasDict]; exact noDict_hasL xs (by unfold noDict at h; exact h)
  | .dict _, h => by unfold noDict at h; cases h
theorem noDict_hasL : ∀ xs : List PyData, noDict.noDictL xs = true → PyData.hasDictAll xs = false
  | [], _ => by simp only [PyData.hasDictAll]
  | x :: xs, h => by
    unfold noDict.noDictL at h
    rw [Bool.and_eq_true] at h
    simp only [PyData.hasDictAll, noDict_has x h.1, noDict_hasL xs h.2, Bool.or_self]
end
section
variable {X : Cx} {pins : List (Addr × Obj)} {σ : L2.St} {H : Hp} {s : Shared}
theorem nl_cons {d : PyData} {ds : List PyData} (h : noLst.noLstL (d :: ds) = true) : noLst d = true ∧ noLst.noLstL ds = true := by
  unfold noLst.noLstL at h
  rwa [Bool.and_eq_true] at h
theorem bare_reads (I : Inv X pins σ H s) {a : Addr} (hs : H a = some (.dK [])) : (a == sysModules) = false ∧ Reads s.heap (.ref a) (.dict []) (a :: [] ++ []) ∧ ∃ o es ep, s.heap.get? a = some o ∧ o.cls = .type "dict" ∧ o.data = .dict es ep ∧ es.toList = [] := by
  obtain ⟨_, hne, vs, kv, o, es, ep, ho, hx, hdt, _, hp, _⟩ := dk_of I.hok hs
  cases kv
  have he : es.toList = [] := by
    have := hp
    cases h : es.toList with
    | nil => rfl
    | cons _ _ => rw [h] at this; cases this
  exact ⟨hne, Reads.dict ho hx.1 hdt (by rw [he]; exact .nil) (by rw [he]; exact .nil), o, es, ep, ho, hx.1, hdt, he⟩
mutual
/-- what is read of a value, and how it is shown: its dicts are bare and not the system's -/
theorem Dr.rk (I : Inv X pins σ H s) : ∀ (d : PyData) (v : V) (u : Value), Dr X.K H d v → RelV v u → noLst d = true → d.showable = true → d.shown.length ≤ sizeLine →
    (∃ as, Reads s.heap u d as) ∧ ∃ bs, ReadAtMost s.heap d.depth bs ∧ ReprK X.prog X.w bs s.heap d.depth u d.shown
  | .none, _, _, h, r, _, _, _ => by
    unfold Dr at h
    subst h
    cases r
    refine ⟨⟨_, .none⟩, [], (fun _ z => nomatch z), ?_⟩
    simp only [PyData.shown]
    exact .of_is .none _ _ _
  | .bool b, _, _, h, r, _, _, _ => by
    unfold Dr at h
    subst h
    cases r
    refine ⟨⟨_, .bool b⟩, [], (fun _ z => nomatch z), ?_⟩
    simp only [PyData.shown]
    exact .of_is (.bool b) _ _ _
  | .int i, _, _, h, r, _, hs, _ => by
    unfold Dr at h
    subst h
    obtain ⟨t, rfl⟩ := r
    refine ⟨⟨_, .int i t⟩, [], (fun _ z => nomatch z), ?_⟩
    simp only [PyData.shown]
    exact .of_is (.int t (by simpa [PyData.showable] using hs)) _ _ _
  | .str x, _, _, h, r, _, _, hz => by
    unfold Dr at h
    subst h
    obtain ⟨t, rfl⟩ := r
    refine ⟨⟨_, .str x t⟩, [], (fun _ z => nomatch z), ?_⟩
    simp only [PyData.shown] at hz
    simp only [PyData.shown]
    exact .of_is (.str x t hz) _ _ _
  | .list ds, _, _, h, r, n, hs, hz => by
    unfold Dr at h
    obtain ⟨a, xs, rfl, ha, hd⟩ := h
    cases r
    obtain ⟨its, rv, ⟨o, m, ho, hc, hdc, hdt⟩, _⟩ := I.list (SqL.of ha)
    simp only [PyData.shown] at hz
    obtain ⟨⟨as, ra⟩, bs, hb, hk⟩ := Dr.rks I ds _ its hd rv (by unfold noLst at n; exact n) (by simpa [PyData.showable] using hs) fun t ht => Nat.le_trans (listText_mem_le ht) hz
    have R := Reads.list ho hc hdt ra
    have dp : PyData.depth (.list ds) = PyData.depthAll ds + 1 := by simp only [PyData.depth]
    have out : a ∉ bs := not_mem_of_deeper R (by omega) hb
    refine ⟨⟨_, R⟩, a :: bs, .cons R (by omega) hb, ?_⟩
    rw [dp, show PyData.shown (.list ds) = listText (PyData.shownAll ds) from by simp only [PyData.shown]]
    match its, ra, hdt, hk with
    | [], ra, hdt, _ =>
      cases ra
      rw [show PyData.shownAll [] = [] from by simp only [PyData.shownAll], listText_nil]
      exact .listEmpty ho hc hdt
    | x :: l, _, hdt, hk => exact .list ho hc hdt out (by rw [hk.length_eq]; simp) fun i y e => hk.item i y (by rw [← e]; simp)
  | .tuple ds, _, _, h, r, n, hs, hz => by
    unfold Dr at h
    obtain ⟨a, xs, rfl, ha, hd⟩ := h
    cases r
    obtain ⟨its, rv, ⟨o, ho, hc, m, hdt⟩, _⟩ := I.tuple (SqT.of ha)
    simp only [PyData.shown] at hz
    obtain ⟨⟨as, ra⟩, bs, hb, hk⟩ := Dr.rks I ds _ its hd rv (by unfold noLst at n; exact n) (by simpa [PyData.showable] using hs) fun t ht => Nat.le_trans (tupleText_mem_le ht) hz
    have R := Reads.tuple ho hc hdt ra
    have dp : PyData.depth (.tuple ds) = PyData.depthAll ds + 1 := by simp only [PyData.depth]
    have out : a ∉ bs := not_mem_of_deeper R (by omega) hb
    refine ⟨⟨_, R⟩, a :: bs, .cons R (by omega) hb, ?_⟩
    rw [dp, show PyData.shown (.tuple ds) = tupleText (PyData.shownAll ds) from by simp only [PyData.shown]]
    exact .tuple ho hc hdt out hk
  | .dict kvs, _, _, h, r, _, _, _ => by
    unfold Dr at h
    obtain ⟨a, rfl, rfl, hs⟩ := h
    cases r
    obtain ⟨hne, R, o, es, ep, ho, hc, hdt, he⟩ := bare_reads I hs
    have no : ReadAtMost s.heap (PyData.depthKv []) [] := fun _ z => by cases z
    refine ⟨⟨_, R⟩, [a], .cons R (by simp only [PyData.depth]; omega) no, ?_⟩
    have dp : PyData.depth (.dict []) = PyData.depthKv [] + 1 := by simp only [PyData.depth]
    rw [dp, show PyData.shown (.dict []) = dictText (PyData.shownKv []) from by simp only [PyData.shown]]
    refine .dict ho hc hdt hne (as := []) (by simp) ?_
    rw [he, show PyData.shownKv [] = [] from by simp only [PyData.shownKv]]
    exact .nil
theorem Dr.rks (I : Inv X pins σ H s) : ∀ (ds : List PyData) (vs : List V) (us : List Value), DrL X.K H ds vs → Vals vs us → noLst.noLstL ds = true → PyData.showableAll ds = true → (∀ t ∈ PyData.shownAll ds, t.length ≤ sizeLine) →
    (∃ as, ReadsAll s.heap us ds as) ∧ ∃ bs, ReadAtMost s.heap (PyData.depthAll ds) bs ∧ ReprAllK X.prog X.w bs s.heap (PyData.depthAll ds) us (PyData.shownAll ds)
  | [], _, _, h, r, _, _, _ => by
    unfold DrL at h
    subst h
    cases r
    refine ⟨⟨_, .nil⟩, [], (fun _ z => nomatch z), ?_⟩
    rw [show PyData.shownAll [] = [] from by simp only [PyData.shownAll]]
    exact .nil
  | d :: ds, _, _, h, r, n, hs, hz => by
    unfold DrL at h
    obtain ⟨v, w, rfl, h1, h2⟩ := h
    have n := nl_cons n
    have hs := (by simpa [PyData.showableAll] using hs : d.showable = true ∧ PyData.showableAll ds = true)
    have es : PyData.shownAll (d :: ds) = d.shown :: PyData.shownAll ds := by simp only [PyData.shownAll]
    have ed : PyData.depthAll (d :: ds) = max d.depth (PyData.depthAll ds) := by simp only [PyData.depthAll]
    rw [es] at hz
    cases r with
    | cons r1 r2 =>
      obtain ⟨⟨as, q1⟩, b1, m1, k1⟩ := Dr.rk I d _ _ h1 r1 n.1 hs.1 (hz _ List.mem_cons_self)
      obtain ⟨⟨bs, q2⟩, b2, m2, k2⟩ := Dr.rks I ds _ _ h2 r2 n.2 hs.2 fun t ht => hz t (List.mem_cons_of_mem _ ht)
      refine ⟨⟨_, .cons q1 q2⟩, b1 ++ b2, ?_, ?_⟩
      · rw [ed]
        exact (m1.mono (Nat.le_max_left ..)).append (m2.mono (Nat.le_max_right ..))
      · rw [es, ed]
        exact .cons ((k1.more fun b hb => List.mem_append_left _ hb).level_le (Nat.le_max_left ..)) (k2.more_le (fun b hb => List.mem_append_right _ hb) (Nat.le_max_right ..))
end
end
def rRpr (K : PySem.W.Frag) : RL := fun vs H Q => ∃ v d, vs = [v] ∧ (Dp K H v d ∧ noDict d = true ∨ Dr K H d v ∧ noLst d = true) ∧ plainR d = true ∧ Q (.str (PyData.shown d)) H
section
variable {X : Cx} {pins : List (Addr × Obj)} {σ : L2.St} {H : Hp} {s : Shared} {v : V} {u : Value} {Q : VK}
theorem rpr_list (I : Inv X pins σ H s) (g : Hq.Gd X.A) {ds : List PyData} (h : Dr X.K H (.list ds) v) (r : RelV v u) (n : noLst (.list ds) = true) (sh : PyData.showable (.list ds) = true) (sz : (PyData.shown (.list ds)).length ≤ sizeLine) (hu : X.A.units + 1 + PyData.depth (.list ds) < cLine)
    (q : Q (.str (PyData.shown (.list ds))) H) : wpAny (model X.prog X.w) X.A (call (.builtin "repr") [u]) (EP X pins σ Q) X.xe s := by
  unfold Dr at h
  obtain ⟨a, xs, rfl, ha, hd⟩ := h
  cases r
  obtain ⟨its, rv, ⟨o, m, ho, hc, hdc, hdt⟩, _⟩ := I.list (SqL.of ha)
  have es : PyData.shown (.list ds) = listText (PyData.shownAll ds) := by simp only [PyData.shown]
  have dp : PyData.depth (.list ds) = PyData.depthAll ds + 1 := by simp only [PyData.depth]
  rw [es] at sz q
  rw [dp] at hu
  obtain ⟨⟨as, ra⟩, bs, hb, hk⟩ := Dr.rks I ds _ its hd rv (by unfold noLst at n; exact n) (by simpa [PyData.showable] using sh) fun t ht => Nat.le_trans (listText_mem_le ht) sz
  have out : a ∉ bs := not_mem_of_deeper (Reads.list ho hc hdt ra) (by omega) hb
  refine call_repr_slot (T := "list") (idr := "list.__repr__") (by omega) ⟨o, ho, hc⟩ F.slot_list_repr.toG ?_
  match its, ra, hdt, hk with
  | [], ra, hdt, _ =>
    cases ra
    rw [show PyData.shownAll [] = [] from by simp only [PyData.shownAll], listText_nil] at q
    exact call_list_repr_empty ⟨o, ho, hc⟩ ho hdt ⟨_, _, rfl, .str _, H, I.tok _, ⟨_, rfl⟩, q⟩
  | x :: l, _, hdt, hk => exact call_list_reprK ho hc hdt out (by rw [hk.length_eq]; simp) (fun i y e => hk.item i y (by rw [← e]; simp)) g (fun b _ => Clear.nil b) (by show X.A.units + 1 + _ < _; omega) (fun _ _ e => e) (fun h' t tk k => ⟨_, _, rfl, .str _, H, I.kept k, ⟨_, rfl⟩, q⟩) sz
theorem rpr_tup (I : Inv X pins σ H s) (g : Hq.Gd X.A) {ds : List PyData} (h : Dr X.K H (.tuple ds) v) (r : RelV v u) (n : noLst (.tuple ds) = true) (sh : PyData.showable (.tuple ds) = true) (sz : (PyData.shown (.tuple ds)).length ≤ sizeLine) (hu : X.A.units + 1 + PyData.depth (.tuple ds) < cLine)
    (q : Q (.str (PyData.shown (.tuple ds))) H) : wpAny (model X.prog X.w) X.A (call (.builtin "repr") [u]) (EP X pins σ Q) X.xe s := by
  unfold Dr at h
  obtain ⟨a, xs, rfl, ha, hd⟩ := h
  cases r
  obtain ⟨its, rv, ⟨o, ho, hc, m, hdt⟩, _⟩ := I.tuple (SqT.of ha)
  have es : PyData.shown (.tuple ds) = tupleText (PyData.shownAll ds) := by simp only [PyData.shown]
  have dp : PyData.depth (.tuple ds) = PyData.depthAll ds + 1 := by simp only [PyData.depth]
  rw [es] at sz q
  rw [dp] at hu
  obtain ⟨⟨as, ra⟩, bs, hb, hk⟩ := Dr.rks I ds _ its hd rv (by unfold noLst at n; exact n) (by simpa [PyData.showable] using sh) fun t ht => Nat.le_trans (tupleText_mem_le ht) sz
  have out : a ∉ bs := not_mem_of_deeper (Reads.tuple ho hc hdt ra) (by omega) hb
  refine call_repr_slot (T := "tuple") (idr := "tuple.__repr__") (by omega) ⟨o, ho, hc⟩ F.slot_tuple_repr ?_
  exact call_tuple_reprK ho hc hdt out hk g (fun b _ => Clear.nil b) (by show X.A.units + 1 + _ < _; omega) (fun _ _ e => e) (fun h' t tk k => ⟨_, _, rfl, .str _, H, I.kept k, ⟨_, rfl⟩, q⟩) sz
end
theorem call_rpr {X : Cx} (g : Hq.Gd X.A) (hu : X.A.units + 65 < cLine) : CallR X (.builtin "repr") (rRpr X.K) := by
  intro pins s σ H xs us Q I r h
  obtain ⟨v, d, rfl, hd, hp, q⟩ := h
  unfold plainR at hp
  simp only [Bool.and_eq_true, decide_eq_true_eq] at hp
  obtain ⟨⟨⟨nd, sh⟩, dp⟩, sz⟩ := hp
  obtain ⟨u, rfl, ru⟩ := vals1 r
  have okd : okD d = true := by
    rcases hd with ⟨hd, n⟩ | ⟨hd, n⟩
    · exact noDict_ok d n
    · exact noLst_ok d n
  have hz : (PyData.shown d).length ≤ sizeLine := Nat.le_trans (szD_ok d okd) sz
  have flat : ∀ as, Reads s.heap u d as → (d.hasDict = true → sysModules ∉ as) → wpAny (model X.prog X.w) X.A (call (.builtin "repr") [u]) (EP X pins σ Q) X.xe s := by
    intro as rd hsm
    have go : ∀ a, u = .ref a → wpAny (model X.prog X.w) X.A (call (.builtin "repr") [u]) (EP X pins σ Q) X.xe s := by
      rintro a rfl
      refine repr_of_reads' rd sh hsm g (by omega) (fun _ _ e => e) (fun h' t tk hk => ?_) hz
      exact ⟨.str (PyData.shown d), H, I.kept hk, ⟨_, rfl⟩, q⟩
    cases rd with
    | none => exact PySem.P.repr_of_none ⟨.str _, H, I.tok _, ⟨_, rfl⟩, by simpa only [PyData.shown] using q⟩
    | bool b => exact PySem.P.repr_of_bool ⟨.str _, H, I.tok _, ⟨_, rfl⟩, by simpa only [PyData.shown] using q⟩
    | int i t => exact PySem.P.repr_of_int (by simpa [PyData.showable] using sh) ⟨.str _, H, I.tok _, ⟨_, rfl⟩, by simpa only [PyData.shown] using q⟩
    | str x t => exact PySem.P.repr_of_str ⟨.str _, H, I.tok _, ⟨_, rfl⟩, by simpa only [PyData.shown] using q⟩ (by simpa only [PyData.shown] using hz)
    | list _ _ _ _ => exact go _ rfl
    | tuple _ _ _ _ => exact go _ rfl
    | dict _ _ _ _ _ => exact go _ rfl
  rcases hd with ⟨hd, n⟩ | ⟨hd, n⟩
  · obtain ⟨as, rd⟩ := Dp.reads I d v u hd ru
    exact flat as rd (PyData.noDict_hsm (noDict_has d n))
  · have k := Dr.rk I d v u hd ru n sh hz
    cases d with
    | list ds => exact rpr_list I g hd ru n sh hz (by omega) q
    | tuple ds => exact rpr_tup I g hd ru n sh hz (by omega) q
    | dict kvs =>
      unfold Dr at hd
      obtain ⟨a, rfl, rfl, hs⟩ := hd
      cases ru
      obtain ⟨hne, rd, _⟩ := bare_reads I hs
      exact flat _ rd fun _ z => by simp at z; simp [← z] at hne
    | none => obtain ⟨⟨as, rd⟩, _⟩ := k; exact flat as rd fun z => by simp [PyData.hasDict] at z
    | bool b => obtain ⟨⟨as, rd⟩, _⟩ := k; exact flat as rd fun z => by simp [PyData.hasDict] at z
    | int i => obtain ⟨⟨as, rd⟩, _⟩ := k; exact flat as rd fun z => by simp [PyData.hasDict] at z
    | str x => obtain ⟨⟨as, rd⟩, _⟩ := k; exact flat as rd fun z => by simp [PyData.hasDict] at z
end Hw
set_option Elab.async false
set_option linter.all false
set_option maxRecDepth 100000
set_option maxHeartbeats 1000000
namespace Hw
open PySem PySem.Spec PyProof.Rows L2
section
variable {K : PySem.W.Frag} {H H' H1 : Hp} {f f' : Fp} {a t : Tr} {x : V}
theorem New.lift {v : V} (e : Ext H H1) (n : New K H1 f H' f' t v) : New K H f H' f' t v := by
  obtain ⟨e1, g, r, hf, hg⟩ := n
  refine ⟨fun a o h => e1 a o (e a o h), g, r, hf, fun a h => ?_⟩
  obtain ⟨h1, h2, h3⟩ := hg a h
  refine ⟨h1, ?_, h3⟩
  cases q : H a with
  | none => rfl
  | some o => rw [e a o q] at h2; cases h2
theorem keys_rep : ∀ {ds : List PyData} {ks : List (List Int)} {vs : List V}, keysD ds = some ks → DrL K H ds vs → ∃ ps : List (Addr × List Int), vs = ps.map (fun p => V.ref p.1) ∧ ps.map (·.2) = ks ∧ ∀ p ∈ ps, H p.1 = some (.tup (p.2.map V.int))
  | [], ks, vs, e, h => by
    unfold keysD at e; cases e
    unfold DrL at h
    exact ⟨[], h, rfl, fun _ z => nomatch z⟩
  | d :: ds, ks, vs, e, h => by
    unfold keysD at e
    split at e
    · rename_i z; cases z
    · rename_i es r z
      cases z
      split at e
      · rename_i k ks' e1 e2
        cases e
        unfold DrL at h
        obtain ⟨v, r', rfl, h1, h2⟩ := h
        unfold Dr at h1
        obtain ⟨p, xs, rfl, h3, h4⟩ := h1
        obtain ⟨ps, rfl, rfl, h5⟩ := keys_rep e2 h2
        have := intsOf_rep e1 h4
        subst this
        exact ⟨(p, k) :: ps, rfl, rfl, fun q hq => by
          rcases List.mem_cons.mp hq with rfl | hq
          · exact h3
          · exact h5 q hq⟩
      · cases e
    · cases e
theorem keys_dr : ∀ {ps : List (Addr × List Int)}, (∀ p ∈ ps, H p.1 = some (.tup (p.2.map V.int))) → DrL K H ((ps.map (·.2)).map kD') (ps.map fun p => V.ref p.1)
  | [], _ => by unfold DrL; rfl
  | p :: ps, h => by
    have i : ∀ ns : List Int, DrL K H (ns.map PyData.int) (ns.map V.int) := by
      intro ns
      induction ns with
      | nil => unfold DrL; rfl
      | cons n ns ih =>
        show DrL K H (.int n :: ns.map .int) (.int n :: ns.map V.int)
        unfold DrL
        exact ⟨_, _, rfl, by unfold Dr; rfl, ih⟩
    show DrL K H (kD' p.2 :: (ps.map (·.2)).map kD') (.ref p.1 :: ps.map fun p => V.ref p.1)
    unfold DrL
    refine ⟨_, _, rfl, ?_, keys_dr fun q hq => h q (List.mem_cons_of_mem _ hq)⟩
    unfold kD' Dr
    exact ⟨_, _, rfl, h p List.mem_cons_self, i _⟩
theorem ints_dr : ∀ ns : List Int, DrL K H (ns.map PyData.int) (ns.map V.int)
  | [] => by unfold DrL; rfl
  | n :: ns => by
    show DrL K H (.int n :: ns.map .int) (.int n :: ns.map V.int)
    unfold DrL
    exact ⟨_, _, rfl, by unfold Dr; rfl, ints_dr ns⟩
theorem vint_inj : ∀ {ns ms : List Int}, ns.map V.int = ms.map V.int → ns = ms
  | [], [], _ => rfl
  | [], _ :: _, h => by simp at h
  | _ :: _, [], h => by simp at h
  | n :: ns, m :: ms, h => by
    simp only [List.map_cons, List.cons.injEq, V.int.injEq] at h
    rw [h.1, vint_inj h.2]
noncomputable def kAt (H : Hp) (v : V) : List Int := by
  classical exact if h : ∃ (p : Addr) (ns : List Int), v = V.ref p ∧ H p = some (.tup (ns.map V.int)) then h.choose_spec.choose else []
theorem kAt_is {p : Addr} {ns : List Int} (h : H p = some (.tup (ns.map V.int))) : kAt H (.ref p) = ns := by
  classical
  have hx : ∃ (p' : Addr) (ns' : List Int), V.ref p = V.ref p' ∧ H p' = some (.tup (ns'.map V.int)) := ⟨p, ns, rfl, h⟩
  unfold kAt
  rw [dif_pos hx]
  have hs := hx.choose_spec.choose_spec
  generalize hx.choose_spec.choose = m at hs ⊢
  obtain ⟨e, h2⟩ := hs
  injection e with e
  rw [← e, h] at h2
  simp only [Option.some.injEq, HO.tup.injEq] at h2
  exact vint_inj h2.symm
def rSrt (K : PySem.W.Frag) : List V → Hp → VK → Prop := fun vs H Q => rSortedI K vs H Q ∨ Hx.rSortTs K vs H Q
theorem srt_ok (al : Alc H f) (r : RepW K H f a x) (e : (asList a).bind srtD = some t) {Q : VK} (q : ∀ v H' f', New K H f H' f' t v → Q v H') : rSrt K [x] H Q := by
  obtain ⟨ds, e1, e2⟩ := Option.bind_eq_some_iff.mp e
  obtain ⟨p, vs, rfl, h1, d1⟩ := asList_rep r e1
  unfold srtD at e2
  split at e2
  · rename_i ns e3
    cases e2
    have := intsOf_rep e3 d1
    subst this
    refine .inl ⟨p, ns, rfl, SqL.of h1, fun ns' l pm pw hl => ?_⟩
    obtain rfl := Hx.isrt_uniq pm pw
    exact q _ _ _ (New.lst hl al (ints_dr _))
  · obtain ⟨ks, e3, e4⟩ := Option.bind_eq_some_iff.mp e2
    split at e4
    · rename_i hc
      cases e4
      have ko := Hx.kOk_of hc.2.2
      obtain ⟨ps, rfl, rfl, h2⟩ := keys_rep e3 d1
      have hH : ∀ p ∈ ps, H p.1 = some (.tup (p.2.map V.int)) := fun p hp => (mn_some (h2 p hp)).2
      have mem2 : ∀ p ∈ ps, p.2 ∈ ps.map (·.2) := fun p hp => List.mem_map.mpr ⟨p, hp, rfl⟩
      rw [List.length_map] at hc
      refine .inr ⟨_, hc.2.1, p, _, rfl, SqL.of h1, by rw [List.length_map]; exact hc.1, fun v hv => ?_, fun ys l pm pw hl => ?_⟩
      · obtain ⟨p, hp, rfl⟩ := List.mem_map.mp hv
        exact ⟨p.2, ⟨p.1, rfl, SqT.of (hH p hp)⟩, ko.l _ (mem2 p hp), ko.b _ (mem2 p hp)⟩
      · have back : ∀ y ∈ ys, ∃ p ∈ ps, y = V.ref p.1 ∧ kAt H y = p.2 := fun y hy => by
          obtain ⟨p, hp, rfl⟩ := List.mem_map.mp (pm.mem_iff.mp hy)
          exact ⟨p, hp, rfl, kAt_is (hH p hp)⟩
        have pk : (ys.map (kAt H)).Perm (ps.map (·.2)) := by
          have := pm.map (kAt H)
          have e : ps.map (kAt H ∘ fun p => V.ref p.1) = ps.map (·.2) := List.map_congr_left fun p hp => kAt_is (hH p hp)
          rw [List.map_map, e] at this
          exact this
        have sk : (ys.map (kAt H)).Pairwise fun a b => TS.code 1000 a ≤ TS.code 1000 b := by
          rw [List.pairwise_map]
          refine pw.imp_of_mem fun {u w} hu hw h => ?_
          obtain ⟨p, hp, rfl, ep⟩ := back u hu
          obtain ⟨p', hp', rfl, ep'⟩ := back w hw
          rw [ep, ep']
          exact h _ _ ⟨p.1, rfl, SqT.of (hH p hp)⟩ ⟨p'.1, rfl, SqT.of (hH p' hp')⟩
        have eq := Hx.ksrt_uniq ko pk sk
        have dr : DrL K (mn H f) ((ys.map (kAt H)).map kD') ys := by
          have : ∀ zs : List V, (∀ z ∈ zs, z ∈ ys) → DrL K (mn H f) ((zs.map (kAt H)).map kD') zs := by
            intro zs
            induction zs with
            | nil => intro _; unfold DrL; rfl
            | cons z zs ih =>
              intro hz
              obtain ⟨p, hp, rfl, ep⟩ := back z (hz z List.mem_cons_self)
              show DrL K (mn H f) (kD' (kAt H (.ref p.1)) :: (zs.map (kAt H)).map kD') (.ref p.1 :: zs)
              unfold DrL
              refine ⟨_, _, rfl, ?_, ih fun w hw => hz w (List.mem_cons_of_mem _ hw)⟩
              rw [ep]
              unfold kD' Dr
              exact ⟨_, _, rfl, h2 p hp, ints_dr _⟩
          exact this ys fun _ h => h
        have nw := New.lst hl al dr
        rw [eq] at nw
        exact q _ _ _ nw
    · cases e4
def rSset (X : Cx) : List V → Hp → VK → Prop := fun vs H Q => Hx.rSetTI X.K X.w vs H Q ∨ rSetOfT X.K X.prog X.w vs H Q
def rSsrt (X : Cx) : List V → Hp → VK → Prop := fun vs H Q => rSortedSet X.w vs H Q ∨ rSortedT X.K X.prog X.w vs H Q
theorem srs_ok {X : Cx} (hK : X.K = K) (al : Alc H f) (r : RepW K H f a x) (e : srsEv a = some t) {Q : VK} (q : ∀ v H' f', New K H f H' f' t v → Q v H') : rSset X [x] H fun v H1 => rSsrt X [v] H1 Q := by
  subst hK
  unfold srsEv at e
  split at e
  · rename_i ds e1
    obtain ⟨ns, e2, e3⟩ := Option.bind_eq_some_iff.mp e
    split at e3
    · rename_i hl
      cases e3
      obtain ⟨p, vs, rfl, h1, d1⟩ := asTup_rep r e1
      have := intsOf_rep e2 d1
      subst this
      refine .inl ⟨p, ns, rfl, SqT.of (mn_ext _ _ _ _ h1), hl, fun b c hb hc => .inl ⟨b, _, c, rfl, upd_same, (by omega), fun ms l pw hm _ hn => ?_⟩⟩
      obtain rfl := Hx.isrt_set (ns := ns) pw fun k => by rw [hm k, decide_eq_true_eq]
      have E := Ext.new (o := SetO X.w b (fun j => decide (j ∈ ns)) c) hb
      have al' : Alc (upd H b (SetO X.w b (fun j => decide (j ∈ ns)) c)) f := fun z hz => by obtain ⟨o, ho⟩ := al z hz; exact ⟨o, E z o ho⟩
      exact q _ _ _ (New.lift E (New.lst hn al' (ints_dr _)))
    · cases e3
  · obtain ⟨ds, e1, e2⟩ := Option.bind_eq_some_iff.mp e
    obtain ⟨ks, e3, e4⟩ := Option.bind_eq_some_iff.mp e2
    split at e4
    · rename_i hc
      cases e4
      obtain ⟨p, vs, rfl, h1, d1⟩ := asList_rep r e1
      have ko := Hx.kOk_of hc.2.2
      obtain ⟨ps, rfl, rfl, h2⟩ := keys_rep e3 d1
      have hH : ∀ p ∈ ps, H p.1 = some (.tup (p.2.map V.int)) := fun p hp => (mn_some (h2 p hp)).2
      have mem2 : ∀ p ∈ ps, p.2 ∈ ps.map (·.2) := fun p hp => List.mem_map.mpr ⟨p, hp, rfl⟩
      rw [List.length_map] at hc
      refine .inr ⟨p, ps, rfl, SqL.of h1, fun p hp => SqT.of (hH p hp), hc.1, fun b L hb hL hcov => .inr ⟨b, L, _, 1000, rfl, upd_same, fun p hp => SqT.of (Ext.new hb _ _ (hH p (hL p hp))), hc.2.1, fun p hp => ⟨ko.l _ (mem2 p (hL p hp)), ko.b _ (mem2 p (hL p hp))⟩, fun L' l pm nd _ pw hl => ?_⟩⟩
      have hL' : ∀ p ∈ L', p ∈ ps := fun p hp => hL p (pm.mem_iff.mp hp)
      have eq := Hx.ksrt_set ko nd (fun k => ⟨fun hk => by
        obtain ⟨p, hp, rfl⟩ := List.mem_map.mp hk
        exact mem2 p (hL' p hp), fun hk => by
        obtain ⟨p, hp, rfl⟩ := List.mem_map.mp hk
        exact (pm.map (·.2)).mem_iff.mpr (hcov p hp)⟩) (by rw [List.pairwise_map]; exact pw)
      have E := Ext.new (o := SetTO X.prog X.w b L) hb
      have al' : Alc (upd H b (SetTO X.prog X.w b L)) f := fun z hz => by obtain ⟨o, ho⟩ := al z hz; exact ⟨o, E z o ho⟩
      have dr := keys_dr (K := X.K) (H := mn (upd H b (SetTO X.prog X.w b L)) f) (ps := L') fun p hp => mn_new hb al _ _ (h2 p (hL' p hp))
      have nw := New.lst hl al' dr
      rw [eq] at nw
      exact q _ _ _ (New.lift E nw)
    · cases e4
end
end Hw
set_option Elab.async false
set_option linter.all false
set_option maxRecDepth 100000
set_option maxHeartbeats 1000000
namespace Hx
open PySem PySem.Spec PyProof.Rows L2
structure Lzg (xs ys : Array Value) (lo : Addr) (h : Heap) (as : List Addr) : Prop where
  rise : as.Pairwise (· < ·)
  above : ∀ a ∈ as, lo < a
  pairs : ∀ (j : Nat) (a : Addr), as[j]? = some a → ∃ x y, xs[j]? = some x ∧ ys[j]? = some y ∧ IsPair h a x y
theorem Lzg.there {xs ys : Array Value} {lo : Addr} {h : Heap} {as : List Addr} (g : Lzg xs ys lo h as) {a : Addr} (ha : a ∈ as) : a < h.objs.size := by
  obtain ⟨j, hj⟩ := List.mem_iff_getElem?.mp ha
  obtain ⟨_, _, _, _, e⟩ := g.pairs j a hj
  exact Heap.lt_size e
theorem Lzg.low {xs ys : Array Value} {lo lo' : Addr} {h : Heap} {as : List Addr} (g : Lzg xs ys lo h as) (hl : lo' ≤ lo) : Lzg xs ys lo' h as := ⟨g.rise, fun a ha => Nat.lt_of_le_of_lt hl (g.above a ha), g.pairs⟩
def Lzs (z TI TO i1 i2 l1 l2 S : Addr) (xs ys : Array Value) (i : Nat) (h : Heap) : Prop :=
  IsPair h TI (.ref i1) (.ref i2) ∧ h.IsListIter i1 l1 i ∧ h.IsListIter i2 l2 i ∧ h.IsList l1 xs ∧ h.IsList l2 ys ∧
  ((IsZip h z TI TO .none ∧ ∃ a b, IsPair h TO a b) ∨ ∃ T f oT, IsZipHeld h z TI TO T f ∧ h.get? T = some oT ∧ T ≠ z ∧ T ≠ i1 ∧ T ≠ i2 ∧ T ≠ S)
structure Lza (S z TI TO i1 i2 l1 l2 : Addr) : Prop where
  sz : S ≠ z
  sTI : S ≠ TI
  sTO : S ≠ TO
  s1 : S ≠ i1
  s2 : S ≠ i2
  sl1 : S ≠ l1
  sl2 : S ≠ l2
theorem Lzs.frame {z TI TO i1 i2 l1 l2 S : Addr} {xs ys : Array Value} {i : Nat} {h h' : Heap} (ap : Lza S z TI TO i1 i2 l1 l2) (st : Lzs z TI TO i1 i2 l1 l2 S xs ys i h) (hk : ∀ b o, b ≠ S → h.get? b = some o → h'.get? b = some o) : Lzs z TI TO i1 i2 l1 l2 S xs ys i h' := by
  obtain ⟨hTI, h1, h2, hl1, hl2, hz⟩ := st
  refine ⟨hk _ _ (Ne.symm ap.sTI) hTI, h1.at fun o e => hk _ o (Ne.symm ap.s1) e, h2.at fun o e => hk _ o (Ne.symm ap.s2) e, hl1.at fun o e => hk _ o (Ne.symm ap.sl1) e, hl2.at fun o e => hk _ o (Ne.symm ap.sl2) e, ?_⟩
  rcases hz with ⟨hz, a, b, hTO⟩ | ⟨T, f, oT, hz, hT, r1, r2, r3, r4⟩
  · exact .inl ⟨hk _ _ (Ne.symm ap.sz) hz, a, b, hk _ _ (Ne.symm ap.sTO) hTO⟩
  · exact .inr ⟨T, f, oT, hk _ _ (Ne.symm ap.sz) hz, hk _ _ r4 hT, r1, r2, r3, r4⟩
section
variable {prog : Program} {w : World} {A : Around} {E : Value → Shared → Prop} {s : Shared}
theorem lz_item {z TI TO i1 i2 l1 l2 S : Addr} {xs ys : Array Value} {i : Nat} {Q : Option Value → Shared → Prop} (D : ZipApart z TI TO i1 i2 l1 l2) (st : Lzs z TI TO i1 i2 l1 l2 S xs ys i s.heap) (hS : S < s.heap.objs.size) (hi : i < min xs.size ys.size)
    (hQ : ∀ h' x y, xs[i]? = some x → ys[i]? = some y → Lzs z TI TO i1 i2 l1 l2 S xs ys (i + 1) h' → IsPair h' s.heap.objs.size x y → h'.objs.size = s.heap.objs.size + 1 →
      (∀ c o, c ≠ z → c ≠ TO → c ≠ i1 → c ≠ i2 → s.heap.get? c = some o → h'.get? c = some o) → Q (some (.ref s.heap.objs.size)) { s with heap := h' }) :
    wpAny (model prog w) A (pyNext (.ref z)) Q E s := by
  obtain ⟨hTI, h1, h2, hl1, hl2, hz⟩ := st
  have hix : i < xs.size := Nat.lt_of_lt_of_le hi (Nat.min_le_left ..)
  have hiy : i < ys.size := Nat.lt_of_lt_of_le hi (Nat.min_le_right ..)
  have ex := Array.getElem?_eq_getElem hix
  have ey := Array.getElem?_eq_getElem hiy
  have lt : ∀ {c o}, s.heap.get? c = some o → s.heap.objs.size ≠ c := fun e => Nat.ne_of_gt (Heap.lt_size e)
  have n1 : s.heap.objs.size ≠ i1 := let ⟨_, e, _⟩ := h1; lt e
  have n2 : s.heap.objs.size ≠ i2 := let ⟨_, e, _⟩ := h2; lt e
  rcases hz with ⟨hz, a, b, hTO⟩ | ⟨T, f, oT, hz, hT, r1, r2, r3, r4⟩
  · refine wpAny_pyNext_zip_item D hz hTI hTO h1 h2 hl1 hl2 ex ey fun h' a1 a2 a3 a4 a5 a6 hk => ?_
    exact hQ h' _ _ ex ey ⟨hk _ _ D.TIz D.TITO D.TIi1 D.TIi2 hTI, a3, a4, hl1.at fun o e => hk _ o D.l1z D.l1TO D.l1i1 D.l1i2 e, hl2.at fun o e => hk _ o D.l2z D.l2TO D.l2i1 D.l2i2 e,
      .inr ⟨s.heap.objs.size, false, _, a1, a5, lt hz, n1, n2, Nat.ne_of_gt hS⟩⟩ a5 a6 hk
  · refine wpAny_pyNext_zip_item_held D hz hT hTI h1 h2 hl1 hl2 ex ey fun h' a1 a3 a4 a5 a6 hk => ?_
    exact hQ h' _ _ ex ey ⟨hk _ _ D.TIz D.TIi1 D.TIi2 hTI, a3, a4, hl1.at fun o e => hk _ o D.l1z D.l1i1 D.l1i2 e, hl2.at fun o e => hk _ o D.l2z D.l2i1 D.l2i2 e,
      .inr ⟨T, true, oT, a1, hk _ _ r1 r2 r3 hT, r1, r2, r3, r4⟩⟩ a5 a6 fun c o c1 _ c3 c4 e => hk c o c1 c3 c4 e
theorem lz_done {z TI TO i1 i2 l1 l2 S : Addr} {xs ys : Array Value} {i : Nat} {Q : Option Value → Shared → Prop} (hA : A.handled = none) (D : ZipApart z TI TO i1 i2 l1 l2) (st : Lzs z TI TO i1 i2 l1 l2 S xs ys i s.heap) (hi : i = min xs.size ys.size)
    (hQ : ∀ h', (∀ c o, c ≠ z → c ≠ TO → c ≠ i1 → c ≠ i2 → s.heap.get? c = some o → h'.get? c = some o) → Q none { s with heap := h' }) :
    wpAny (model prog w) A (pyNext (.ref z)) Q E s := by
  obtain ⟨hTI, h1, h2, hl1, hl2, hz⟩ := st
  have hend : xs[i]? = none ∨ ys[i]? = none := by
    rw [hi]
    rcases Nat.le_total xs.size ys.size with h | h
    · exact .inl (Array.getElem?_eq_none (by rw [Nat.min_eq_left h]; exact Nat.le_refl _))
    · exact .inr (Array.getElem?_eq_none (by rw [Nat.min_eq_right h]; exact Nat.le_refl _))
  rcases hz with ⟨hz, a, b, hTO⟩ | ⟨T, f, oT, hz, hT, r1, r2, r3, r4⟩
  · exact wpAny_pyNext_zip_end hA D hz hTI hTO h1 h2 hl1 hl2 hend hQ
  · exact wpAny_pyNext_zip_end_held hA D hz hT hTI h1 h2 hl1 hl2 hend fun h' hk => hQ h' fun c o c1 _ c3 c4 e => hk c o c1 c3 c4 e
end
section
variable {prog : Program} {w : World} {A : Around} {s : Shared} {R : Result → Shared → Prop}
theorem lz_loop {z TI TO i1 i2 l1 l2 S : Addr} {xs ys : Array Value} (hh : A.handled = none) (D : ZipApart z TI TO i1 i2 l1 l2) (ap : Lza S z TI TO i1 i2 l1 l2) (lo : Addr) (hlo : S ≤ lo) (hn : min xs.size ys.size ≤ sizeLine) (res : Value) {h₁ : Heap} (nz : z ≤ lo) (nTO : TO ≤ lo) (n1 : i1 ≤ lo) (n2 : i2 ≤ lo)
    (hR : ∀ h' tk acc c as, (∀ b o, b ≠ S → b ≠ z → b ≠ TO → b ≠ i1 → b ≠ i2 → h₁.get? b = some o → h'.get? b = some o) → h'.get? S = some { cls := .type "list", dict := none, data := .seq acc c, slots := #[] } → as.length = min xs.size ys.size → Lzg xs ys lo h' as →
      acc.toList = as.map Value.ref → R (.ok (.ret res)) { s with heap := h', toks := tk }) :
    ∀ (k i : Nat) (h : Heap) (tk c : Nat) (acc : Array Value) (as : List Addr), min xs.size ys.size - i = k → i ≤ min xs.size ys.size → Lzs z TI TO i1 i2 l1 l2 S xs ys i h → (∀ b o, b ≠ S → b ≠ z → b ≠ TO → b ≠ i1 → b ≠ i2 → h₁.get? b = some o → h.get? b = some o) →
      h.get? S = some { cls := .type "list", dict := none, data := .seq acc c, slots := #[] } → acc.toList = as.map Value.ref → as.length = i → Lzg xs ys lo h as → lo < h.objs.size →
      codeAny (model prog w) A (.builtin "list.extend.loop" ⟨[.ref S, .ref z, res], []⟩) R { s with heap := h, toks := tk } := by
  intro k
  induction k with
  | zero =>
    intro i h tk c acc as hk hi hst hkeep hS hacc hal hG hIs
    refine codeAny_builtin PySem.F.entry_extend_loop ?_
    rw [Around.under_plainId PySem.F.plain_extend_loop _]
    show wpAny _ A.in1 (pyNext (.ref z) >>= _) _ _ _
    refine wpAny_bind (lz_done (s := { s with heap := h, toks := tk }) (A := A.in1) hh D hst (by omega) fun h' he => ?_)
    refine wpAny_pure (hR h' tk acc c as (fun b o b1 b2 b3 b4 b5 e => he b o b2 b3 b4 b5 (hkeep b o b1 b2 b3 b4 b5 e)) (he S _ ap.sz ap.sTO ap.s1 ap.s2 hS) (by omega) ⟨hG.rise, hG.above, fun j a hj => ?_⟩ hacc)
    obtain ⟨x, y, e1, e2, e3⟩ := hG.pairs j a hj
    have ha := hG.above a (List.mem_of_getElem? hj)
    exact ⟨x, y, e1, e2, he a _ (Nat.ne_of_gt (Nat.lt_of_le_of_lt nz ha)) (Nat.ne_of_gt (Nat.lt_of_le_of_lt nTO ha)) (Nat.ne_of_gt (Nat.lt_of_le_of_lt n1 ha)) (Nat.ne_of_gt (Nat.lt_of_le_of_lt n2 ha)) e3⟩
  | succ k ih =>
    intro i h tk c acc as hk hi hst hkeep hS hacc hal hG hIs
    have hlt : i < min xs.size ys.size := by omega
    have hsz : acc.size = i := by rw [← Array.length_toList, hacc, List.length_map, hal]
    have hSl : S < h.objs.size := Heap.lt_size hS
    refine codeAny_builtin PySem.F.entry_extend_loop ?_
    rw [Around.under_plainId PySem.F.plain_extend_loop _]
    show wpAny _ A.in1 (pyNext (.ref z) >>= _) _ _ _
    refine wpAny_bind (lz_item (s := { s with heap := h, toks := tk }) (S := S) D hst hSl hlt fun h' x y ex ey hst' ht hz hkp => ?_)
    dsimp only at ht hz hkp ⊢
    have hS' := hkp S _ ap.sz ap.sTO ap.s1 ap.s2 hS
    have up : ∀ b o, b ≠ S → h'.get? b = some o → (h'.update S (Obj.mapSeq (·.push (Value.ref h.objs.size)))).get? b = some o := fun b o hb e => (Heap.get?_update_other _ _ (Ne.symm hb)).trans e
    show wpAny _ A.in1 (updateSeq S (·.push (Value.ref h.objs.size)) >>= _) _ _ _
    refine wpAny_bind ?_
    refine wpAny_updateSeq hS' rfl (wpAny_pure ⟨plainId_quiet PySem.F.plain_extend_loop _, ih (i + 1) _ tk _ (acc.push (Value.ref h.objs.size)) (as ++ [h.objs.size]) (by omega) hlt (hst'.frame ap up)
      (fun b o b1 b2 b3 b4 b5 e => up b o b1 (hkp b o b2 b3 b4 b5 (hkeep b o b1 b2 b3 b4 b5 e))) (Heap.get?_update_self _ hS' rfl) (by rw [Array.toList_push, hacc, List.map_append]; rfl) (by rw [List.length_append, hal]; rfl) ⟨?_, ?_, ?_⟩ ?_⟩) (by rw [hsz]; omega) (by show (acc.push (Value.ref h.objs.size)).size ≤ sizeLine + 1; rw [Array.size_push, hsz]; omega)
    · refine List.pairwise_append.mpr ⟨hG.rise, List.pairwise_singleton _ _, fun a ha b hb => ?_⟩
      rw [List.mem_singleton.mp hb]
      exact hG.there ha
    · intro a ha
      rcases List.mem_append.mp ha with ha | ha
      · exact hG.above a ha
      · rw [List.mem_singleton.mp ha]; exact hIs
    · intro j b hj
      rcases Nat.lt_trichotomy j as.length with h1 | h1 | h1
      · rw [List.getElem?_append_left h1] at hj
        obtain ⟨x', y', e1, e2, e3⟩ := hG.pairs j b hj
        have hb := hG.above b (List.mem_of_getElem? hj)
        exact ⟨x', y', e1, e2, up b _ (Nat.ne_of_gt (Nat.lt_of_le_of_lt hlo hb)) (hkp b _ (Nat.ne_of_gt (Nat.lt_of_le_of_lt nz hb)) (Nat.ne_of_gt (Nat.lt_of_le_of_lt nTO hb)) (Nat.ne_of_gt (Nat.lt_of_le_of_lt n1 hb)) (Nat.ne_of_gt (Nat.lt_of_le_of_lt n2 hb)) e3)⟩
      · subst h1
        have hb : h.objs.size = b := by simpa using hj
        subst hb
        exact ⟨x, y, by subst hal; exact ex, by subst hal; exact ey, up _ _ (Nat.ne_of_gt hSl) ht⟩
      · have hnone : (as ++ [h.objs.size])[j]? = none := List.getElem?_eq_none (by rw [List.length_append, List.length_singleton]; omega)
        rw [hnone] at hj; cases hj
    · have e : (h'.update S (Obj.mapSeq (·.push (Value.ref h.objs.size)))).get? h.objs.size = _ := up _ _ (Nat.ne_of_gt hSl) ht
      exact Nat.lt_trans hIs (Heap.lt_size e)
end
theorem zip_no_len : typeLookup (.type "zip") "__len__" = pure none := by rw [typeLookup_type, builtinLookup_eq_fast]; kernel_rfl
theorem zip_no_hint : typeLookup (.type "zip") "__length_hint__" = pure none := by rw [typeLookup_type, builtinLookup_eq_fast]; kernel_rfl
section
variable {prog : Program} {w : World} {A : Around} {E : Value → Shared → Prop} {s : Shared}
theorem lz_hint {z TI TO : Addr} (hz : IsZip s.heap z TI TO .none) {Q : Bool → Shared → Prop} (h : Q true s) : wpAny (model prog w) A (Builtin.List.listLengthHint (.ref z)) Q E s := by
  have hT : s.TypeIs (.ref z) "zip" := ⟨_, hz, rfl⟩
  unfold Builtin.List.listLengthHint
  refine wpAny_bind (wpAny_specialOf hT zip_no_len ?_)
  show wpAny _ _ (specialOf (Value.ref z) (Str.ofString "__length_hint__") >>= _) _ _ _
  refine wpAny_bind (wpAny_specialOf hT zip_no_hint ?_)
  exact wpAny_pure h
theorem lz_extend {z TI TO i1 i2 l1 l2 S : Addr} {xs ys : Array Value} {R : Result → Shared → Prop} (hh : A.handled = none) (D : ZipApart z TI TO i1 i2 l1 l2) (ap : Lza S z TI TO i1 i2 l1 l2) (hSz : z < S) (hSO : TO < S) (hS1 : i1 < S) (hS2 : i2 < S)
    (hst : Lzs z TI TO i1 i2 l1 l2 S xs ys 0 s.heap) (hz : IsZip s.heap z TI TO .none) (res : Value) (c₀ : Nat) (hS : s.heap.get? S = some { cls := .type "list", data := .seq #[] c₀ }) (hl : s.heap.objs.size = S + 1)
    (hR : ∀ h' tk acc c as, (∀ b o, b ≠ S → b ≠ z → b ≠ TO → b ≠ i1 → b ≠ i2 → s.heap.get? b = some o → h'.get? b = some o) → h'.get? S = some { cls := .type "list", dict := none, data := .seq acc c, slots := #[] } → as.length = min xs.size ys.size → Lzg xs ys S h' as →
      acc.toList = as.map Value.ref → R (.ok (.ret res)) { s with heap := h', toks := tk }) (hn : min xs.size ys.size ≤ sizeLine) :
    wpAny (model prog w) A.in1 (Builtin.List.listExtendWith (.ref S) (.ref z) res)
      (fun fin s' => match fin with | .done f => R (.ok f) s' | .again c' => c'.quiet = true ∧ codeAny (model prog w) A c' R s') (fun e s' => R (.error e) s') s := by
  have hT : s.TypeIs (.ref z) "zip" := ⟨_, hz, rfl⟩
  have key : ∀ (h : Heap) (c₁ tk : Nat), (∀ b o, b ≠ S → s.heap.get? b = some o → h.get? b = some o) → S < h.objs.size →
      h.get? S = some { cls := .type "list", data := .seq #[] c₁ } → codeAny (model prog w) A (.builtin "list.extend.loop" ⟨[.ref S, .ref z, res], []⟩) R { s with heap := h, toks := tk } := by
    intro h c₁ tk hk hSl hS₁
    exact lz_loop (s := s) (h₁ := s.heap) hh D ap S (Nat.le_refl _) hn res (Nat.le_of_lt hSz) (Nat.le_of_lt hSO) (Nat.le_of_lt hS1) (Nat.le_of_lt hS2) hR
      _ 0 h tk c₁ #[] [] (Nat.sub_zero _) (Nat.zero_le _) (hst.frame ap hk) (fun b o hb _ _ _ _ e => hk b o hb e) hS₁ rfl rfl
      ⟨List.Pairwise.nil, (fun _ ha => nomatch ha), (fun j a hj => by simp at hj)⟩ hSl
  unfold Builtin.List.listExtendWith
  refine wpAny_bind (wpAny_typeOf (T := "zip") hT ?_)
  have h1 : Builtin.List.listSameRef (.ref S) (.ref z) = false := by simp [Builtin.List.listSameRef, ap.sz]
  have h2 : (Value.type "zip" == Value.type "list") = false := by decide
  have h3 : (Value.type "zip" == Value.type "tuple") = false := by decide
  simp only [h1, h2, h3, Bool.or_false, Bool.false_eq_true, if_false]
  refine wpAny_bind (wpAny_pyIter_zip hz ?_)
  refine wpAny_bind (wpAny_holding (lz_hint hz ?_))
  refine wpAny_ite_split (fun _ => ?_) (fun _ => wpAny_pure ⟨plainId_quiet PySem.F.plain_extend_loop _, key _ c₀ _ (fun b o _ e => e) (Heap.lt_size hS) hS⟩)
  refine wpAny_bind (wpAny_rule ?_)
  refine wpAny_bind ?_
  show wpAny _ _ (updateSeq S (·.push .none) >>= fun _ => updateSeq S (·.pop)) _ _ _
  refine wpAny_bind (wpAny_updateSeq hS rfl ?_)
  have hS₂ := Heap.get?_update_self (Obj.mapSeq (·.push Value.none)) hS rfl
  refine wpAny_updateSeq (hz := by seq_fits) hS₂ rfl ?_
  have hS₃ := Heap.get?_update_self (Obj.mapSeq (·.pop)) hS₂ rfl
  refine wpAny_pure ⟨plainId_quiet PySem.F.plain_extend_loop _, key _ _ _ (fun b o hb e => ?_) (Heap.lt_size hS₃) hS₃⟩
  exact (Heap.get?_update_other _ _ (Ne.symm hb)).trans ((Heap.get?_update_other _ _ (Ne.symm hb)).trans e)
theorem lz_init {z TI TO i1 i2 l1 l2 S : Addr} {xs ys : Array Value} {R : Result → Shared → Prop} (hh : A.handled = none) (D : ZipApart z TI TO i1 i2 l1 l2) (ap : Lza S z TI TO i1 i2 l1 l2) (hSz : z < S) (hSO : TO < S) (hS1 : i1 < S) (hS2 : i2 < S)
    (hst : Lzs z TI TO i1 i2 l1 l2 S xs ys 0 s.heap) (hz : IsZip s.heap z TI TO .none) (hS : s.heap.get? S = some { cls := .type "list", data := .seq #[] }) (hl : s.heap.objs.size = S + 1)
    (hR : ∀ h' tk acc c as, (∀ b o, b ≠ S → b ≠ z → b ≠ TO → b ≠ i1 → b ≠ i2 → s.heap.get? b = some o → h'.get? b = some o) → h'.get? S = some { cls := .type "list", dict := none, data := .seq acc c, slots := #[] } → as.length = min xs.size ys.size → Lzg xs ys S h' as →
      acc.toList = as.map Value.ref → R (.ok (.ret .none)) { s with heap := h', toks := tk }) (hn : min xs.size ys.size ≤ sizeLine) :
    wpAny (model prog w) A.in1 (Builtin.«list.__init__» ⟨[.ref S, .ref z], []⟩)
      (fun fin s' => match fin with | .done f => R (.ok f) s' | .again c' => c'.quiet = true ∧ codeAny (model prog w) A c' R s') (fun e s' => R (.error e) s') s := by
  show wpAny _ _ (do let old ← Builtin.List.listItems (.ref S); Builtin.List.listUpdate (.ref S) (fun _ => #[]); letGo old.toList.reverse; Builtin.List.listExtendWith (.ref S) (.ref z) .none) _ _ s
  refine wpAny_bind ?_
  unfold Builtin.List.listItems
  refine wpAny_bind (wpAny_seqItems hS rfl (wpAny_pure ?_))
  show wpAny _ _ (updateSeq S (fun _ => #[]) >>= fun _ => letGo (#[] : Array Value).toList.reverse >>= fun _ => Builtin.List.listExtendWith (.ref S) (.ref z) .none) _ _ s
  refine wpAny_bind (wpAny_updateSeq hS rfl ?_)
  have hS₂ := Heap.get?_update_self (Obj.mapSeq (fun _ => (#[] : Array Value))) hS rfl
  have oth : ∀ b o, b ≠ S → s.heap.get? b = some o → (s.heap.update S (Obj.mapSeq (fun _ => (#[] : Array Value)))).get? b = some o :=
    fun b o hb e => (Heap.get?_update_other _ _ (Ne.symm hb)).trans e
  refine wpAny_bind (wpAny_letGo ?_)
  refine lz_extend (xs := xs) (ys := ys) hh D ap hSz hSO hS1 hS2 (hst.frame ap oth) (oth _ _ (Ne.symm ap.sz) hz) .none _ hS₂ (by show (Heap.update _ _ _).objs.size = _; rw [Heap.size_update]; exact hl) (fun h' tk acc c as hk hS' hl hG hacc => ?_) hn
  exact hR h' tk acc c as (fun b o b1 b2 b3 b4 b5 e => hk b o b1 b2 b3 b4 b5 (oth b o b1 e)) hS' hl hG hacc
theorem lz_call {z TI TO i1 i2 l1 l2 : Addr} {xs ys : Array Value} {Q : Value → Shared → Prop} (hh : A.handled = none) (D : ZipApart z TI TO i1 i2 l1 l2)
    (hst : ∀ S, s.heap.objs.size ≤ S → Lzs z TI TO i1 i2 l1 l2 S xs ys 0 s.heap) (hz : IsZip s.heap z TI TO .none) (hO : ∃ a b, IsPair s.heap TO a b) (hn : min xs.size ys.size ≤ sizeLine)
    (hQ : ∀ h' tk acc c as, (∀ b o, b ≠ z → b ≠ TO → b ≠ i1 → b ≠ i2 → s.heap.get? b = some o → h'.get? b = some o) → h'.get? s.heap.objs.size = some { cls := .type "list", dict := none, data := .seq acc c, slots := #[] } → as.length = min xs.size ys.size → Lzg xs ys s.heap.objs.size h' as →
      acc.toList = as.map Value.ref → Q (.ref s.heap.objs.size) { s with heap := h', toks := tk }) :
    wpAny (model prog w) A (call (.type "list") [.ref z]) Q E s := by
  refine callType_codes (Q₁ := fun obj s₁ => obj = .ref s.heap.objs.size ∧ s₁ = { s with heap := s.heap.push { cls := .type "list", data := .seq #[] } }) PySem.F.called_list (PySem.F.typeCall_list_1 _) PySem.F.entry_list_init
    (code_list_new _ ⟨rfl, rfl⟩) fun obj s₁ h₁ => ?_
  obtain ⟨rfl, rfl⟩ := h₁
  obtain ⟨hTI, h1, h2, hl1, hl2, _⟩ := hst _ (Nat.le_refl _)
  obtain ⟨a, b, hTO⟩ := hO
  have hS : (s.heap.push { cls := .type "list", data := .seq #[] }).get? s.heap.objs.size = some { cls := .type "list", data := .seq #[] } := Heap.get?_push_size _ rfl
  have lz := Heap.lt_size hz
  have lTI := Heap.lt_size hTI
  have lTO := Heap.lt_size hTO
  have li1 : i1 < s.heap.objs.size := let ⟨_, e, _⟩ := h1; Heap.lt_size e
  have li2 : i2 < s.heap.objs.size := let ⟨_, e, _⟩ := h2; Heap.lt_size e
  have ll1 : l1 < s.heap.objs.size := let ⟨_, e, _⟩ := hl1; Heap.lt_size e
  have ll2 : l2 < s.heap.objs.size := let ⟨_, e, _⟩ := hl2; Heap.lt_size e
  have ap : Lza s.heap.objs.size z TI TO i1 i2 l1 l2 := ⟨Nat.ne_of_gt lz, Nat.ne_of_gt lTI, Nat.ne_of_gt lTO, Nat.ne_of_gt li1, Nat.ne_of_gt li2, Nat.ne_of_gt ll1, Nat.ne_of_gt ll2⟩
  refine ⟨⟨_, hS, rfl⟩, PySem.F.args_list_init_2 _ _, lz_init (xs := xs) (ys := ys) (A := A.in1) hh D ap lz lTO li1 li2 ((hst _ (Nat.le_refl _)).frame ap fun b o _ e => Heap.get?_push_of_some _ e) (Heap.get?_push_of_some _ hz) hS (Heap.size_push ..) (fun h' tk acc c as hk hS' hl hG hacc => ?_) hn⟩
  exact ⟨rfl, hQ h' tk acc c as (fun b o b2 b3 b4 b5 e => hk b o (Nat.ne_of_lt (Heap.lt_size e)) b2 b3 b4 b5 (Heap.get?_push_of_some _ e)) hS' hl hG hacc⟩
end
def putZ : Hp → List Addr → List (V × V) → Hp
  | H, a :: as, p :: kvs => putZ (upd H a (.tup [p.1, p.2])) as kvs
  | H, _, _ => H
theorem putZ_off {b : Addr} : ∀ (as : List Addr) (kvs : List (V × V)) (H : Hp), b ∉ as → putZ H as kvs b = H b
  | [], _, _, _ => rfl
  | _ :: _, [], _, _ => rfl
  | a :: as, p :: kvs, H, h => by
    show putZ (upd H a (.tup [p.1, p.2])) as kvs b = H b
    rw [putZ_off as kvs _ (fun z => h (List.mem_cons_of_mem _ z)), upd_ne (fun z => h (by rw [z]; exact List.mem_cons_self))]
theorem putZ_at : ∀ (as : List Addr) (kvs : List (V × V)) (H : Hp), as.length = kvs.length → as.Nodup → ∀ (j : Nat) (a : Addr), as[j]? = some a → ∃ p : V × V, kvs[j]? = some p ∧ putZ H as kvs a = some (.tup [p.1, p.2])
  | [], [], _, _, _, j, a, h => by simp at h
  | [], _ :: _, _, h, _, _, _, _ => by cases h
  | _ :: _, [], _, h, _, _, _, _ => by cases h
  | a :: as, p :: kvs, H, h, hn, 0, b, e => by
    have hn' := List.nodup_cons.mp hn
    have e : a = b := by simpa using e
    subst e
    refine ⟨p, rfl, ?_⟩
    show putZ (upd H a (.tup [p.1, p.2])) as kvs a = _
    rw [putZ_off as kvs _ hn'.1, upd_same]
  | a :: as, p :: kvs, H, h, hn, j + 1, b, e => putZ_at as kvs (upd H a (.tup [p.1, p.2])) (Nat.succ.inj h) (List.nodup_cons.mp hn).2 j b e
def rLz (K : PySem.W.Frag) : List V → Hp → VK → Prop := fun vs H Q => ∃ (a b : Addr) (xs ys : List V), vs = [.ref a, .ref b] ∧ SqL K H a xs ∧ SqL K H b ys ∧ min xs.length ys.length ≤ sizeLine ∧
  ∀ (H' : Hp) (p : Addr) (ts : List Addr), (∀ b o, H b = some o → H' b = some o) → H p = none → (∀ t ∈ ts, H t = none) → p ∉ ts → H' p = some (.lst (ts.map V.ref)) → ts.length = min xs.length ys.length → (∀ (j : Nat) (t : Addr), ts[j]? = some t → ∃ x y, xs[j]? = some x ∧ ys[j]? = some y ∧ H' t = some (.tup [x, y])) → Q (.ref p) H'
section
variable {X : Cx} {e e2 : Expr} {ta : TA} {p p2 pos pos2 : Pos}
theorem lz_laid {pins : List (Addr × Obj)} {σ : L2.St} {H : Hp} {s : Shared} {h' : Heap} {tk : Nat} {xs ys : List V} {its jts : List Value} {acc : Array Value} {c : Nat} {as : List Addr} (I : Inv X pins σ H s) (hz : min xs.length ys.length ≤ sizeLine) (r1 : Vals xs its) (r2 : Vals ys jts)
    (hk : ∀ b o, s.heap.get? b = some o → h'.get? b = some o) (S : Addr) (hSs : s.heap.objs.size ≤ S) (hS : h'.get? S = some { cls := .type "list", dict := none, data := .seq acc c, slots := #[] }) (hl : as.length = min xs.length ys.length) (hG : Lzg its.toArray jts.toArray S h' as) (hacc : acc.toList = as.map Value.ref) :
    ∃ H' : Hp, (∀ b o, H b = some o → H' b = some o) ∧ H S = none ∧ (∀ t ∈ as, H t = none) ∧ S ∉ as ∧ H' S = some (.lst (as.map V.ref)) ∧ (∀ (j : Nat) (t : Addr), as[j]? = some t → ∃ x y, xs[j]? = some x ∧ ys[j]? = some y ∧ H' t = some (.tup [x, y])) ∧ Inv X pins σ H' { s with heap := h', toks := tk } := by
  have hSn : S ∉ as := fun z => Nat.lt_irrefl _ (hG.above _ z)
  have nd : as.Nodup := List.Pairwise.imp (fun {a b} (h : a < b) => Nat.ne_of_lt h) hG.rise
  have new : ∀ t ∈ as, H t = none := fun t ht => I.hok.fresh (Nat.le_trans hSs (Nat.le_of_lt (hG.above t ht)))
  have newS : H S = none := I.hok.fresh hSs
  have atP := putZ_at as (xs.zip ys) (upd H S (.lst (as.map V.ref))) (by rw [List.length_zip]; exact hl) nd
  have off : ∀ b, b ∉ as → b ≠ S → putZ (upd H S (.lst (as.map V.ref))) as (xs.zip ys) b = H b := fun b h1 h2 => by rw [putZ_off as _ _ h1, upd_ne h2]
  have low : ∀ b o, s.heap.get? b = some o → b ∉ as ∧ b ≠ S := fun b o e => ⟨fun z => absurd (Heap.lt_size e) (Nat.not_lt.mpr (Nat.le_trans hSs (Nat.le_of_lt (hG.above b z)))), Nat.ne_of_lt (Nat.lt_of_lt_of_le (Heap.lt_size e) hSs)⟩
  have kp : ∀ b u, H b = some u → (putZ (upd H S (.lst (as.map V.ref))) as (xs.zip ys)) b = some u := fun b u e => by
    rw [off b (fun z => by rw [new b z] at e; cases e) (fun z => by rw [z, newS] at e; cases e)]
    exact e
  have eS : putZ (upd H S (.lst (as.map V.ref))) as (xs.zip ys) S = some (.lst (as.map V.ref)) := by rw [putZ_off as _ _ hSn, upd_same]
  refine ⟨putZ (upd H S (.lst (as.map V.ref))) as (xs.zip ys), kp, newS, new, hSn, eS, fun j t ht => ?_, ?_⟩
  · obtain ⟨q, e1, e2⟩ := atP j t ht
    obtain ⟨z1, z2⟩ := List.getElem?_zip_eq_some.mp e1
    exact ⟨q.1, q.2, z1, z2, e2⟩
  refine I.call' (ch := []) rfl ⟨fun b o q _ _ _ => hk b o q, fun b o q _ _ _ => ⟨o.slots, hk b o q⟩, fun b o q n _ => ?_, fun b o q _ => ⟨o, hk b o q⟩, fun b xs q => kp b _ q, fun b o u q => kp b _ q, fun b ps q => ⟨#[], by rw [kp b _ q]; simp⟩⟩ (fun b u q => ?_) I.bare fun b z => by simp at z
  · obtain ⟨z1, z2⟩ := low b o q
    rw [off b z1 z2]
    exact n
  · by_cases hb : b ∈ as
    · obtain ⟨j, hj⟩ := List.mem_iff_getElem?.mp hb
      obtain ⟨pk, e1, e3⟩ := atP j b hj
      rw [e3] at q
      cases q
      obtain ⟨z1, z2⟩ := List.getElem?_zip_eq_some.mp e1
      obtain ⟨x, y, f1, f2, f3⟩ := hG.pairs j b hj
      obtain ⟨u1, g1, g2⟩ := r1.get z1
      obtain ⟨u2, g3, g4⟩ := r2.get z2
      have f1 : its[j]? = some x := by simpa using f1
      have f2 : jts[j]? = some y := by simpa using f2
      rw [g1] at f1
      cases f1
      rw [g3] at f2
      cases f2
      exact ⟨by show 2 ≤ sizeLine; decide, [_, _], .cons g2 (.cons g4 .nil), ⟨_, f3, rfl, _, rfl⟩⟩
    · by_cases hb2 : b = S
      · rw [hb2] at q ⊢
        rw [eS] at q
        cases q
        refine ⟨by rw [List.length_map]; omega, acc.toList, c, by rw [hacc]; exact LiI.vals_refs as, ?_⟩
        rw [Array.toArray_toList]
        exact hS
      · rw [off b hb hb2] at q
        exact (I.hok b u q).stay (fun d v _ y => hk d v y) (fun d y => kp d _ y) fun d xs y => kp d _ y
theorem apN (n a b : Nat) (la : a < n) (lb : b < n) : ZipApart (n + 4) (n + 2) (n + 3) n (n + 1) a b where
  TIz := ne_ (by omega)
  TOz := ne_ (by omega)
  i1z := ne_ (by omega)
  i2z := ne_ (by omega)
  TITO := ne_ (by omega)
  TIi1 := ne_ (by omega)
  TIi2 := ne_ (by omega)
  TOi1 := ne_ (by omega)
  TOi2 := ne_ (by omega)
  i12 := ne_ (by omega)
  l1z := ne_ (by omega)
  l1TO := ne_ (by omega)
  l1i1 := ne_ (by omega)
  l1i2 := ne_ (by omega)
  l2z := ne_ (by omega)
  l2TO := ne_ (by omega)
  l2i1 := ne_ (by omega)
  l2i2 := ne_ (by omega)
def tLz (K : PySem.W.Frag) (ta : TA) : TE := fun σ H Q => ta σ H fun vs H1 => rLz K vs H1 Q
theorem pe_lz (hc : X.calm = true) (hg : Gl X "list") (hm : X.mg "list" = none) (hg2 : Gl X "zip") (hm2 : X.mg "zip" = none) (ha : PA X [e, e2] ta)
    (hs : starEach [e, e2] X.env = (false, eval e X.env) :: starEach [e2] X.env) (hpl : (backTo pos2 (starEach [e2] X.env)).any (·.1) = false) :
    PE X (.Call (.Name "list" p) [.Call (.Name "zip" p2) [e, e2] [] pos2] [] pos) (tLz X.K ta) := by
  refine ⟨fun pins s σ H Q I q => ?_⟩
  refine wpAny_Call_Name_kw (ld_blt I hg hm PyProof.Rows.boot_list ?_)
  refine PyProof.Rows.callWith_type1 ?_ rfl rfl
  show wpAny _ _ (spliced ((false, eval (.Call (.Name "zip" p2) [e, e2] [] pos2) X.env) :: backTo pos (starEach [] X.env))) _ _ s
  refine Calls.spliced_cons ?_
  refine wpAny_Call_Name_kw (ld_blt I hg2 hm2 PyProof.Rows.boot_zip (PyProof.Rows.callWith_type1 (thn (ha.run pos2 pins s σ H _ I q) fun us s1 ⟨vs, H1, I1, r1, q1⟩ => ?_) hs hpl))
  obtain ⟨a, b, xs, ys, rfl, h1, h2, hl, q⟩ := q1
  have go : ∀ u1 u2, us = [u1, u2] → u1 = .ref a → u2 = .ref b → wpAny (model X.prog X.w) X.A (call (.type "zip") us) (fun v s1 => wpAny (model X.prog X.w) X.A (spliced (backTo pos (starEach [] X.env))) (fun us s2 => wpAny (model X.prog X.w) X.A (call (.type "list") (v :: us)) (EP X pins σ Q) X.xe s2) X.xe s1) X.xe s1 := by
    intro u1 u2 hu e1 e2
    subst hu e1 e2
    obtain ⟨its, rv, t1, _⟩ := I1.list h1
    obtain ⟨jts, rv2, t2, _⟩ := I1.list h2
    obtain ⟨_, ea, _⟩ := t1.isList
    obtain ⟨_, eb, _⟩ := t2.isList
    have la := Heap.lt_size ea
    have lb := Heap.lt_size eb
    refine call_zB (b1 := false) (b2 := false) t1.isList t2.isList fun h' n hn z1 z2 z3 z4 z5 hk => ?_
    refine Calls.spliced_nil ?_
    have I2 : Inv X pins σ H1 { s1 with heap := h' } := I1.kept (t' := s1.toks) hk
    have l1 := rv.length
    have l2 := rv2.length
    have D := apN n a b (by rw [hn]; exact la) (by rw [hn]; exact lb)
    refine lz_call (s := { s1 with heap := h' }) (xs := its.toArray) (ys := jts.toArray) (I2.ok.hd hc) D (fun S hS => ⟨z2, z4, z5, t1.isList.at fun o e => hk _ o e, t2.isList.at fun o e => hk _ o e, .inl ⟨z1, _, _, z3⟩⟩) z1 ⟨_, _, z3⟩ (by simp; omega) fun h'' tk acc c as hk2 hS hlen hG hacc => ?_
    have hn' : (n : Nat) = s1.heap.objs.size := hn
    have q4 : s1.heap.objs.size ≤ n + 4 := by rw [← hn']; exact Nat.le_add_right _ _
    have q3 : s1.heap.objs.size ≤ n + 3 := by rw [← hn']; exact Nat.le_add_right _ _
    have q1 : s1.heap.objs.size ≤ n + 1 := by rw [← hn']; exact Nat.le_add_right _ _
    have q0 : s1.heap.objs.size ≤ n := by rw [← hn']; exact Nat.le_refl _
    have ln : s1.heap.objs.size ≤ h'.objs.size := Nat.le_of_lt (Nat.lt_of_le_of_lt q4 (Heap.lt_size z1))
    obtain ⟨H', k1, k2, k3, k4, k5, k6, J⟩ := lz_laid (tk := tk) (h' := h'') I1 hl rv rv2 (fun b o e => hk2 b o (Nat.ne_of_lt (Nat.lt_of_lt_of_le (Heap.lt_size e) q4)) (Nat.ne_of_lt (Nat.lt_of_lt_of_le (Heap.lt_size e) q3)) (Nat.ne_of_lt (Nat.lt_of_lt_of_le (Heap.lt_size e) q0)) (Nat.ne_of_lt (Nat.lt_of_lt_of_le (Heap.lt_size e) q1)) (hk b o e)) h'.objs.size ln hS (by rw [hlen]; simp; omega) hG hacc
    exact ⟨.ref _, H', J, rfl, q H' _ as k1 k2 k3 k4 k5 (by rw [hlen]; simp; omega) k6⟩
  cases r1 with
  | cons r rr =>
    cases rr with
    | cons r' rr' =>
      cases rr'
      exact go _ _ rfl r r'
end
end Hx
set_option Elab.async false
set_option linter.all false
set_option maxRecDepth 100000
set_option maxHeartbeats 1000000
namespace Hw
open PySem PySem.Spec PyProof.Rows L2
section
variable {R : RC} {M : MC} {X : Cx}
theorem PEs.inv1 {as : List CA} {e : Expr} (h : PEs X R as [e]) : ∃ c, as = [c] ∧ plainE e = true ∧ PE X e (tA R c) := by
  cases as with
  | nil => unfold PEs at h; cases h
  | cons c as =>
    cases as with
    | nil => obtain ⟨e', h0, h1, h2⟩ := PEs.one h; cases h0; exact ⟨c, rfl, h1, h2⟩
    | cons d as => have := PEs.length h; simp at this
theorem PEs.inv2 {as : List CA} {e e2 : Expr} (h : PEs X R as [e, e2]) : ∃ c d, as = [c, d] ∧ plainE e = true ∧ PE X e (tA R c) ∧ plainE e2 = true ∧ PE X e2 (tA R d) := by
  have l := PEs.length h
  match as, l, h with
  | [c, d], _, h => obtain ⟨e', e2', h0, h1, h2, h3, h4⟩ := PEs.two h; cases h0; exact ⟨c, d, rfl, h1, h2, h3, h4⟩
theorem int2_q {K : PySem.W.Frag} {f : Fp} {H : Hp} {p : P} {x y : V} {Q : VK} {g : Int → Int → Option Int} {a b t : Tr} (r1 : RepW K H f a x) (r2 : RepW K H f b y) (e : int2 g a b = some t) (q : ∀ v H' f', New K H f H' f' t v → Q v H') :
    ∃ i j k, x = .int i ∧ y = .int j ∧ g i j = some k ∧ Q (.int k) H := by
  obtain ⟨i, j, k, h1, h2, h3, rfl⟩ := int2_ok (K := K) r1 r2 e
  exact ⟨i, j, k, h1, h2, h3, q _ _ _ (New.int _)⟩
theorem noMark {e : Expr} (h : plainE e = true) (o : CmpOp) : behindInMarks o e = false := by
  cases e <;> first | rfl | cases h
theorem rg_ok {i j : Int} (h : rgOkB i j = true) : RgOk i j := by
  unfold rgOkB at h
  rw [Bool.and_eq_true] at h
  have h1 := okR_le h.1
  have h2 := okR_le h.2
  exact ⟨by omega, by omega, by omega, by omega, by omega⟩
theorem tAs.mono {cs : List CA} {σ : Sig} {H : Hp} {Q Q' : List V → Hp → Prop} (h : tAs R cs σ H Q) (q : ∀ v H', Q v H' → Q' v H') : tAs R cs σ H Q' := by
  obtain ⟨Γ, f, pr, st, h⟩ := h
  refine ⟨Γ, f, pr, st, ?_⟩
  split at h
  · exact fun v H' f' s s1 => q _ _ (h v H' f' s s1)
  · exact h
  · exact h
theorem lz_ok {K : PySem.W.Frag} {vs : List V} {H : Hp} {Q : VK} (h : rPrim K .lzp vs H Q) : Hx.rLz K vs H Q := by
  obtain ⟨f, ts, t, al, r, e, q⟩ := h
  match ts, r, e with
  | [a, b], r, e =>
    obtain ⟨x, y, rfl, r1, r2⟩ := RepWs.two r
    have e : ((asList a).bind fun xs => (asList b).bind fun ys => if min xs.length ys.length ≤ sizeLine then some (lT ((xs.zip ys).map fun p => PyData.tuple [p.1, p.2])) else none : Option Tr) = some t := e
    obtain ⟨ds, e1, e2⟩ := Option.bind_eq_some_iff.mp e
    obtain ⟨es, e3, e4⟩ := Option.bind_eq_some_iff.mp e2
    split at e4
    · rename_i hl
      cases e4
      obtain ⟨p, xs, rfl, h1, d1⟩ := asList_rep r1 e1
      obtain ⟨p2, ys, rfl, h2, d2⟩ := asList_rep r2 e3
      refine ⟨p, p2, xs, ys, rfl, SqL.of h1, SqL.of h2, by rw [d1.length, d2.length]; exact hl, fun H' l ls hE hl0 hn hnot hL hlen hT => ?_⟩
      have ex : Ext (mn H f) (mn H' fun a => f a + one l a) := fun a o z => by
        obtain ⟨z0, z1⟩ := mn_some z
        refine mn_of ?_ (hE a o z1)
        rw [z0, one_ne (fun y => by subst y; rw [hl0] at z1; cases z1)]
      refine q _ _ (fun a => f a + one l a) ⟨hE, one l, ?_, fun a => rfl, fun a z => ?_⟩
      · unfold lT Rep
        refine ⟨l, ls.map V.ref, fun _ => 0, rfl, hL, RepL.settled (f := fun a => f a + one l a) (DrL.of_get ?_ fun i d v e5 e6 => ?_), fun a => by simp⟩
        · rw [List.length_map, hlen, List.length_map, List.length_zip, d1.length, d2.length]
        · rw [List.getElem?_map] at e5 e6
          obtain ⟨pq, e7, e8⟩ := Option.map_eq_some_iff.mp e5
          obtain ⟨tt, e9, e10⟩ := Option.map_eq_some_iff.mp e6
          subst e8 e10
          obtain ⟨z1, z2⟩ := List.getElem?_zip_eq_some.mp e7
          obtain ⟨x, y, e11, e12, e13⟩ := hT i tt e9
          obtain ⟨x', e14, dx⟩ := d1.get z1
          obtain ⟨y', e15, dy⟩ := d2.get z2
          rw [e11] at e14
          cases e14
          rw [e12] at e15
          cases e15
          have hm : tt ∈ ls := List.mem_of_getElem? e9
          unfold Dr
          refine ⟨tt, [x, y], rfl, mn_of ?_ e13, ?_⟩
          · show f tt + one l tt = 0
            rw [al.zero (hn tt hm), one_ne (fun z => hnot (by rw [← z]; exact hm))]
          · unfold DrL
            refine ⟨x, [y], rfl, Dr.ext ex dx, ?_⟩
            unfold DrL
            refine ⟨y, [], rfl, Dr.ext ex dy, ?_⟩
            unfold DrL
            rfl
      · by_cases y : a = l
        · subst y
          exact ⟨by rw [one_self]; exact Nat.le_refl _, hl0, _, hL⟩
        · rw [one_ne y] at z; omega
    · cases e4
  | [], r, e => cases e
  | [_], r, e => cases e
  | _ :: _ :: _ :: _, r, e => cases e
theorem prim_sound (ok : XOk R M X) {p : P} {e : Expr} {es : List Expr} {as : List CA} (h : primArgs M p e = some es) (hs : PEs X R as es) : PE X e (tE R (.prim p as)) := by
  have hK := ok.K
  unfold primArgs at h
  split at h
  · cases h
    obtain ⟨c, d, rfl, p1, h1, p2, h2⟩ := hs.inv2
    refine PE.imp (pe_op op_add4 h1 h2) fun σ H Q q => prim2 (r := rAdd4 X.K) (fun x y H1 q => ?_) q
    obtain ⟨f, a, b, t, al, r1, r2, e, q⟩ := rprim2 q
    rw [hK]
    exact add_ok al r1 r2 e q
  · cases h
    obtain ⟨c, d, rfl, p1, h1, p2, h2⟩ := hs.inv2
    refine PE.imp (pe_op op_sub h1 h2) fun σ H Q q => prim2 (fun x y H1 q => ?_) q
    obtain ⟨f, a, b, t, al, r1, r2, e, q⟩ := rprim2 q
    obtain ⟨i, j, k, h1, h2, h3, q⟩ := int2_q (p := .sub) r1 r2 e q
    cases h3
    exact ⟨i, j, h1, h2, q⟩
  · cases h
    obtain ⟨c, d, rfl, p1, h1, p2, h2⟩ := hs.inv2
    refine PE.imp (pe_op op_mul4 h1 h2) fun σ H Q q => prim2 (r := rMul4 X.K) (fun x y H1 q => ?_) q
    obtain ⟨f, a, b, t, al, r1, r2, e, q⟩ := rprim2 q
    rw [hK]
    exact mul_ok al r1 r2 e q
  · cases h
    obtain ⟨c, d, rfl, p1, h1, p2, h2⟩ := hs.inv2
    refine PE.imp (pe_op op_fdivW h1 h2) fun σ H Q q => prim2 (fun x y H1 q => ?_) q
    obtain ⟨f, a, b, t, al, r1, r2, e, q⟩ := rprim2 q
    obtain ⟨i, j, k, h1, h2, h3, q⟩ := int2_q (p := .sub) r1 r2 e q
    split at h3
    · rename_i hc
      cases h3
      exact ⟨i, j, h1, h2, hc, q⟩
    · cases h3
  · cases h
    obtain ⟨c, d, rfl, p1, h1, p2, h2⟩ := hs.inv2
    refine PE.imp (pe_op op_mod h1 h2) fun σ H Q q => prim2 (fun x y H1 q => ?_) q
    obtain ⟨f, a, b, t, al, r1, r2, e, q⟩ := rprim2 q
    obtain ⟨i, j, k, h1, h2, h3, q⟩ := int2_q (p := .sub) r1 r2 e q
    split at h3
    · rename_i hc
      cases h3
      exact ⟨i, j, h1, h2, hc, q⟩
    · cases h3
  · cases h
    obtain ⟨c, d, rfl, p1, h1, p2, h2⟩ := hs.inv2
    refine PE.imp (pe_op op_pow h1 h2) fun σ H Q q => prim2 (fun x y H1 q => ?_) q
    obtain ⟨f, a, b, t, al, r1, r2, e, q⟩ := rprim2 q
    obtain ⟨i, j, k, h1, h2, h3, q⟩ := int2_q (p := .sub) r1 r2 e q
    split at h3
    · rename_i hc
      cases h3
      exact ⟨i, j, h1, h2, hc, q⟩
    · cases h3
  · cases h
    obtain ⟨c, rfl, p1, h1⟩ := hs.inv1
    refine PE.imp (pe_un un_neg h1) fun σ H Q q => prim1 (r := rU fun i => .int (-i)) (fun x H1 q => ?_) q
    obtain ⟨f, a, t, al, r1, e, q⟩ := rprim1 q
    obtain ⟨i, e1, rfl⟩ := Option.map_eq_some_iff.mp e
    exact ⟨i, asInt_rep r1 e1, q _ _ _ (New.int _)⟩
  · rename_i o a0 o' b0 pos
    split at h
    · rename_i ho
      cases h
      have ho := eqOp_of ho
      subst ho
      obtain ⟨c, d, rfl, p1, h1, p2, h2⟩ := hs.inv2
      refine PE.imp (pe_cmpR (op_cmp ok.un o) h1 h2 (noMark p2 o)) fun σ H Q q => prim2 (r := rCmp X.K o) (fun x y H1 q => ?_) q
      obtain ⟨f, a, b, t, al, r1, r2, e, q⟩ := rprim2 q
      obtain ⟨r, e1, rfl⟩ := Option.map_eq_some_iff.mp e
      rw [hK]
      exact cmp_ok r1 r2 e1 (q _ _ _ (New.bool _))
    · cases h
  · cases h
    obtain ⟨c, rfl, p1, h1⟩ := hs.inv1
    refine PE.imp (pe_slice (sl_2 (X := X)) h1 po_none po_none) fun σ H Q q => ?_
    refine prim1 (r := fun x H Q => rSl2 X.K x none none H Q) (fun x H1 q => ?_) q
    obtain ⟨f, a, t, al, r1, e, q⟩ := rprim1 q
    rw [hK]
    exact sl_ok al r1 e q
  · cases h
    obtain ⟨c, d, rfl, p1, h1, p2, h2⟩ := hs.inv2
    refine PE.imp (pe_slice (sl_2 (X := X)) h1 (po_some h2) po_none) fun σ H Q q => ?_
    refine prim2 (r := fun x y H Q => ∃ i, y = .int i ∧ rSl2 X.K x (some i) none H Q) (fun x y H1 q => ?_) q
    obtain ⟨f, a, b, t, al, r1, r2, e, q⟩ := rprim2 q
    obtain ⟨i, e1, e2⟩ := Option.bind_eq_some_iff.mp e
    rw [hK]
    exact ⟨i, asInt_rep r2 e1, sl_ok al r1 e2 q⟩
  · cases h
    obtain ⟨c, d, rfl, p1, h1, p2, h2⟩ := hs.inv2
    refine PE.imp (pe_slice (sl_2 (X := X)) h1 po_none (po_some h2)) fun σ H Q q => ?_
    refine prim2 (r := fun x y H Q => ∃ i, y = .int i ∧ rSl2 X.K x none (some i) H Q) (fun x y H1 q => ?_) q
    obtain ⟨f, a, b, t, al, r1, r2, e, q⟩ := rprim2 q
    obtain ⟨i, e1, e2⟩ := Option.bind_eq_some_iff.mp e
    rw [hK]
    exact ⟨i, asInt_rep r2 e1, sl_ok al r1 e2 q⟩
  · cases h
    obtain ⟨c, rfl, p1, h1⟩ := hs.inv1
    refine PE.imp (Hx.pe_revS h1) fun σ H Q q => ?_
    refine prim1 (r := fun x H1 Q => Hx.rRevS X.K x H1 Q) (fun x H1 q => ?_) q
    obtain ⟨f, a, t, al, r1, e, qq⟩ := rprim1 q
    have e : (match asList a with | some xs => some (lT xs.reverse) | none => (asTup a).map fun xs => .c (.tuple xs.reverse) : Option Tr) = some t := e
    split at e
    · rename_i xs e1
      cases e
      obtain ⟨p, vs, rfl, h1, d1⟩ := asList_rep r1 e1
      exact .inl ⟨p, vs, rfl, SqL.of h1, fun l hl => qq _ _ _ (New.lst hl al d1.reverse)⟩
    · obtain ⟨xs, e1, rfl⟩ := Option.map_eq_some_iff.mp e
      obtain ⟨p, vs, rfl, h1, d1⟩ := asTup_rep r1 e1
      exact .inr ⟨p, vs, rfl, SqT.of (mn_ext _ _ _ _ h1), fun l hl => qq _ _ _ (New.tup hl al d1.reverse)⟩
  · cases h
    obtain ⟨c, d, rfl, p1, h1, p2, h2⟩ := hs.inv2
    refine PE.imp (pe_ix ix_seq h1 h2 (plainIx p2)) fun σ H Q q => prim2 (r := rIx X.K) (fun x y H1 q => ?_) q
    obtain ⟨f, a, b, t, al, r1, r2, e, q⟩ := rprim2 q
    rw [hK]
    exact ix_ok r1 r2 e q
  · rename_i b x pos args pos2
    split at h
    · rename_i hc
      obtain ⟨rfl, hg, hl⟩ := hc
      cases h
      have hpl := hs.plain
      have hpa := hs.pa
      cases es with
      | nil => cases b <;> cases hl
      | cons e0 er =>
        rw [List.all_cons, Bool.and_eq_true] at hpl
        refine PE.imp (bi_call ok hg hpl.1 hpl.2 hpa) fun σ H Q q => ?_
        have q := prim_as q
        obtain ⟨Γ, f, pr, st, q⟩ := q
        refine ⟨Γ, f, pr, st, ?_⟩
        have key : ∀ vs H1, rPrim R.K (.bi b) vs H1 Q → rBi X.K b vs H1 Q := fun vs H1 q => by
          obtain ⟨f, ts, t, al, r, e, q⟩ := q
          rw [hK]
          exact bi_ok al r e q
        split at q
        · exact fun vs H' f' s s1 => key _ _ (q vs H' f' s s1)
        · exact q
        · exact q
    · cases h
  · rename_i T x pos a t pos2 pos3
    split at h
    · rename_i hc
      obtain ⟨rfl, hg, rfl, hg2, hb, hv⟩ := hc
      cases h
      obtain ⟨c, rfl, p1, h1⟩ := hs.inv1
      obtain ⟨g1, g2, g3⟩ := ok.gl hg
      obtain ⟨k1, k2, k3⟩ := ok.gl hg2
      have hT : PE X (.Name (Str.ofString T) pos2) (tC (.ty T)) := pe_bltn k1 (ok.blt _ (by simpa using hb)) hv rfl k3 k2
      have ha := pa_cons' p1 h1 (pa_cons' (e := .Name (Str.ofString T) pos2) rfl hT pa_nil)
      refine PE.imp (pe_callB call_isi g1 (ok.blt _ (by decide +kernel)) boot_isinstance ha g3 g2 (star_of p1 _ _) rfl) fun σ H Q q => ?_
      refine prim1 (r := fun x H1 Q => rIsi X.K [x, .ty T] H1 Q) (fun x H1 q => ?_) q
      obtain ⟨f, a, t, al, r1, e, qq⟩ := rprim1 q
      have e : (match tyName a with | some n => (kitB n T).map bT | none => none : Option Tr) = some t := e
      cases e1 : tyName a with
      | none => rw [e1] at e; cases e
      | some n =>
        rw [e1] at e
        obtain ⟨r, e2, rfl⟩ := Option.map_eq_some_iff.mp e
        rw [hK]
        exact ⟨x, .ty T, .type n, .type T, r, rfl, .ty T, tyName_rep r1 e1, kit_ty e2, qq _ _ _ (New.bool _)⟩
    · cases h
  · rename_i c x pos a t pos2 pos3
    split at h
    · rename_i hc
      obtain ⟨rfl, hg, rfl, hg2, hb⟩ := hc
      cases h
      obtain ⟨c, rfl, p1, h1⟩ := hs.inv1
      obtain ⟨g1, g2, g3⟩ := ok.gl hg
      obtain ⟨k1, k2, k3⟩ := ok.gl hg2
      have go : ∀ (cv : V) (u : Value), ClsV cv u → PE X (.Name t pos2) (tC cv) → (∀ n C, Hx.XI R.K n C → PySem.W.kitOne R.K (.ref C) u = some (Hx.isxB n t)) → PySem.W.kitOne R.K (.type "NoneType") u = some false →
          PE X (.Call (.Name "isinstance" pos) [a, .Name t pos2] [] pos3) (tE R (.prim (.isx t) [c])) := fun cv u hcv hT hx hn => by
        have ha := pa_cons' p1 h1 (pa_cons' (e := .Name t pos2) rfl hT pa_nil)
        refine PE.imp (pe_callB Hx.call_isx g1 (ok.blt _ (by decide +kernel)) boot_isinstance ha g3 g2 (star_of p1 _ _) rfl) fun σ H Q q => ?_
        refine prim1 (r := fun x H1 Q => Hx.rIsx X.K [x, cv] H1 Q) (fun x H1 q => ?_) q
        obtain ⟨f, a, tt, al, r1, e, qq⟩ := rprim1 q
        have e : (match (generalizing := false) a with | .x n => some (bT (Hx.isxB n t)) | .c .none => some (bT false) | _ => none : Option Tr) = some tt := e
        obtain ⟨g, r1⟩ := r1
        split at e
        · cases e
          unfold Rep at r1
          obtain ⟨p, C, rfl, xi, hp⟩ := r1
          rw [hK]
          exact ⟨_, cv, u, _, rfl, hcv, .inr ⟨p, C, rfl, xi.ex, (mn_some hp).2, hx _ _ xi⟩, qq _ _ _ (New.bool _)⟩
        · cases e
          unfold Rep Dr at r1
          subst r1
          rw [hK]
          exact ⟨_, cv, u, _, rfl, hcv, .inl ⟨rfl, hn⟩, qq _ _ _ (New.bool _)⟩
        · cases e
      rcases Bool.or_eq_true_iff.mp hb with hb | hb
      · obtain ⟨ce, D, e1, e2, e3, e4⟩ := ok.cl t (List.contains_iff_mem.mp hb)
        rw [← ok.mg] at e2
        exact go (.ref D) (.ref D) (.own D) (pe_glob k1 e2 rfl k2) (fun n C xi => xi.own t ce D e1) e4
      · have ht : t = ("ValueError" : Str) := by simpa using hb
        subst ht
        exact go (.ty "ValueError") (.type "ValueError") (.ty _) (pe_bltn k1 (ok.blt _ (by decide +kernel)) (by decide +kernel) rfl k3 k2) (fun n C xi => by rw [xi.ve]; simp [Hx.isxB]) (by show kitB "NoneType" "ValueError" = some false; decide +kernel)
    · cases h
  · rename_i x pos y pos2 a pos3 pos4
    split at h
    · rename_i hc
      obtain ⟨rfl, hg, rfl, hg2⟩ := hc
      cases h
      obtain ⟨c, rfl, p1, h1⟩ := hs.inv1
      obtain ⟨g1, g2, g3⟩ := ok.gl hg
      obtain ⟨k1, k2, k3⟩ := ok.gl hg2
      refine PE.imp (pe_listRg ok.calm g1 (ok.blt _ (by decide +kernel)) (prg_1 k1 (ok.blt _ (by decide +kernel)) h1 (star_of p1 _ _))) fun σ H Q q => ?_
      refine prim1 (r := fun x H1 Q => ∃ n, x = .int n ∧ RgOk 0 n ∧ ∀ q, H1 q = none → Q (.ref q) (upd H1 q (.lst (rgV 0 n)))) (fun x H1 q => ?_) q
      obtain ⟨f, a, t, al, r1, e, q⟩ := rprim1 q
      obtain ⟨n, e1, e2⟩ := Option.bind_eq_some_iff.mp e
      split at e2
      · rename_i hr
        cases e2
        exact ⟨n, asInt_rep r1 e1, rg_ok hr, fun l hl => q _ _ _ (New.lst hl al rg_dr)⟩
      · cases e2
    · cases h
  · rename_i x pos y pos2 a b pos3 pos4
    split at h
    · rename_i hc
      obtain ⟨rfl, hg, rfl, hg2⟩ := hc
      cases h
      obtain ⟨c, d, rfl, p1, h1, p2, h2⟩ := hs.inv2
      obtain ⟨g1, g2, g3⟩ := ok.gl hg
      obtain ⟨k1, k2, k3⟩ := ok.gl hg2
      refine PE.imp (pe_listRg ok.calm g1 (ok.blt _ (by decide +kernel)) (prg_2 k1 (ok.blt _ (by decide +kernel)) h1 h2 (star_of p1 _ _) (star_of p2 _ _) (stars_no (es := [b]) (by rw [List.all_cons, p2]; rfl)))) fun σ H Q q => ?_
      refine prim2 (r := fun x y H1 Q => ∃ i j, x = .int i ∧ y = .int j ∧ RgOk i j ∧ ∀ q, H1 q = none → Q (.ref q) (upd H1 q (.lst (rgV i j)))) (fun x y H1 q => ?_) q
      obtain ⟨f, a, b, t, al, r1, r2, e, q⟩ := rprim2 q
      obtain ⟨i, e1, e2⟩ := Option.bind_eq_some_iff.mp e
      obtain ⟨j, e3, e4⟩ := Option.bind_eq_some_iff.mp e2
      split at e4
      · rename_i hr
        cases e4
        exact ⟨i, j, asInt_rep r1 e1, asInt_rep r2 e3, rg_ok hr, fun l hl => q _ _ _ (New.lst hl al rg_dr)⟩
      · cases e4
    · cases h
  · rename_i x pos y pos2 a pos3 pos4
    split at h
    · rename_i hc
      obtain ⟨rfl, hg, rfl, hg2⟩ := hc
      cases h
      obtain ⟨c, rfl, p1, h1⟩ := hs.inv1
      obtain ⟨g1, g2, g3⟩ := ok.gl hg
      obtain ⟨k1, k2, k3⟩ := ok.gl hg2
      refine PE.imp (pe_tupRg ok.calm g1 (ok.blt _ (by decide +kernel)) (prg_1 k1 (ok.blt _ (by decide +kernel)) h1 (star_of p1 _ _))) fun σ H Q q => ?_
      refine prim1 (r := fun x H1 Q => ∃ n, x = .int n ∧ RgOk 0 n ∧ ∀ q, H1 q = none → Q (.ref q) (upd H1 q (.tup (rgV 0 n)))) (fun x H1 q => ?_) q
      obtain ⟨f, a, t, al, r1, e, q⟩ := rprim1 q
      obtain ⟨n, e1, e2⟩ := Option.bind_eq_some_iff.mp e
      split at e2
      · rename_i hr
        cases e2
        exact ⟨n, asInt_rep r1 e1, rg_ok hr, fun l hl => q _ _ _ (New.tup hl al rg_dr)⟩
      · cases e2
    · cases h
  · rename_i x pos y pos2 a b pos3 pos4
    split at h
    · rename_i hc
      obtain ⟨rfl, hg, rfl, hg2⟩ := hc
      cases h
      obtain ⟨c, d, rfl, p1, h1, p2, h2⟩ := hs.inv2
      obtain ⟨g1, g2, g3⟩ := ok.gl hg
      obtain ⟨k1, k2, k3⟩ := ok.gl hg2
      refine PE.imp (pe_tupRg ok.calm g1 (ok.blt _ (by decide +kernel)) (prg_2 k1 (ok.blt _ (by decide +kernel)) h1 h2 (star_of p1 _ _) (star_of p2 _ _) (stars_no (es := [b]) (by rw [List.all_cons, p2]; rfl)))) fun σ H Q q => ?_
      refine prim2 (r := fun x y H1 Q => ∃ i j, x = .int i ∧ y = .int j ∧ RgOk i j ∧ ∀ q, H1 q = none → Q (.ref q) (upd H1 q (.tup (rgV i j)))) (fun x y H1 q => ?_) q
      obtain ⟨f, a, b, t, al, r1, r2, e, q⟩ := rprim2 q
      obtain ⟨i, e1, e2⟩ := Option.bind_eq_some_iff.mp e
      obtain ⟨j, e3, e4⟩ := Option.bind_eq_some_iff.mp e2
      split at e4
      · rename_i hr
        cases e4
        exact ⟨i, j, asInt_rep r1 e1, asInt_rep r2 e3, rg_ok hr, fun l hl => q _ _ _ (New.tup hl al rg_dr)⟩
      · cases e4
    · cases h
  · rename_i x pos a pos2
    split at h
    · rename_i hc
      obtain ⟨rfl, hg⟩ := hc
      cases h
      obtain ⟨c, rfl, p1, h1⟩ := hs.inv1
      obtain ⟨g1, g2, g3⟩ := ok.gl hg
      have ha := pa_cons' p1 h1 pa_nil
      refine PE.imp (pe_callB (cr_sortedI.or Hx.cr_sortTs) g1 (ok.blt _ (by decide +kernel)) PyProof.Rows.boot_sorted ha g3 g2 (star_of p1 _ _) rfl) fun σ H Q q => ?_
      refine prim1 (r := fun x H1 Q => rSrt X.K [x] H1 Q) (fun x H1 q => ?_) q
      obtain ⟨f, a, t, al, r1, e, qq⟩ := rprim1 q
      rw [hK]
      exact srt_ok al r1 e qq
    · cases h
  · rename_i x pos y pos2 a pos3 pos4
    split at h
    · rename_i hc
      obtain ⟨rfl, hg, rfl, hg2⟩ := hc
      cases h
      obtain ⟨c, rfl, p1, h1⟩ := hs.inv1
      obtain ⟨g1, g2, g3⟩ := ok.gl hg
      obtain ⟨k1, k2, k3⟩ := ok.gl hg2
      have un := ok.un
      have hin := pe_callTy (p := pos2) (pos := pos3) ((Hx.cr_setTI (X := X) ok.calm).or (cr_setOfT ok.calm (by omega))) k1 (ok.blt _ (by decide +kernel)) PyProof.Rows.boot_set (pa_cons' p1 h1 pa_nil) k3 k2 (star_of p1 _ _) rfl
      refine PE.imp (pe_callB ((cr_sortedSet (X := X) ok.calm).or (cr_sortedT ok.calm)) g1 (ok.blt _ (by decide +kernel)) PyProof.Rows.boot_sorted (pa_cons' rfl hin pa_nil) g3 g2 rfl rfl) fun σ H Q q => ?_
      refine prim1 (r := fun x H1 Q => rSset X [x] H1 fun v H2 => rSsrt X [v] H2 Q) (fun x H1 q => ?_) q
      obtain ⟨f, a, t, al, r1, e, qq⟩ := rprim1 q
      exact srs_ok hK al r1 e qq
    · cases h
  · rename_i x pos y pos2 a b pos3 pos4
    split at h
    · rename_i hc
      obtain ⟨rfl, hg, rfl, hg2⟩ := hc
      cases h
      obtain ⟨c, d, rfl, p1, h1, p2, h2⟩ := hs.inv2
      obtain ⟨g1, g2, g3⟩ := ok.gl hg
      obtain ⟨k1, k2, k3⟩ := ok.gl hg2
      refine PE.imp (Hx.pe_lz ok.calm g1 (ok.blt _ (by decide +kernel)) k1 (ok.blt _ (by decide +kernel)) (hs.pa) (star_of p1 _ _) (stars_no (es := [b]) (by rw [List.all_cons, p2]; rfl))) fun σ H Q q => ?_
      refine tAs.mono (prim_as q) fun vs H1 q => ?_
      rw [hK]
      exact lz_ok q
    · cases h
  · rename_i x pos a pos2
    split at h
    · rename_i hc
      obtain ⟨rfl, hg⟩ := hc
      cases h
      obtain ⟨c, rfl, p1, h1⟩ := hs.inv1
      obtain ⟨g1, g2, g3⟩ := ok.gl hg
      have ha := pa_cons' p1 h1 pa_nil
      have un := ok.un
      refine PE.imp (pe_callB (call_rpr ok.gd un) g1 (ok.blt _ (by decide +kernel)) boot_repr ha g3 g2 (star_of p1 _ _) rfl) fun σ H Q q => ?_
      refine prim1 (r := fun x H1 Q => rRpr X.K [x] H1 Q) (fun x H1 q => ?_) q
      obtain ⟨f, a, t, al, r1, e, qq⟩ := rprim1 q
      obtain ⟨d, e1, e2⟩ := Option.bind_eq_some_iff.mp e
      split at e2
      · rename_i hp
        cases e2
        rw [hK]
        refine ⟨x, d, rfl, ?_, hp, qq _ _ _ (New.flat (by unfold Dr; rfl))⟩
        unfold plainR at hp
        simp only [Bool.and_eq_true, Bool.or_eq_true] at hp
        cases nd : noDict d with
        | true => exact .inl ⟨see_dp r1 e1 nd, rfl⟩
        | false =>
          rcases hp.1.1.1 with n | n
          · rw [nd] at n; cases n
          · exact .inr ⟨see_dr r1 e1 nd, n⟩
      · cases e2
    · cases h
  · cases h
end
end Hw
set_option Elab.async false
set_option linter.all false
set_option maxRecDepth 100000
set_option maxHeartbeats 1000000
namespace Hw
open PySem PySem.Spec PyProof.Rows L2
def pathOf : Expr → Option (Str × List Expr)
  | .Name x _ => some (x, [])
  | .Subscript a b _ => (pathOf a).map fun p => (p.1, p.2 ++ [b])
  | _ => none
def mLit : PyData → Const → Bool
  | .none, .none => true
  | .bool a, .bool b => a == b
  | .int i, .int j => i == j
  | .str x, .str y => decide (x = y)
  | _, _ => false
def mNames (M : MC) : List Nat → List Expr → Bool
  | [], [] => true
  | i :: is, .Name x _ :: es => M.loc i x && mNames M is es
  | _, _ => false
def mTg (M : MC) : CTg → Expr → Bool
  | .nm i, .Name x _ => M.loc i x
  | .tp is, .Tuple es _ _ => mNames M is es
  | _, _ => false
def CTg.slots : CTg → List Nat
  | .nm i => [i]
  | .tp is => is
def ownN (M : MC) (own : List Nat) : List (Str × Nat) := own.map fun i => (M.N.getD i Str.empty, i)
def tstE : Expr → Bool
  | .BoolOp .. => false
  | .UnaryOp .Not _ _ => false
  | .IfExp .. => false
  | _ => true
def isTupE : Expr → Bool
  | .Tuple .. => true
  | _ => false
def notCmp : Expr → Bool
  | .Compare .. => false
  | _ => true
mutual
def mE (M : MC) : CE → Expr → Bool
  | .var i, .Name x _ => M.vis i x
  | .mv i, .Name x _ => M.vis i x
  | .lit d, .Constant c _ _ => mLit d c
  | .glb x, .Name y _ => decide (x = y) && M.glo x
  | .prim p as, e => (match primArgs M p e with
    | some es => mAs M as es
    | none => false)
  | .tup as, .Tuple es _ _ => mAs M as es
  | .lst as, .List es _ => mAs M as es
  | .and_ a b, .BoolOp .And [v, w] _ => mE M a v && mE M b w
  | .and_ a b, .BoolOp .And (v :: w :: u :: r) pos => mE M a v && mE M b (.BoolOp .And (w :: u :: r) pos)
  | .or_ a b, .BoolOp .Or [v, w] _ => mE M a v && mE M b w
  | .or_ a b, .BoolOp .Or (v :: w :: u :: r) pos => mE M a v && mE M b (.BoolOp .Or (w :: u :: r) pos)
  | .not_ a, .UnaryOp .Not v _ => mE M a v
  | .ife c a b, .IfExp t v w _ => mT M c t && (mE M a v && mE M b w)
  | .chain o1 o2 ab c, .Compare a [p1, p2] [b, c'] _ => eqOp o1 p1 && eqOp o2 p2 && mAs M ab [a, b] && (plainE c' && mE M c c')
  | .call x as, .Call (.Name y _) (e :: es) [] _ => decide (x = y) && M.glo x && mAs M as (e :: es)
  | .call x [], .Call (.Name y _) [] [] _ => decide (x = y) && M.glo x
  | .lc own tg it cond elt, .ListComp e [⟨t, i, ifs, 0⟩] s _ => blkC M.N M.sc s (ownN M own) && mTg (M.blk s) tg t && (tg.slots.all fun j => own.contains j) && mIt M (isTupE t) it i && (mC (M.blk s) cond ifs && mE (M.blk s) elt e)
  | .pth i es, e => (match pathOf e with
    | some (x, bs) => M.vis i x && mEs M es bs
    | none => false)
  | .pop i as, .Call (.Attribute (.Name x _) m apos) args [] cpos => decide (m = "pop") && M.vis i x && (apos.endLine == cpos.line) && decide (as.length ≤ 1) && mAs M as args
  | .idx i a, .Call (.Attribute (.Name x _) m apos) [e] [] cpos => decide (m = "index") && M.vis i x && (apos.endLine == cpos.line) && (plainE e && mE M a e)
  | .cntT i, .Call (.Attribute (.Name x _) m apos) [.Constant c _ _] [] cpos => decide (m = "count") && M.vis i x && (apos.endLine == cpos.line) && mLit (.bool true) c
  | .stl a, e => notCmp e && mE M a e
  | .cpy _ a, e => notCmp e && mE M a e
  | .emp, .Dict [] [] _ => true
  | .dnew, .Dict [] [] _ => true
  | .dget i a b, .Call (.Attribute (.Name x _) m apos) [e, g] [] cpos => decide (m = "get") && M.vis i x && (apos.endLine == cpos.line) && (plainE e && plainE g && (mE M a e && mE M b g))
  | .sl2 a b c, .Subscript e (.Slice (some e1) (some e2) none _) _ => mE M a e && (mE M b e1 && mE M c e2)
  | _, _ => false
def mAs (M : MC) : List CA → List Expr → Bool
  | [], [] => true
  | a :: as, e :: es => plainE e && mA M a e && mAs M as es
  | _, _ => false
def mA (M : MC) : CA → Expr → Bool
  | .e a, e => mE M a e
  | .ow a, e => mE M a e
  | .pk i, .Name x _ => M.vis i x
  | .io i, .Name x _ => M.vis i x
  | _, _ => false
def mEs (M : MC) : List CE → List Expr → Bool
  | [], [] => true
  | a :: as, e :: es => plainE e && mE M a e && mEs M as es
  | _, _ => false
def mT (M : MC) : CT → Expr → Bool
  | .pk i, .Name x _ => M.vis i x
  | .and_ a b, .BoolOp .And [v, w] _ => mT M a v && mT M b w
  | .and_ a b, .BoolOp .And (v :: w :: u :: r) pos => mT M a v && mT M b (.BoolOp .And (w :: u :: r) pos)
  | .or_ a b, .BoolOp .Or [v, w] _ => mT M a v && mT M b w
  | .or_ a b, .BoolOp .Or (v :: w :: u :: r) pos => mT M a v && mT M b (.BoolOp .Or (w :: u :: r) pos)
  | .not_ a, .UnaryOp .Not v _ => mT M a v
  | .e a, e => tstE e && mE M a e
  | _, _ => false
def mC (M : MC) : List CT → List Expr → Bool
  | [], [] => true
  | [c], [e] => mT M c e
  | _, _ => false
def mIt (M : MC) (tup : Bool) : CIt → Expr → Bool
  | .sq a, e => plainE e && mE M a e
  | .rng1 a, .Call (.Name x _) [e] [] _ => decide (x = "range") && M.glo x && (plainE e && mE M a e)
  | .rng2 as, .Call (.Name x _) [e, e2] [] _ => decide (x = "range") && M.glo x && mAs M as [e, e2]
  | .enm a, .Call (.Name x _) [e] [] _ => tup && decide (x = "enumerate") && M.glo x && (plainE e && mE M a e)
  | .zip as, .Call (.Name x _) [e, e2] [] _ => tup && decide (x = "zip") && M.glo x && mAs M as [e, e2]
  | .rng3 as, .Call (.Name x _) [e, e2, e3] [] _ => decide (x = "range") && M.glo x && mAs M as [e, e2, e3]
  | .zip3 as, .Call (.Name x _) [e, e2, e3] [] _ => tup && decide (x = "zip") && M.glo x && mAs M as [e, e2, e3]
  | _, _ => false
end
end Hw
set_option Elab.async false
set_option linter.all false
set_option maxRecDepth 100000
set_option maxHeartbeats 1000000
namespace Hw
open PySem PySem.Spec PyProof.Rows L2
section
variable {R : RC} {M : MC} {X : Cx} {σ : Sig} {H : Hp} {Q : VK}
theorem var_ok (h : tE R (.var i) σ H Q) : tVar i σ H Q := by
  obtain ⟨Γ, f, pr, st, h⟩ := h
  obtain ⟨h1, h2, g, ga, hs, hg, hl⟩ := id st
  simp only [ev] at h
  have easy : ∀ t : Tr, Γ[i]? = some t → t ≠ .gone → (∀ v g g', Rep R.K H f t v g → Rep R.K H f t v g') → (∀ v H' f', Stp H f pr H' f' → St1 R.K Γ σ H' f' pr v t → Q v H') → tVar i σ H Q := by
    intro t e n hz q
    obtain ⟨v, g', e1, r, _⟩ := hs.val e n
    exact ⟨v, e1, q v H f Stp.refl ⟨h1, h2, g, fun _ => 0, hs, hz _ _ _ r, fun a => by have := hl a; show 0 + (g a + pr a) ≤ f a; omega⟩⟩
  have hard : ∀ t : Tr, Γ[i]? = some t → t ≠ .gone → ∀ d, frz t = some d → (∀ v H' f', Stp H f pr H' f' → St1 R.K (Γ.set i (.c d)) σ H' f' pr v (.c d) → Q v H') → tVar i σ H Q := by
    intro t e n d e2 q
    obtain ⟨o, g1, g2, e3, ro, rs, hgl⟩ := hs.take e
    obtain ⟨v, rfl, r⟩ := ro.get n
    refine ⟨v, e3, ?_⟩
    have l : ∀ a, (fun a => f a - g1 a) a ≤ f a := fun a => Nat.sub_le _ _
    have dr : Dr R.K (mn H fun a => f a - g1 a) d v := r.frz l e2 fun a => by have := hl a; have := hgl a; have := h1 a; show g1 a + (f a - g1 a) ≤ 1; omega
    have rs' := rs.stp (stp_less (pr := g2) l) (fun _ => Nat.le_refl _)
    have il : i < (Γ.set i .gone).length := by rw [List.length_set]; exact (List.getElem?_eq_some_iff.mp e).1
    have put := RepS.put (i := i) (x := .c d) (o := some v) (g' := fun _ => 0) rs' (by rw [List.getElem?_set_self (by simpa using il)]) e3 (.mk (by unfold Rep; exact dr))
    rw [List.set_set] at put
    exact q v H _ (stp_less l) ⟨fun a => by have := h1 a; show f a - g1 a ≤ 1; omega, fun a ha => h2 a (Nat.le_trans ha (l a)), _, fun _ => 0, put, by unfold Rep; exact dr, fun a => by
      have := hl a; have := hgl a; show 0 + (0 + g2 a + pr a) ≤ f a - g1 a; omega⟩
  cases e : Γ[i]? with
  | none => simp only [e] at h
  | some t =>
    cases t with
    | c d => simp only [e] at h; exact easy _ e (by simp) (fun v g g' r => by unfold Rep at r ⊢; exact r) h
    | s ns => simp only [e] at h; exact easy _ e (by simp) (fun v g g' r => by unfold Rep at r ⊢; exact r) h
    | x n => simp only [e] at h; exact easy _ e (by simp) (fun v g g' r => by unfold Rep at r ⊢; exact r) h
    | gone => simp only [e, frz, Option.map_none] at h
    | d _ => simp only [e, frz, Option.map_none] at h
    | l xs =>
      simp only [e] at h
      cases e2 : frz (.l xs) with
      | none => simp only [e2, Option.map_none] at h
      | some d => simp only [e2, Option.map_some] at h; exact hard _ e (by simp) d e2 h
    | t xs =>
      simp only [e] at h
      cases e2 : frz (.t xs) with
      | none => simp only [e2, Option.map_none] at h
      | some d => simp only [e2, Option.map_some] at h; exact hard _ e (by simp) d e2 h
theorem mv_ok (h : tE R (.mv i) σ H Q) : tVar i σ H Q := by
  obtain ⟨Γ, f, pr, st, h⟩ := h
  obtain ⟨h1, h2, g, ga, hs, hg, hl⟩ := id st
  simp only [ev] at h
  cases e : Γ[i]? with
  | none => simp only [e] at h
  | some t =>
    by_cases n : t = .gone
    · subst n; simp only [e] at h
    · obtain ⟨o, g1, g2, e3, ro, rs, hgl⟩ := hs.take e
      obtain ⟨v, rfl, r⟩ := ro.get n
      have h' : ∀ v H' f', Stp H f pr H' f' → St1 R.K (Γ.set i .gone) σ H' f' pr v t → Q v H' := by
        cases t <;> first | exact absurd rfl n | (simp only [e] at h; exact h)
      exact ⟨v, e3, h' v H f Stp.refl ⟨h1, h2, g2, g1, rs, r, fun a => by have := hl a; have := hgl a; omega⟩⟩
theorem lit_ok {d : PyData} {c : Const} {j : Nat} {pos : Pos} (m : mLit d c = true) : PE X (.Constant c j pos) (tE R (.lit d)) := by
  have go : ∀ {v : V}, (∀ K H, Dr K H d v) → flatD d = true → ∀ σ H Q, tE R (.lit d) σ H Q → Q v H := by
    intro v hv fd σ H Q h
    obtain ⟨Γ, f, pr, st, h⟩ := h
    simp only [ev, fd, if_true] at h
    exact h v H f Stp.refl (st.new (New.flat (hv _ _)))
  cases d <;> cases c <;> first | (unfold mLit at m; cases m; done) | skip
  · exact PE.imp pe_non (go (fun _ _ => by unfold Dr; rfl) rfl)
  · have e := eq_of_beq (show (_ == _) = true from m)
    subst e
    exact PE.imp pe_bl (go (fun _ _ => by unfold Dr; rfl) rfl)
  · have e := eq_of_beq (show (_ == _) = true from m)
    subst e
    exact PE.imp pe_int (go (fun _ _ => by unfold Dr; rfl) rfl)
  · have e := of_decide_eq_true (show decide (_ = _) = true from m)
    subst e
    exact PE.imp pe_str (go (fun _ _ => by unfold Dr; rfl) rfl)
theorem glb_ok (ok : XOk R M X) {x : Str} {pos : Pos} (m : M.glo x = true) : PE X (.Name x pos) (tE R (.glb x)) := by
  obtain ⟨g1, g2, g3⟩ := ok.gl m
  cases e : R.F.gl x with
  | none =>
    exact ⟨fun pins s σ H Q I h => by
      obtain ⟨Γ, f, pr, st, h⟩ := h
      simp only [ev, e, Option.bind_none] at h⟩
  | some d =>
    obtain ⟨v, u, hm, r, hd⟩ := ok.gls x d e
    refine PE.imp (pe_glob g1 hm r g2) fun σ H Q h => ?_
    obtain ⟨Γ, f, pr, st, h⟩ := h
    simp only [ev, e, Option.bind_some] at h
    by_cases fd : flatD d = true
    · simp only [fd, if_true] at h
      exact h v H f Stp.refl (st.new (New.flat (hd _ _)))
    · simp only [fd] at h
      exact h.elim
theorem tmps_rep {K : PySem.W.Frag} {H : Hp} {f : Fp} {σ : Sig} : ∀ {avs : List AV} {vs : List V} {g : Fp} {ts : List Tr}, RepA K H f σ avs vs g → tmps avs = some ts → RepL K H f ts vs g
  | [], _, _, _, h, e => by unfold tmps at e; cases e; unfold RepA at h; unfold RepL; exact h
  | .tmp t :: avs, _, _, _, h, e => by
    unfold tmps at e
    obtain ⟨ts, e1, rfl⟩ := Option.map_eq_some_iff.mp e
    obtain ⟨v, r, g1, g2, rfl, h1, h2, h3⟩ := h
    unfold RepL
    exact ⟨v, r, g1, g2, rfl, h1, tmps_rep h2 e1, h3⟩
  | .pk _ :: _, _, _, _, _, e => by unfold tmps at e; cases e
  | .io _ :: _, _, _, _, _, e => by unfold tmps at e; cases e
  | .own _ :: _, _, _, _, _, e => by unfold tmps at e; cases e
theorem RepL.length {K : PySem.W.Frag} {H : Hp} {f : Fp} : ∀ {ts : List Tr} {vs : List V} {g : Fp}, RepL K H f ts vs g → vs.length = ts.length
  | [], _, _, h => by unfold RepL at h; rw [h]; rfl
  | t :: ts, _, _, h => by
    unfold RepL at h
    obtain ⟨v, r, g1, g2, rfl, h1, h2, h3⟩ := h
    simp [RepL.length h2]
theorem StA.laid {K : PySem.W.Frag} {Γ : List Tr} {f pr : Fp} {G G' : Fp → Prop} {p : Addr} {o : HO} (st : StA K Γ σ H f pr G) (n : H p = none) (g1 : Fp) (hg1 : ∀ a, g1 a ≤ one p a)
    (q : ∀ ga, G ga → Stp H f ga (upd H p o) (padd f g1) → G' (padd ga g1)) : StA K Γ σ (upd H p o) (padd f g1) pr G' ∧ Stp H f pr (upd H p o) (padd f g1) := by
  have al := st.alc
  obtain ⟨h1, h2, g, ga, hs, hg, hl⟩ := st
  have z := al.zero n
  have s : ∀ pr, Stp H f pr (upd H p o) (padd f g1) := fun pr => ⟨fun a u e e0 => ⟨Ext.new n a u e, by
    have hp : a ≠ p := ne_of_none e n
    have := hg1 a
    rw [one_ne hp] at this
    rw [padd_at]; omega⟩, fun a u _ e => Ext.new n a u e⟩
  refine ⟨⟨fun a => ?_, fun a ha => ?_, g, padd ga g1, hs.stp (s g) (fun _ => Nat.le_refl _), q ga hg (s ga), fun a => by have := hl a; simp only [padd_at]; omega⟩, s pr⟩
  · have := hg1 a
    by_cases hp : a = p
    · subst hp; rw [one_self] at this; rw [padd_at]; omega
    · rw [one_ne hp] at this; rw [padd_at]; have := h1 a; omega
  · by_cases hp : a = p
    · subst hp; exact ⟨o, upd_same⟩
    · have := hg1 a
      rw [one_ne hp] at this
      rw [padd_at] at ha
      obtain ⟨u, hu⟩ := h2 a (by omega)
      exact ⟨u, Ext.new n a u hu⟩
def zfp : Fp := fun _ => 0
theorem tup_ok {as : List CA} (h : tE R (.tup as) σ H Q) : tTup (tAs R as) σ H Q := by
  obtain ⟨Γ, f, pr, st, h⟩ := h
  refine ⟨Γ, f, pr, st, ?_⟩
  simp only [ev] at h
  cases q : evAs R.F as Γ with
  | none => simp only [q] at h
  | some r =>
    cases r with
    | ex y Γ1 => simp only [q] at h; exact h
    | ok avs Γ1 =>
      simp only [q] at h
      intro vs H1 f1 s1 st1
      cases q1 : tmps avs with
      | none => simp only [q1, Option.bind_none] at h
      | some ts =>
        simp only [q1, Option.bind_some] at h
        by_cases hl : ts.length ≤ sizeLine
        · rw [if_pos hl] at h
          obtain ⟨_, _, _, ga0, _, hg0, _⟩ := id st1
          refine ⟨by rw [(tmps_rep hg0 q1).length]; exact hl, fun p hp => ?_⟩
          have := StA.laid (p := p) (o := .tup vs) (G' := fun ga => Rep R.K (upd H1 p (.tup vs)) (padd f1 zfp) (tupT ts) (.ref p) ga) st1 hp zfp (fun a => Nat.zero_le _) fun ga hg s => by
            have rl := (tmps_rep hg q1).stp s (fun _ => Nat.le_refl _)
            have hz : mn (upd H1 p (.tup vs)) (padd f1 zfp) p = some (.tup vs) := mn_of (by rw [padd_at, st1.alc.zero hp]; rfl) upd_same
            unfold tupT
            split
            · rename_i ds e
              unfold Rep Dr
              exact ⟨p, vs, rfl, hz, stl_rep rl e⟩
            · unfold Rep
              exact ⟨p, vs, rfl, hz, rl.mono fun a => by rw [padd_at]; exact Nat.le_add_right _ _⟩
          exact h _ _ _ (s1.trans this.2 fun _ => Nat.le_refl _) this.1
        · rw [if_neg hl] at h; exact h.elim
theorem lst_ok {as : List CA} (h : tE R (.lst as) σ H Q) : tLst (tAs R as) σ H Q := by
  obtain ⟨Γ, f, pr, st, h⟩ := h
  refine ⟨Γ, f, pr, st, ?_⟩
  simp only [ev] at h
  cases q : evAs R.F as Γ with
  | none => simp only [q] at h
  | some r =>
    cases r with
    | ex y Γ1 => simp only [q] at h; exact h
    | ok avs Γ1 =>
      simp only [q] at h
      intro vs H1 f1 s1 st1
      cases q1 : tmps avs with
      | none => simp only [q1, Option.bind_none] at h
      | some ts =>
        simp only [q1, Option.bind_some] at h
        by_cases hl : ts.length ≤ sizeLine
        · rw [if_pos hl] at h
          obtain ⟨_, _, _, ga0, _, hg0, _⟩ := id st1
          refine ⟨by rw [(tmps_rep hg0 q1).length]; exact hl, fun p hp => ?_⟩
          have := StA.laid (p := p) (o := .lst vs) (G' := fun ga => Rep R.K (upd H1 p (.lst vs)) (padd f1 (one p)) (.l ts) (.ref p) ga) st1 hp (one p) (fun a => Nat.le_refl _) fun ga hg s => by
            have rl := (tmps_rep hg q1).stp s (fun _ => Nat.le_refl _)
            unfold Rep
            exact ⟨p, vs, ga, rfl, upd_same, rl, fun a => by rw [padd_at]; omega⟩
          exact h _ _ _ (s1.trans this.2 fun _ => Nat.le_refl _) this.1
        · rw [if_neg hl] at h; exact h.elim
theorem bT_val {K : PySem.W.Frag} {H : Hp} {f : Fp} {b : Bool} {v : V} {g : Fp} (h : Rep K H f (bT b) v g) : v = .bl b := by
  unfold bT Rep Dr at h; exact h
theorem asBool_bT {t : Tr} {b : Bool} (h : asBool t = some b) : t = bT b := by
  unfold asBool at h; split at h
  · cases h; rfl
  · cases h
theorem and_ok {a b : CE} (h : tE R (.and_ a b) σ H Q) : tAndV (tE R a) (tE R b) σ H Q := by
  obtain ⟨Γ, f, pr, st, h⟩ := h
  refine ⟨Γ, f, pr, st, ?_⟩
  simp only [ev] at h
  cases q : ev R.F a Γ with
  | none => simp only [q] at h
  | some r =>
    cases r with
    | ex y Γ1 => simp only [q] at h; exact h
    | ok t Γ1 =>
      simp only [q] at h
      intro v H1 f1 s1 st1
      cases q1 : asBool t with
      | none => simp only [q1] at h
      | some k =>
        have et := asBool_bT q1
        subst et
        obtain ⟨_, _, _, ga0, _, hg0, _⟩ := id st1
        refine ⟨k, bT_val hg0, ?_⟩
        cases k with
        | true =>
          simp only [q1] at h
          refine ⟨Γ1, f1, pr, st1.drop, ?_⟩
          cases q2 : ev R.F b Γ1 with
          | none => simp only [q2] at h
          | some r2 =>
            cases r2 with
            | ex y Γ2 => simp only [q2] at h; exact fun C H' f' hm s2 st2 => h C H' f' hm (s1.trans s2 fun _ => Nat.le_refl _) st2
            | ok u Γ2 => simp only [q2] at h; exact fun v H' f' s2 st2 => h v H' f' (s1.trans s2 fun _ => Nat.le_refl _) st2
        | false =>
          simp only [q1] at h
          exact h (.bl false) H1 f1 s1 (st1.drop.new (New.bool false))
theorem or_ok {a b : CE} (h : tE R (.or_ a b) σ H Q) : tOrV (tE R a) (tE R b) σ H Q := by
  obtain ⟨Γ, f, pr, st, h⟩ := h
  refine ⟨Γ, f, pr, st, ?_⟩
  simp only [ev] at h
  cases q : ev R.F a Γ with
  | none => simp only [q] at h
  | some r =>
    cases r with
    | ex y Γ1 => simp only [q] at h; exact h
    | ok t Γ1 =>
      simp only [q] at h
      intro v H1 f1 s1 st1
      cases q1 : asBool t with
      | none => simp only [q1] at h
      | some k =>
        have et := asBool_bT q1
        subst et
        obtain ⟨_, _, _, ga0, _, hg0, _⟩ := id st1
        refine ⟨k, bT_val hg0, ?_⟩
        cases k with
        | false =>
          simp only [q1] at h
          refine ⟨Γ1, f1, pr, st1.drop, ?_⟩
          cases q2 : ev R.F b Γ1 with
          | none => simp only [q2] at h
          | some r2 =>
            cases r2 with
            | ex y Γ2 => simp only [q2] at h; exact fun C H' f' hm s2 st2 => h C H' f' hm (s1.trans s2 fun _ => Nat.le_refl _) st2
            | ok u Γ2 => simp only [q2] at h; exact fun v H' f' s2 st2 => h v H' f' (s1.trans s2 fun _ => Nat.le_refl _) st2
        | true =>
          simp only [q1] at h
          exact h (.bl true) H1 f1 s1 (st1.drop.new (New.bool true))
theorem not_ok {K : PySem.W.Frag} (hK : K = R.K) {a : CE} (h : tE R (.not_ a) σ H Q) : tNotT K (tE R a) σ H Q := by
  subst hK
  obtain ⟨Γ, f, pr, st, h⟩ := h
  refine ⟨Γ, f, pr, st, ?_⟩
  simp only [ev] at h
  cases q : ev R.F a Γ with
  | none => simp only [q] at h
  | some r =>
    cases r with
    | ex y Γ1 => simp only [q] at h; exact h
    | ok t Γ1 =>
      simp only [q] at h
      intro v H1 f1 s1 st1
      cases q1 : truth t with
      | none => simp only [q1, Option.map_none] at h
      | some k =>
        simp only [q1, Option.map_some] at h
        obtain ⟨_, _, _, ga0, _, hg0, _⟩ := id st1
        exact ⟨k, truth_rep ⟨ga0, hg0⟩ q1, h _ H1 f1 s1 (st1.drop.new (New.bool _))⟩
theorem ife_ok {c : CT} {a b : CE} (h : tE R (.ife c a b) σ H Q) : tIf (tT R c) (tE R a) (tE R b) σ H Q := by
  obtain ⟨Γ, f, pr, st, h⟩ := h
  refine ⟨Γ, f, pr, st, ?_⟩
  simp only [ev] at h
  cases q : evT R.F c Γ with
  | none => simp only [q] at h
  | some r =>
    cases r with
    | ex y Γ1 => simp only [q] at h; exact h
    | ok k Γ1 =>
      intro H1 f1 s1 st1
      have go : ∀ d : CE, (match ev R.F d Γ1 with
          | some (.ok t Γ') => ∀ v H' f', Stp H f pr H' f' → St1 R.K Γ' σ H' f' pr v t → Q v H'
          | some (.ex x Γ') => ∀ C H' f', R.mg x = some (.ref C) → Stp H f pr H' f' → St0 R.K Γ' σ H' f' pr → R.W (.ref C) none σ H'
          | none => False) → tE R d σ H1 Q := by
        intro d h
        refine ⟨Γ1, f1, pr, st1, ?_⟩
        cases q2 : ev R.F d Γ1 with
        | none => simp only [q2] at h
        | some r2 =>
          cases r2 with
          | ex y Γ2 => simp only [q2] at h; exact fun C H' f' hm s2 st2 => h C H' f' hm (s1.trans s2 fun _ => Nat.le_refl _) st2
          | ok u Γ2 => simp only [q2] at h; exact fun v H' f' s2 st2 => h v H' f' (s1.trans s2 fun _ => Nat.le_refl _) st2
      cases k with
      | true => simp only [q] at h; exact go a h
      | false => simp only [q] at h; exact go b h
theorem flat_dr {K : PySem.W.Frag} {H H' : Hp} {d : PyData} {v : V} (h : Dp K H v d) (fd : flatD d = true) : Dr K H' d v := by
  cases d <;> first | (unfold flatD at fd; cases fd; done) | (cases h; unfold Dr; rfl)
theorem flat_nd {d : PyData} (fd : flatD d = true) : noDict d = true := by
  cases d <;> first | (unfold flatD at fd; cases fd; done) | rfl
theorem chain_ok {K : PySem.W.Frag} (hK : K = R.K) {o1 o2 : CmpOp} {a b : CA} {c : CE} (h : tE R (.chain o1 o2 [a, b] c) σ H Q) : tChain (rCmp K o1) (rCmp K o2) (tA R a) (tA R b) (tE R c) σ H Q := by
  subst hK
  unfold tChain
  refine tA.mono (as2 (Q := fun vs H2 => ∀ x y, vs = [x, y] → rCmp R.K o1 x y H2 fun z H3 => ∃ k, z = .bl k ∧ (if k = true then tE R c σ H3 fun w' H4 => rCmp R.K o2 y w' H4 Q else Q (.bl false) H3)) ?_) fun x H1 q => tA.mono q fun y H2 q => q x y rfl
  obtain ⟨Γ, f, pr, st, h⟩ := h
  refine ⟨Γ, f, pr, st, ?_⟩
  simp only [ev] at h
  cases q : evAs R.F [a, b] Γ with
  | none => simp only [q] at h
  | some r =>
    cases r with
    | ex y Γ1 => simp only [q] at h; exact h
    | ok avs Γ1 =>
      simp only [q] at h
      intro vs H1 f1 s1 st1 x y hxy
      subst hxy
      obtain ⟨_, _, g, ga0, hs, hg0, _⟩ := id st1
      cases qr : resolves Γ1 avs with
      | none => simp only [qr] at h
      | some ts =>
        have rw2 := resolves_rep hs hg0 qr
        obtain ⟨ta, tb, rfl, ra, rb⟩ : ∃ ta tb, ts = [ta, tb] ∧ RepW R.K H1 f1 ta x ∧ RepW R.K H1 f1 tb y := by
          cases ts with
          | nil => unfold RepWs at rw2; cases rw2
          | cons ta ts =>
            obtain ⟨v, w, h0, r1, r2⟩ := rw2
            cases h0
            cases ts with
            | nil => unfold RepWs at r2; cases r2
            | cons tb ts =>
              obtain ⟨v, w, h0, r3, r4⟩ := r2
              cases h0
              cases ts with
              | nil => exact ⟨ta, tb, rfl, r1, r3⟩
              | cons c ts => obtain ⟨v, w, h0, _⟩ := r4; cases h0
        simp only [qr] at h
        cases qc : cmpEv o1 ta tb with
        | none => simp only [qc] at h
        | some k =>
          refine cmp_ok ra rb qc ⟨k, rfl, ?_⟩
          cases k with
          | false =>
            simp only [qc] at h
            exact h (.bl false) H1 f1 s1 (st1.drop.new (New.bool false))
          | true =>
            simp only [qc] at h
            cases qs : see tb with
            | none => simp only [qs] at h
            | some db =>
              simp only [qs] at h
              by_cases fd : flatD db = true
              · simp only [fd, if_true] at h
                have dp := see_dp rb qs (flat_nd fd)
                refine ⟨Γ1, f1, pr, st1.drop, ?_⟩
                cases q2 : ev R.F c Γ1 with
                | none => simp only [q2] at h
                | some r2 =>
                  cases r2 with
                  | ex z Γ2 => simp only [q2] at h; exact fun C H' f' hm s2 st2 => h C H' f' hm (s1.trans s2 fun _ => Nat.le_refl _) st2
                  | ok tc Γ2 =>
                    simp only [q2] at h
                    intro w H4 f4 s2 st2
                    cases q3 : cmpEv o2 (.c db) tc with
                    | none => simp only [q3, Option.map_none] at h
                    | some k2 =>
                      simp only [q3, Option.map_some] at h
                      obtain ⟨_, _, _, gc, _, hgc, _⟩ := id st2
                      exact cmp_ok ⟨fun _ => 0, by unfold Rep; exact flat_dr dp fd⟩ ⟨gc, hgc⟩ q3 (h (.bl k2) H4 f4 (s1.trans s2 fun _ => Nat.le_refl _) (st2.drop.new (New.bool k2)))
              · simp only [fd] at h
                exact h.elim
end
end Hw
set_option Elab.async false
set_option linter.all false
set_option maxRecDepth 100000
set_option maxHeartbeats 1000000
namespace Hw
open PySem PySem.Spec PyProof.Rows L2
theorem argsOf_set {Γ : List Tr} {i : Nat} {x : Tr} : ∀ {avs : List AV}, i ∉ slotsOf avs → argsOf (Γ.set i x) avs = argsOf Γ avs
  | [], _ => rfl
  | .tmp t :: avs, h => by
    unfold slotsOf at h
    unfold argsOf
    rw [argsOf_set h]; rfl
  | .own t :: avs, h => by
    unfold slotsOf at h
    unfold argsOf
    rw [argsOf_set h]; rfl
  | .pk j :: avs, h => by
    unfold slotsOf at h
    simp only [List.mem_cons, not_or] at h
    simp only [argsOf, argOf]
    rw [argsOf_set h.2, List.getElem?_set_ne h.1]
  | .io j :: avs, h => by
    unfold slotsOf at h
    simp only [List.mem_cons, not_or] at h
    simp only [argsOf, argOf]
    rw [argsOf_set h.2, List.getElem?_set_ne h.1]
theorem lost_set {i : Nat} {x : Tr} : ∀ {avs : List AV} {Γ : List Tr}, i ∉ slotsOf avs → lost (Γ.set i x) avs = (lost Γ avs).set i x
  | [], _, _ => rfl
  | .tmp t :: avs, Γ, h => by unfold slotsOf at h; exact lost_set (avs := avs) h
  | .own t :: avs, Γ, h => by unfold slotsOf at h; exact lost_set (avs := avs) h
  | .pk j :: avs, Γ, h => by
    unfold slotsOf at h
    simp only [List.mem_cons, not_or] at h
    exact lost_set (avs := avs) h.2
  | .io j :: avs, Γ, h => by
    unfold slotsOf at h
    simp only [List.mem_cons, not_or] at h
    show lost ((Γ.set i x).set j .gone) avs = (lost (Γ.set j .gone) avs).set i x
    rw [List.set_comm _ _ h.1]
    exact lost_set h.2
theorem lost_length : ∀ {avs : List AV} {Γ : List Tr}, (lost Γ avs).length = Γ.length
  | [], _ => rfl
  | .tmp t :: avs, Γ => lost_length (avs := avs)
  | .own t :: avs, Γ => lost_length (avs := avs)
  | .pk j :: avs, Γ => lost_length (avs := avs)
  | .io j :: avs, Γ => by show (lost (Γ.set j .gone) avs).length = _; rw [lost_length, List.length_set]
section
variable {K : PySem.W.Frag} {H H' : Hp} {f f' pr : Fp} {σ : Sig}
theorem settle_rep {t t' : Tr} {v : V} {g fs : Fp} (e : settle t = some t') (r : Rep K H f t v g) (l : ∀ a, fs a ≤ f a) (d : ∀ a, g a + fs a ≤ 1) : Rep K H fs t' v (fun _ => 0) := by
  unfold settle at e
  split at e
  · cases e
    have := r.lef l
    unfold Rep at this ⊢
    exact this
  · cases e
    have := r.lef l
    unfold Rep at this ⊢
    exact this
  · obtain ⟨d', e1, rfl⟩ := Option.map_eq_some_iff.mp e
    unfold Rep
    exact r.frz l e1 d
theorem lend : ∀ {avs : List AV} {Γ : List Tr} {vs : List V} {ts : List Tr} {g ga : Fp}, RepS K H f Γ σ g → RepA K H f σ avs vs ga → argsOf Γ avs = some ts → hasPk avs = false → (slotsOf avs).Nodup →
    ∃ gd g0 gio : Fp, (∀ a, g0 a + gio a + gd a ≤ g a + ga a) ∧ RepS K H f (lost Γ avs) σ g0 ∧ ∀ fs : Fp, (∀ a, fs a ≤ f a) → (∀ a, gd a + fs a ≤ 1) → RepL K H fs ts vs gio
  | [], Γ, vs, ts, g, ga, hs, ha, e, _, _ => by
    unfold argsOf at e; cases e
    unfold RepA at ha
    exact ⟨fun _ => 0, g, fun _ => 0, fun a => by show g a + 0 + 0 ≤ _; omega, hs, fun fs _ _ => by unfold RepL; exact ha⟩
  | .pk i :: avs, _, _, _, _, _, _, _, _, p, _ => by unfold hasPk at p; cases p
  | .tmp t :: avs, Γ, vs, ts, g, ga, hs, ha, e, p, nd => by
    unfold hasPk at p
    unfold slotsOf at nd
    unfold argsOf at e
    split at e <;> first | (cases e; done) | skip
    rename_i t' ts' e1 e2
    cases e
    obtain ⟨v, r, g1, g2, rfl, h1, h2, h3⟩ := ha
    obtain ⟨gd, g0, gio, hb, hl, hr⟩ := lend hs h2 e2 p nd
    refine ⟨padd g1 gd, g0, gio, fun a => by have := hb a; have := h3 a; simp only [padd_at]; omega, hl, fun fs l d => ?_⟩
    unfold RepL
    exact ⟨v, r, fun _ => 0, gio, rfl, settle_rep e1 h1 l fun a => by have := d a; rw [padd_at] at this; omega, hr fs l fun a => by have := d a; rw [padd_at] at this; omega, fun a => by show 0 + gio a ≤ _; omega⟩
  | .own t :: avs, Γ, vs, ts, g, ga, hs, ha, e, p, nd => by
    unfold hasPk at p
    unfold slotsOf at nd
    unfold argsOf at e
    split at e <;> first | (cases e; done) | skip
    rename_i t' ts' e1 e2
    cases e
    obtain ⟨v, r, g1, g2, rfl, h1, h2, h3⟩ := ha
    have e1 : some t = some t' := e1
    cases e1
    obtain ⟨gd, g0, gio, hb, hl, hr⟩ := lend hs h2 e2 p nd
    refine ⟨gd, g0, padd g1 gio, fun a => by have := hb a; have := h3 a; simp only [padd_at]; omega, hl, fun fs l d => ?_⟩
    unfold RepL
    exact ⟨v, r, g1, gio, rfl, h1.lef l, hr fs l d, fun a => Nat.le_refl _⟩
  | .io i :: avs, Γ, vs, ts, g, ga, hs, ha, e, p, nd => by
    unfold hasPk at p
    unfold slotsOf at nd
    rw [List.nodup_cons] at nd
    unfold argsOf at e
    split at e <;> first | (cases e; done) | skip
    rename_i x ts' e1 e2
    cases e
    obtain ⟨v, r, rfl, ev, h2⟩ := ha
    have ex : Γ[i]? = some x ∧ x ≠ .gone := by
      simp only [argOf] at e1
      split at e1
      · cases e1
      · rename_i n
        exact ⟨e1, fun z => by subst z; exact n e1⟩
    obtain ⟨o, g1, g2, eo, ro, rs, hgl⟩ := hs.take ex.1
    obtain ⟨w, rfl, rx⟩ := ro.get ex.2
    rw [ev] at eo; cases eo
    obtain ⟨gd, g0, gio, hb, hl, hr⟩ := lend (ts := ts') rs h2 (by rw [argsOf_set nd.1]; exact e2) p nd.2
    refine ⟨gd, g0, padd g1 gio, fun a => by have := hb a; have := hgl a; simp only [padd_at]; omega, hl, fun fs l d => ?_⟩
    unfold RepL
    exact ⟨v, r, g1, gio, rfl, rx.lef l, hr fs l d, fun a => Nat.le_refl _⟩
def IoAt (σ : Sig) : List AV → List V → Prop
  | [], _ => True
  | .io i :: as, vs => ∃ v r, vs = v :: r ∧ σ[i]? = some (some v) ∧ IoAt σ as r
  | _ :: as, vs => ∃ v r, vs = v :: r ∧ IoAt σ as r
theorem RepA.io : ∀ {avs : List AV} {vs : List V} {g : Fp}, RepA K H f σ avs vs g → IoAt σ avs vs
  | [], _, _, _ => trivial
  | .tmp t :: avs, _, _, h => by obtain ⟨v, r, g1, g2, rfl, h1, h2, h3⟩ := h; exact ⟨v, r, rfl, RepA.io h2⟩
  | .own t :: avs, _, _, h => by obtain ⟨v, r, g1, g2, rfl, h1, h2, h3⟩ := h; exact ⟨v, r, rfl, RepA.io h2⟩
  | .pk t :: avs, _, _, h => by obtain ⟨v, r, rfl, h1, h2⟩ := h; exact ⟨v, r, rfl, RepA.io h2⟩
  | .io t :: avs, _, _, h => by obtain ⟨v, r, rfl, h1, h2⟩ := h; exact ⟨v, r, rfl, h1, RepA.io h2⟩
theorem give_back : ∀ {avs : List AV} {Γ : List Tr} {vs : List V} {os : List Tr} {g0 go : Fp}, RepS K H f (lost Γ avs) σ g0 → RepL K H f os vs go → IoAt σ avs vs → os.length = avs.length → (slotsOf avs).Nodup → (∀ i ∈ slotsOf avs, i < Γ.length) →
    RepS K H f (backs Γ avs os) σ (padd g0 go)
  | [], Γ, vs, os, g0, go, hs, hl, _, len, _, _ => by
    have : os = [] := List.eq_nil_of_length_eq_zero len
    subst this
    show RepS K H f Γ σ _
    exact hs.mono (le_padd _ _)
  | .tmp t :: avs, Γ, vs, [], _, _, _, _, _, len, _, _ => by cases len
  | .own t :: avs, Γ, vs, [], _, _, _, _, _, len, _, _ => by cases len
  | .pk t :: avs, Γ, vs, [], _, _, _, _, _, len, _, _ => by cases len
  | .io t :: avs, Γ, vs, [], _, _, _, _, _, len, _, _ => by cases len
  | .tmp t :: avs, Γ, vs, o :: os, g0, go, hs, hl, io, len, nd, lt => by
    unfold slotsOf at nd lt
    unfold RepL at hl
    obtain ⟨v, r, g1, g2, rfl, h1, h2, h3⟩ := hl
    obtain ⟨v', r', e, io⟩ := io
    cases e
    exact (give_back (avs := avs) hs h2 io (by simpa using len) nd lt).mono fun a => by have := h3 a; simp only [padd_at]; omega
  | .own t :: avs, Γ, vs, o :: os, g0, go, hs, hl, io, len, nd, lt => by
    unfold slotsOf at nd lt
    unfold RepL at hl
    obtain ⟨v, r, g1, g2, rfl, h1, h2, h3⟩ := hl
    obtain ⟨v', r', e, io⟩ := io
    cases e
    exact (give_back (avs := avs) hs h2 io (by simpa using len) nd lt).mono fun a => by have := h3 a; simp only [padd_at]; omega
  | .pk i :: avs, Γ, vs, o :: os, g0, go, hs, hl, io, len, nd, lt => by
    unfold slotsOf at nd lt
    rw [List.nodup_cons] at nd
    unfold RepL at hl
    obtain ⟨v, r, g1, g2, rfl, h1, h2, h3⟩ := hl
    obtain ⟨v', r', e, io⟩ := io
    cases e
    exact (give_back (avs := avs) hs h2 io (by simpa using len) nd.2 fun j hj => lt j (List.mem_cons_of_mem _ hj)).mono fun a => by have := h3 a; simp only [padd_at]; omega
  | .io i :: avs, Γ, vs, o :: os, g0, go, hs, hl, io, len, nd, lt => by
    unfold slotsOf at nd lt
    rw [List.nodup_cons] at nd
    unfold RepL at hl
    obtain ⟨v, r, g1, g2, rfl, h1, h2, h3⟩ := hl
    obtain ⟨v', r', e, ev, io⟩ := io
    cases e
    have hs' : RepS K H f (lost (Γ.set i .gone) avs) σ g0 := hs
    have hi : i < Γ.length := lt i List.mem_cons_self
    have hg : (lost (Γ.set i .gone) avs)[i]? = some .gone := by
      rw [lost_set nd.1, List.getElem?_set_self (by rw [lost_length]; exact hi)]
    have put := RepS.put hs' hg ev (.mk h1)
    rw [lost_set nd.1, List.set_set, ← lost_set nd.1] at put
    show RepS K H f (backs (Γ.set i o) avs os) σ _
    exact (give_back (avs := avs) put h2 io (by simpa using len) nd.2 fun j hj => by rw [List.length_set]; exact lt j (List.mem_cons_of_mem _ hj)).mono fun a => by have := h3 a; simp only [padd_at]; omega
theorem args_lt {Γ : List Tr} : ∀ {avs : List AV} {ts : List Tr}, argsOf Γ avs = some ts → hasPk avs = false → ∀ i ∈ slotsOf avs, i < Γ.length
  | [], _, _, _, _, h => by unfold slotsOf at h; cases h
  | .tmp t :: avs, _, e, p, i, h => by
    unfold argsOf at e
    split at e <;> first | (cases e; done) | skip
    rename_i e2
    exact args_lt e2 (by unfold hasPk at p; exact p) i (by unfold slotsOf at h; exact h)
  | .own t :: avs, _, e, p, i, h => by
    unfold argsOf at e
    split at e <;> first | (cases e; done) | skip
    rename_i e2
    exact args_lt e2 (by unfold hasPk at p; exact p) i (by unfold slotsOf at h; exact h)
  | .pk j :: avs, _, e, p, _, _ => by unfold hasPk at p; cases p
  | .io j :: avs, _, e, p, i, h => by
    unfold argsOf at e
    split at e <;> first | (cases e; done) | skip
    rename_i x ts' e1 e2
    unfold slotsOf at h
    rcases List.mem_cons.mp h with rfl | h
    · simp only [argOf] at e1
      split at e1
      · cases e1
      · exact (List.getElem?_eq_some_iff.mp e1).1
    · exact args_lt e2 (by unfold hasPk at p; exact p) i h
end
section
variable {R : RC} {M : MC} {X : Cx} {σ : Sig} {H : Hp} {Q : VK}
theorem call_ok {x : Str} {as : List CA} {run : List Tr → Option FR} {n : Nat} (hf : R.F.fn x = some run) (hn : ∀ ts r, run ts = some r → ts.length = n) (h : tE R (.call x as) σ H Q) : tCallS (spF R.K R.mg n run) (WE R.W) (tAs R as) σ H Q := by
  obtain ⟨Γ, f, pr, st, h⟩ := h
  refine ⟨Γ, f, pr, st, ?_⟩
  simp only [ev, hf] at h
  cases q : evAs R.F as Γ with
  | none => simp only [q] at h
  | some r =>
    cases r with
    | ex y Γ1 => simp only [q] at h; exact h
    | ok avs Γ1 =>
      simp only [q] at h
      intro vs H1 f1 s1 st1
      by_cases nd : (slotsOf avs).Nodup
      · simp only [nd, if_true] at h
        cases q1 : argsOf Γ1 avs with
        | none => simp only [q1, Option.bind_none] at h
        | some ts =>
          simp only [q1, Option.bind_some] at h
          have al := st1.alc
          obtain ⟨h1, h2, g, ga, hs, hg, hl⟩ := id st1
          cases q2 : run ts with
          | none => simp only [q2] at h
          | some fr =>
            have len := hn ts fr q2
            cases fr with
            | ok t os =>
              simp only [q2] at h
              by_cases hc : hasPk avs = false ∧ os.length = avs.length
              · simp only [hc, and_self, if_true] at h
                obtain ⟨gd, g0, gio, hb, hlo, hr⟩ := lend hs hg q1 hc.1 nd
                have l : ∀ a, (fun a => f1 a - gd a) a ≤ f1 a := fun a => Nat.sub_le _ _
                have rl := hr (fun a => f1 a - gd a) l fun a => by have := hb a; have := hl a; have := h1 a; show gd a + (f1 a - gd a) ≤ 1; omega
                refine ⟨by rw [rl.length]; exact len, ts, fun a => f1 a - gd a, padd pr g0, gio, rl, fun a => Nat.le_trans (l a) (h1 a), fun a ha => al a (Nat.le_trans ha (l a)), fun a => by
                  have := hb a; have := hl a; rw [padd_at]; show gio a + (pr a + g0 a) ≤ f1 a - gd a; omega, ?_⟩
                rw [q2]
                intro v H' f' s2 l1 al' ⟨g', go, rv, ro, hbl⟩
                have s3 : Stp H1 f1 (padd pr g0) H' f' := (stp_less l).trans s2 fun _ => Nat.le_refl _
                refine h v H' f' (s1.trans s3 (le_padd _ _)) ⟨l1, al', _, g', give_back (hlo.stp s3 (le_padd' _ _)) ro hg.io hc.2 nd (args_lt q1 hc.1), rv, fun a => by have := hbl a; simp only [padd_at] at this ⊢; omega⟩
              · rw [if_neg hc] at h
                exact h.elim
            | ex y =>
              simp only [q2] at h
              by_cases hc : hasPk avs = false
              · simp only [hc, if_true] at h
                obtain ⟨gd, g0, gio, hb, hlo, hr⟩ := lend hs hg q1 hc nd
                have l : ∀ a, (fun a => f1 a - gd a) a ≤ f1 a := fun a => Nat.sub_le _ _
                have rl := hr (fun a => f1 a - gd a) l fun a => by have := hb a; have := hl a; have := h1 a; show gd a + (f1 a - gd a) ≤ 1; omega
                refine ⟨by rw [rl.length]; exact len, ts, fun a => f1 a - gd a, padd pr g0, gio, rl, fun a => Nat.le_trans (l a) (h1 a), fun a ha => al a (Nat.le_trans ha (l a)), fun a => by
                  have := hb a; have := hl a; rw [padd_at]; show gio a + (pr a + g0 a) ≤ f1 a - gd a; omega, ?_⟩
                rw [q2]
                intro C H' f' hm s2 l1 al' hp
                have s3 : Stp H1 f1 (padd pr g0) H' f' := (stp_less l).trans s2 fun _ => Nat.le_refl _
                exact h C H' f' hm (s1.trans s3 (le_padd _ _)) ⟨l1, al', g0, fun _ => 0, hlo.stp s3 (le_padd' _ _), trivial, fun a => by have := hp a; simp only [padd_at] at this; show 0 + (g0 a + pr a) ≤ f' a; omega⟩
              · rw [if_neg hc] at h
                exact h.elim
      · rw [if_neg nd] at h
        exact h.elim
end
end Hw
set_option Elab.async false
set_option linter.all false
set_option maxRecDepth 100000
set_option maxHeartbeats 1000000
namespace Hx
open PySem PySem.Spec PyProof.Rows L2
def Itz3 (K : PySem.W.Frag) (b1 b2 b3 : Bool) (a c d : Addr) : It where
  go i H := ∃ (xs ys zs : List V) (x y u : V), SqB K H b1 a xs ∧ SqB K H b2 c ys ∧ SqB K H b3 d zs ∧ xs[i]? = some x ∧ ys[i]? = some y ∧ zs[i]? = some u
  yld i H v H' := ∃ T x y u, v = .ref T ∧ H T = none ∧ H' = upd H T (.tup [x, y, u]) ∧ (∀ xs, SqB K H b1 a xs → xs[i]? = some x) ∧ (∀ ys, SqB K H b2 c ys → ys[i]? = some y) ∧ ∀ zs, SqB K H b3 d zs → zs[i]? = some u
  stop i H := ∃ xs ys zs : List V, SqB K H b1 a xs ∧ SqB K H b2 c ys ∧ SqB K H b3 d zs ∧ i = min xs.length (min ys.length zs.length)
theorem turn_z3 {P : Program} {w : World} {K : PySem.W.Frag} {es : List Expr} {m : Nat} {tp : Pos} {b1 b2 b3 : Bool} {a c d z TI TO i1 i2 i3 : Addr} (S : ZipSep3 z TI TO i1 i2 i3 [i1, a] [i2, c] [i3, d]) :
    Turn P w K (.Tuple es m tp) (Itz3 K b1 b2 b3 a c d) [z, TI, TO, i1, i2, i3] z (fun i h => IsZip h z TI TO .none ∧ IsTupOf3 h TI (.ref i1) (.ref i2) (.ref i3) ∧ (∃ x y u, IsTupOf3 h TO x y u) ∧ IsItB b1 h i1 a i ∧ IsItB b2 h i2 c i ∧ IsItB b3 h i3 d i) where
  mem := List.mem_cons_self ..
  obj := fun i h st q hq => by
    obtain ⟨hz, hTI, ⟨x, y, u, hTO⟩, h1, h2, h3⟩ := st
    have e : q = z ∨ q = TI ∨ q = TO ∨ q = i1 ∨ q = i2 ∨ q = i3 := by simpa using hq
    rcases e with e | e | e | e | e | e
    · subst e; exact ⟨_, hz, fun v k => nomatch k⟩
    · subst e; exact ⟨_, hTI, fun v k => nomatch k⟩
    · subst e; exact ⟨_, hTO, fun v k => nomatch k⟩
    · subst e; exact h1.ob
    · subst e; exact h2.ob
    · subst e; exact h3.ob
  keep := fun i h h' st k => by
    obtain ⟨hz, hTI, ⟨x, y, u, hTO⟩, h1, h2, h3⟩ := st
    exact ⟨k z (by simp) _ hz, k TI (by simp) _ hTI, ⟨x, y, u, k TO (by simp) _ hTO⟩, h1.at fun o q => k i1 (by simp) o q, h2.at fun o q => k i2 (by simp) o q, h3.at fun o q => k i3 (by simp) o q⟩
  item := by
    intro X hP hw hK hc i pins s σ H E I hf st hg
    subst hP hw hK
    obtain ⟨hz, hTI, ⟨x0, y0, u0, hTO⟩, h1, h2, h3⟩ := st
    obtain ⟨xs, ys, zs, x, y, w0, hqx, hqy, hqz, hx, hy, hw⟩ := hg
    obtain ⟨its, rv, p⟩ := seqB I hqx
    obtain ⟨jts, rv2, p2⟩ := seqB I hqy
    obtain ⟨kts, rv3, p3⟩ := seqB I hqz
    obtain ⟨u, hu, ru⟩ := rv.get hx
    obtain ⟨u2, hu2, ru2⟩ := rv2.get hy
    obtain ⟨u3, hu3, ru3⟩ := rv3.get hw
    have zl : z < s.heap.objs.size := Heap.lt_size hz
    have n1 : a ≠ i1 := apB p h1
    have n2 : c ≠ i2 := apB p2 h2
    have n3 : d ≠ i3 := apB p3 h3
    refine wpAny_pyNext_zipD3_item S (drawsB (A := X.A.in1) (I.ok.hd hc) i1 a n1 its.toArray b1) (drawsB (A := X.A.in1) (I.ok.hd hc) i2 c n2 jts.toArray b2) (drawsB (A := X.A.in1) (I.ok.hd hc) i3 d n3 kts.toArray b3) hz hTI hTO ⟨h1, p⟩ ⟨h2, p2⟩ ⟨h3, p3⟩ (by have := (List.getElem?_eq_some_iff.mp hu).1; simpa using this) (by have := (List.getElem?_eq_some_iff.mp hu2).1; simpa using this) (by have := (List.getElem?_eq_some_iff.mp hu3).1; simpa using this) fun v1 v2 v3 g tk e1 e2 e3 z' TO' d1 d2 d3 hT hsz hk => ?_
    have yu : v1 = u := by
      have : its[i]? = some v1 := by simpa using e1
      rw [hu] at this
      exact (Option.some.inj this).symm
    have yu2 : v2 = u2 := by
      have : jts[i]? = some v2 := by simpa using e2
      rw [hu2] at this
      exact (Option.some.inj this).symm
    have yu3 : v3 = u3 := by
      have : kts[i]? = some v3 := by simpa using e3
      rw [hu3] at this
      exact (Option.some.inj this).symm
    subst yu yu2 yu3
    refine ⟨_, rfl, wpAny_letOwnedTupleGo_zip (s := { s with heap := g, toks := tk }) z' fun g2 z'' sb => ?_⟩
    have hT2 : g2.get? s.heap.objs.size = some { cls := .type "tuple", data := .seq #[v1, v2, v3] } := (sb.2 _ (Nat.ne_of_gt zl)).trans hT
    have new : ObjOk X.prog X.w (upd H s.heap.objs.size (.tup [x, y, w0])) g2 s.heap.objs.size (.tup [x, y, w0]) :=
      ⟨by show 3 ≤ sizeLine; decide, [v1, v2, v3], .cons ru (.cons ru2 (.cons ru3 .nil)), ⟨_, hT2, rfl, _, rfl⟩⟩
    have I1 : Inv X pins σ (upd H s.heap.objs.size (.tup [x, y, w0])) { s with heap := g2, toks := tk } :=
      I.turnedNew (t' := tk) (ch := [z, TI, TO, i1, i2, i3]) (fun q o hb e => (sb.2 q (fun k => hb (by simp [k]))).trans (hk q o (fun k => hb (by simp [k])) (fun k => hb (by simp [k])) (fun k => hb (by simp [k])) (fun k => hb (by simp [k])) (fun k => hb (by simp [k])) e)) hf (Nat.le_refl _) new
    refine ⟨.ref s.heap.objs.size, _, I1, rfl, ⟨_, x, y, w0, rfl, I.hok.fresh (Nat.le_refl _), rfl, fun l hl => by rw [injB I hl hqx]; exact hx, fun l hl => by rw [injB I hl hqy]; exact hy, fun l hl => by rw [injB I hl hqz]; exact hw⟩, ⟨z'', ?_, ⟨v1, v2, v3, ?_⟩, ?_, ?_, ?_⟩, fun q hq => ?_⟩
    · exact (sb.2 _ S.TIz).trans (hk _ _ S.TIz S.TITO S.TIi1 S.TIi2 S.TIi3 hTI)
    · exact (sb.2 _ S.TOz).trans TO'
    · exact d1.1.at fun o e => (sb.2 _ (Ne.symm S.zi1)).trans e
    · exact d2.1.at fun o e => (sb.2 _ (Ne.symm S.zi2)).trans e
    · exact d3.1.at fun o e => (sb.2 _ (Ne.symm S.zi3)).trans e
    · have lt : q < s.heap.objs.size := by
        have e : q = z ∨ q = TI ∨ q = TO ∨ q = i1 ∨ q = i2 ∨ q = i3 := by simpa using hq
        rcases e with e | e | e | e | e | e
        · rw [e]; exact zl
        · rw [e]; exact Heap.lt_size hTI
        · rw [e]; exact Heap.lt_size hTO
        · rw [e]; obtain ⟨_, e1, _⟩ := h1.ob; exact Heap.lt_size e1
        · rw [e]; obtain ⟨_, e2, _⟩ := h2.ob; exact Heap.lt_size e2
        · rw [e]; obtain ⟨_, e3, _⟩ := h3.ob; exact Heap.lt_size e3
      rw [upd_ne (Nat.ne_of_lt lt)]
      exact (hf q hq).1
  done := by
    intro X hP hw hK hc i pins s σ H E I hf st hg
    subst hP hw hK
    obtain ⟨hz, hTI, ⟨x0, y0, u0, hTO⟩, h1, h2, h3⟩ := st
    obtain ⟨xs, ys, zs, hqx, hqy, hqz, hend⟩ := hg
    obtain ⟨its, rv, p⟩ := seqB I hqx
    obtain ⟨jts, rv2, p2⟩ := seqB I hqy
    obtain ⟨kts, rv3, p3⟩ := seqB I hqz
    have l1 := rv.length
    have l2 := rv2.length
    have l3 := rv3.length
    have n1 : a ≠ i1 := apB p h1
    have n2 : c ≠ i2 := apB p2 h2
    have n3 : d ≠ i3 := apB p3 h3
    exact wpAny_pyNext_zipD3_end S (drawsB (A := X.A.in1) (I.ok.hd hc) i1 a n1 its.toArray b1) (drawsB (A := X.A.in1) (I.ok.hd hc) i2 c n2 jts.toArray b2) (drawsB (A := X.A.in1) (I.ok.hd hc) i3 d n3 kts.toArray b3) hz hTI hTO ⟨h1, p⟩ ⟨h2, p2⟩ ⟨h3, p3⟩ (by simp; omega) (by simp; omega) (by simp; omega) (by simp; omega) fun g tk hk => ⟨rfl, I.turnedL (t' := tk) (ch := [z, TI, TO, i1, i2, i3]) (fun q o hb e =>
      hk q o (fun k => hb (by simp [k])) (fun k => hb (by simp [k])) (fun k => hb (by simp [k])) (fun k => hb (by simp [k])) (fun k => hb (by simp [k])) e) hf⟩
  self := fun A i s Q E st h => wpAny_pyIter_zip st.1 h
abbrev yA (h : Heap) (b1 b2 b3 : Bool) (l1 l2 l3 : Addr) : Heap := ((h.push (zO b1 l1)).push (zO b2 l2)).push (zO b3 l3)
abbrev yB (h : Heap) (b1 b2 b3 : Bool) (l1 l2 l3 : Addr) : Heap := (yA h b1 b2 b3 l1 l2 l3).push { cls := .type "tuple", data := .seq #[.ref h.objs.size, .ref (h.push (zO b1 l1)).objs.size, .ref ((h.push (zO b1 l1)).push (zO b2 l2)).objs.size] }
abbrev yC (h : Heap) (b1 b2 b3 : Bool) (l1 l2 l3 : Addr) : Heap := (yB h b1 b2 b3 l1 l2 l3).push { cls := .type "tuple", data := .seq #[.none, .none, .none] }
abbrev yD (h : Heap) (b1 b2 b3 : Bool) (l1 l2 l3 : Addr) : Heap := (yC h b1 b2 b3 l1 l2 l3).push { cls := .type "zip", data := .fields #[.none, .bool false, .bool false, .ref (yA h b1 b2 b3 l1 l2 l3).objs.size, .ref (yB h b1 b2 b3 l1 l2 l3).objs.size] }
theorem made_z3 (b1 b2 b3 : Bool) (l1 l2 l3 : Addr) (xs ys zs : Array Value) :
    Meets (Builtin.«zip.__new__» ⟨[.type "zip", .ref l1, .ref l2, .ref l3], []⟩) (fun _ R s => IsSqB b1 s.heap l1 xs ∧ IsSqB b2 s.heap l2 ys ∧ IsSqB b3 s.heap l3 zs ∧
      R (.ok (.ret (.ref (yC s.heap b1 b2 b3 l1 l2 l3).objs.size))) { s with heap := yD s.heap b1 b2 b3 l1 l2 l3 }) :=
  .of_wp fun P w A R s hh => by
    obtain ⟨hp, g, d, tk, os⟩ := s
    obtain ⟨q1, q2, q3, hr⟩ := hh
    have sub := sub_zip
    have m1 : IsSqB b1 (Shared.heap ⟨hp, g, d, tk, os⟩) l1 xs := q1
    have m2 : IsSqB b2 (Shared.heap ⟨hp.push (zO b1 l1), g, d, tk, os⟩) l2 ys := q2.push _
    have m3 : IsSqB b3 (Shared.heap ⟨(hp.push (zO b1 l1)).push (zO b2 l2), g, d, tk, os⟩) l3 zs := (q3.push _).push _
    wp_walk using iterB m1, iterB m2, iterB m3
    exact ⟨_, rfl, hr⟩
section
variable {P : Program} {w : World} {A : Around} {E : Value → Shared → Prop} {s : Shared}
theorem call_z3 {b1 b2 b3 : Bool} {l1 l2 l3 : Addr} {xs ys zs : Array Value} {Q : Value → Shared → Prop} (q1 : IsSqB b1 s.heap l1 xs) (q2 : IsSqB b2 s.heap l2 ys) (q3 : IsSqB b3 s.heap l3 zs)
    (k : ∀ h' n, n = s.heap.objs.size → IsZip h' (n + 5) (n + 3) (n + 4) .none → IsTupOf3 h' (n + 3) (.ref n) (.ref (n + 1)) (.ref (n + 2)) → IsTupOf3 h' (n + 4) .none .none .none → IsItB b1 h' n l1 0 → IsItB b2 h' (n + 1) l2 0 → IsItB b3 h' (n + 2) l3 0 →
      (∀ c o, s.heap.get? c = some o → h'.get? c = some o) → Q (.ref (n + 5)) { s with heap := h' }) :
    wpAny (model P w) A (call (.type "zip") [.ref l1, .ref l2, .ref l3]) Q E s := by
  refine callType_new F.called_zip (by decide) (F.typeCall_zip_3 _ _ _) (F.newCall_zip_3 _ _ _) (fun obj => F.args_object_init_4 obj _ _ _) F.entry_zip_new (made_z3 b1 b2 b3 l1 l2 l3 xs ys zs) ⟨q1, q2, q3, ?_⟩
  have s1 : (s.heap.push (zO b1 l1)).objs.size = s.heap.objs.size + 1 := Heap.size_push ..
  have s1' : ((s.heap.push (zO b1 l1)).push (zO b2 l2)).objs.size = s.heap.objs.size + 2 := by rw [Heap.size_push, s1]
  have s2 : (yA s.heap b1 b2 b3 l1 l2 l3).objs.size = s.heap.objs.size + 3 := by rw [Heap.size_push, s1']
  have s3 : (yB s.heap b1 b2 b3 l1 l2 l3).objs.size = s.heap.objs.size + 4 := by rw [Heap.size_push, s2]
  have s4 : (yC s.heap b1 b2 b3 l1 l2 l3).objs.size = s.heap.objs.size + 5 := by rw [Heap.size_push, s3]
  have up : ∀ {h : Heap} {o u : Obj} {q : Addr}, h.get? q = some u → (h.push o).get? q = some u := fun e => Heap.get?_push_of_some _ e
  have g6 : (yD s.heap b1 b2 b3 l1 l2 l3).get? (yC s.heap b1 b2 b3 l1 l2 l3).objs.size = some _ := Heap.get?_push_size _ rfl
  have g5 : (yD s.heap b1 b2 b3 l1 l2 l3).get? (yB s.heap b1 b2 b3 l1 l2 l3).objs.size = some _ := up (Heap.get?_push_size _ rfl)
  have g4 : (yD s.heap b1 b2 b3 l1 l2 l3).get? (yA s.heap b1 b2 b3 l1 l2 l3).objs.size = some _ := up (up (Heap.get?_push_size _ rfl))
  have g3 : (yD s.heap b1 b2 b3 l1 l2 l3).get? ((s.heap.push (zO b1 l1)).push (zO b2 l2)).objs.size = some _ := up (up (up (Heap.get?_push_size _ rfl)))
  have g2 : (yD s.heap b1 b2 b3 l1 l2 l3).get? (s.heap.push (zO b1 l1)).objs.size = some _ := up (up (up (up (Heap.get?_push_size _ rfl))))
  have g1 : (yD s.heap b1 b2 b3 l1 l2 l3).get? s.heap.objs.size = some _ := up (up (up (up (up (Heap.get?_push_size _ rfl)))))
  show _ ∧ _
  rw [s4, s2, s3] at g6
  rw [s2, s1, s1'] at g4
  rw [s3] at g5
  rw [s1'] at g3
  rw [s1] at g2
  rw [s4]
  exact ⟨⟨_, g6, rfl⟩, k _ _ rfl g6 g4 g5 (.new g1) (.new g2) (.new g3) fun c o x => up (up (up (up (up (up x)))))⟩
end
theorem sepN3 (n a b d : Nat) (la : a < n) (lb : b < n) (ld : d < n) : ZipSep3 (n + 5) (n + 3) (n + 4) n (n + 1) (n + 2) [n, a] [n + 1, b] [n + 2, d] where
  TIz := ne_ (by omega)
  TOz := ne_ (by omega)
  TITO := ne_ (by omega)
  TIi1 := ne_ (by omega)
  mem1 := List.mem_cons_self ..
  zf1 := notin2 (ne_ (by omega)) (ne_ (by omega))
  Tf1 := notin2 (ne_ (by omega)) (ne_ (by omega))
  TIi2 := ne_ (by omega)
  mem2 := List.mem_cons_self ..
  zf2 := notin2 (ne_ (by omega)) (ne_ (by omega))
  Tf2 := notin2 (ne_ (by omega)) (ne_ (by omega))
  TIi3 := ne_ (by omega)
  mem3 := List.mem_cons_self ..
  zf3 := notin2 (ne_ (by omega)) (ne_ (by omega))
  Tf3 := notin2 (ne_ (by omega)) (ne_ (by omega))
  sep1_2 := notin2 (ne_ (by omega)) (ne_ (by omega))
  sep1_3 := notin2 (ne_ (by omega)) (ne_ (by omega))
  sep2_1 := notin2 (ne_ (by omega)) (ne_ (by omega))
  sep2_3 := notin2 (ne_ (by omega)) (ne_ (by omega))
  sep3_1 := notin2 (ne_ (by omega)) (ne_ (by omega))
  sep3_2 := notin2 (ne_ (by omega)) (ne_ (by omega))
def iZip3 (K : PySem.W.Frag) (ta : TA) : TI := fun σ H R => ta σ H fun vs H1 => ∃ b1 b2 b3 a b d xs ys zs, vs = [.ref a, .ref b, .ref d] ∧ SqB K H1 b1 a xs ∧ SqB K H1 b2 b ys ∧ SqB K H1 b3 d zs ∧ R (Itz3 K b1 b2 b3 a b d) H1
theorem pi_zip3 {X : Cx} {e e2 e3 : Expr} {ta : TA} {p pos tp : Pos} {es : List Expr} {m : Nat} (hg : Gl X "zip") (hm : X.mg "zip" = none) (ha : PA X [e, e2, e3] ta)
    (hs : starEach [e, e2, e3] X.env = (false, eval e X.env) :: starEach [e2, e3] X.env) (hpl : (backTo pos (starEach [e2, e3] X.env)).any (·.1) = false) :
    PI X (.Tuple es m tp) (.Call (.Name "zip" p) [e, e2, e3] [] pos) (iZip3 X.K ta) := by
  constructor
  intro pins s σ H R I q
  refine Call_ (ld_blt I hg hm PyProof.Rows.boot_zip (PyProof.Rows.callWith_type1 (thn (ha.run pos pins s σ H _ I q) fun us s1 ⟨vs, H1, I1, r1, q1⟩ => ?_) hs hpl))
  obtain ⟨b1, b2, b3, a, b, d, xs, ys, zs, rfl, h1, h2, h3, q⟩ := q1
  have go : ∀ u1 u2 u3, us = [u1, u2, u3] → u1 = .ref a → u2 = .ref b → u3 = .ref d → wpAny (model X.prog X.w) X.A (call (.type "zip") us) (fun v s1 => wpAny (model X.prog X.w) X.A (pyIter v) (PIE X pins σ (.Tuple es m tp) R) X.xe s1) X.xe s1 := by
    intro u1 u2 u3 hu e1 e2 e3
    subst hu e1 e2 e3
    obtain ⟨its, rv, t1⟩ := seqB I1 h1
    obtain ⟨jts, rv2, t2⟩ := seqB I1 h2
    obtain ⟨kts, rv3, t3⟩ := seqB I1 h3
    obtain ⟨_, ea⟩ := t1.ex
    obtain ⟨_, eb⟩ := t2.ex
    obtain ⟨_, ed⟩ := t3.ex
    have la := Heap.lt_size ea
    have lb := Heap.lt_size eb
    have ld := Heap.lt_size ed
    refine call_z3 t1 t2 t3 fun h' n hn z1 z2 z3 z4 z5 z6 hk => wpAny_pyIter_zip z1 ?_
    have I2 : Inv X pins σ H1 { s1 with heap := h' } := I1.kept (t' := s1.toks) hk
    have S := sepN3 n a b d (by rw [hn]; exact la) (by rw [hn]; exact lb) (by rw [hn]; exact ld)
    have fr : ∀ c ∈ [n + 5, n + 3, n + 4, n, n + 1, n + 2], FpOk X pins H1 c := fun c hc => by
      have le : s1.heap.objs.size ≤ c := by
        have q : c = n + 5 ∨ c = n + 3 ∨ c = n + 4 ∨ c = n ∨ c = n + 1 ∨ c = n + 2 := by simpa using hc
        have hn' : (n : Nat) = s1.heap.objs.size := hn
        rcases q with e | e | e | e | e | e <;> (rw [e, ← hn']; first | exact Nat.le_add_right _ _ | exact Nat.le_refl _)
      exact I1.fpOk le (I1.hok.fresh le)
    have T := turn_z3 (P := X.prog) (w := X.w) (K := X.K) (es := es) (m := m) (tp := tp) (b1 := b1) (b2 := b2) (b3 := b3) S
    exact ⟨n + 5, [n + 5, n + 3, n + 4, n, n + 1, n + 2], _, _, H1, rfl, I2, T, ⟨z1, z2, ⟨_, _, _, z3⟩, z4, z5, z6⟩, fr, q⟩
  cases r1 with
  | cons r rr =>
    cases rr with
    | cons r' rr' =>
      cases rr' with
      | cons r'' rr'' =>
        cases rr''
        exact go _ _ _ rfl r r' r''
end Hx
set_option Elab.async false
set_option linter.all false
set_option maxRecDepth 100000
set_option maxHeartbeats 1000000
namespace Hw
open PySem PySem.Spec PyProof.Rows L2
def WalkD (K : PySem.W.Frag) (J : It) (ds : List PyData) (R0 : Hp) : Prop := ∀ i H f, Alc H f → Ext R0 (mn H f) →
  (∀ d, ds[i]? = some d → J.go i H ∧ ∀ x H', J.yld i H x H' → Ext H H' ∧ Dr K (mn H' f) d x) ∧ (i = ds.length → J.stop i H)
section
variable {K : PySem.W.Frag} {R0 : Hp}
theorem walk_l {p : Addr} {xs : List V} {ds : List PyData} (h : SqL K R0 p xs) (d : DrL K R0 ds xs) : WalkD K (Itl K p) ds R0 := by
  intro i H f al e
  have hS : SqL K H p xs := (e.trans (mn_ext H f)).sql h
  refine ⟨fun d' hd => ?_, fun hl => ⟨xs, hS, by rw [d.length]; exact Nat.le_of_eq hl.symm⟩⟩
  obtain ⟨v, hv, hr⟩ := d.get hd
  refine ⟨⟨xs, v, hS, hv⟩, fun x H' hy => ?_⟩
  obtain ⟨rfl, q⟩ := hy
  have := q xs hS
  rw [hv] at this; cases this
  exact ⟨Ext.refl _, Dr.ext e hr⟩
theorem walk_t {p : Addr} {xs : List V} {ds : List PyData} (h : R0 p = some (.tup xs)) (d : DrL K R0 ds xs) : WalkD K (Itt K p) ds R0 := by
  intro i H f al e
  have hS : SqT K H p xs := SqT.of (mn_ext H f _ _ (e _ _ h))
  refine ⟨fun d' hd => ?_, fun hl => ⟨xs, hS, by rw [d.length]; exact Nat.le_of_eq hl.symm⟩⟩
  obtain ⟨v, hv, hr⟩ := d.get hd
  refine ⟨⟨xs, v, hS, hv⟩, fun x H' hy => ?_⟩
  obtain ⟨rfl, q⟩ := hy
  have := q xs hS
  rw [hv] at this; cases this
  exact ⟨Ext.refl _, Dr.ext e hr⟩
theorem rgD_length (a b : Int) : (rgD a b).length = (b - a).toNat := by unfold rgD; simp
theorem rgD_get {a b : Int} {i : Nat} {d : PyData} (h : (rgD a b)[i]? = some d) : i < (b - a).toNat ∧ d = .int (a + (i : Nat)) := by
  have hi : i < (rgD a b).length := (List.getElem?_eq_some_iff.mp h).1
  rw [rgD_length] at hi
  refine ⟨hi, ?_⟩
  unfold rgD at h
  rw [List.getElem?_map, List.getElem?_range hi] at h
  cases h; rfl
theorem walk_r {a b : Int} : WalkD K (Itr a (b - a).toNat) (rgD a b) R0 := by
  intro i H f al e
  refine ⟨fun d hd => ?_, fun hl => by rw [rgD_length] at hl; exact Nat.le_of_eq hl.symm⟩
  obtain ⟨hi, rfl⟩ := rgD_get hd
  refine ⟨hi, fun x H' hy => ?_⟩
  obtain ⟨rfl, rfl⟩ := hy
  exact ⟨Ext.refl _, by unfold Dr; rfl⟩
theorem rg2_get {a b : Int} {i : Nat} {d : PyData} (h : (rg2D a b)[i]? = some d) : i < ((b - a + 1) / 2).toNat ∧ d = .int (a + (i : Nat) * 2) := by
  unfold rg2D at h
  rw [List.getElem?_map] at h
  obtain ⟨m, h1, rfl⟩ := Option.map_eq_some_iff.mp h
  obtain ⟨hl, h2⟩ := List.getElem?_eq_some_iff.mp h1
  rw [List.length_range] at hl
  rw [List.getElem_range] at h2
  subst h2
  exact ⟨hl, rfl⟩
theorem walk_r2 {a b : Int} : WalkD K (Itc a 2 ((b - a + 1) / 2).toNat) (rg2D a b) R0 := by
  intro i H f al e
  refine ⟨fun d hd => ?_, fun hl => by unfold rg2D at hl; rw [List.length_map, List.length_range] at hl; exact Nat.le_of_eq hl.symm⟩
  obtain ⟨hi, rfl⟩ := rg2_get hd
  refine ⟨hi, fun x H' hy => ?_⟩
  obtain ⟨rfl, rfl⟩ := hy
  exact ⟨Ext.refl _, by unfold Dr; rfl⟩
theorem pair_dr {H : Hp} {f : Fp} {T : Addr} {x y : V} {c d : PyData} (n : H T = none) (al : Alc H f) (h1 : Dr K (mn H f) c x) (h2 : Dr K (mn H f) d y) : Dr K (mn (upd H T (.tup [x, y])) f) (.tuple [c, d]) (.ref T) := by
  have e := mn_new (o := .tup [x, y]) n al
  unfold Dr
  refine ⟨T, [x, y], rfl, mn_of (al.zero n) upd_same, ?_⟩
  unfold DrL
  refine ⟨x, [y], rfl, Dr.ext e h1, ?_⟩
  unfold DrL
  refine ⟨y, [], rfl, Dr.ext e h2, ?_⟩
  unfold DrL; rfl
def enmD (ds : List PyData) : List PyData := ds.zipIdx.map fun p => .tuple [.int (p.2 : Nat), p.1]
theorem enmD_get {ds : List PyData} {i : Nat} {d : PyData} (h : (enmD ds)[i]? = some d) : ∃ e, ds[i]? = some e ∧ d = .tuple [.int (i : Nat), e] := by
  unfold enmD at h
  rw [List.getElem?_map] at h
  obtain ⟨p, h1, rfl⟩ := Option.map_eq_some_iff.mp h
  rw [List.getElem?_zipIdx] at h1
  obtain ⟨e, h2, rfl⟩ := Option.map_eq_some_iff.mp h1
  exact ⟨e, h2, by simp⟩
theorem enmD_length (ds : List PyData) : (enmD ds).length = ds.length := by unfold enmD; simp
theorem walk_e {p : Addr} {xs : List V} {ds : List PyData} (h : SqL K R0 p xs) (d : DrL K R0 ds xs) : WalkD K (Ite K p) (enmD ds) R0 := by
  intro i H f al e
  have hS : SqL K H p xs := (e.trans (mn_ext H f)).sql h
  refine ⟨fun d' hd => ?_, fun hl => ⟨xs, hS, by rw [d.length]; rw [enmD_length] at hl; exact Nat.le_of_eq hl.symm⟩⟩
  obtain ⟨c, hc, rfl⟩ := enmD_get hd
  obtain ⟨v, hv, hr⟩ := d.get hc
  refine ⟨⟨xs, v, hS, hv⟩, fun x H' hy => ?_⟩
  obtain ⟨T, y, rfl, hT, rfl, q⟩ := hy
  have := q xs hS
  rw [hv] at this; cases this
  exact ⟨Ext.new hT, pair_dr hT al (by unfold Dr; rfl) (Dr.ext e hr)⟩
theorem walk_et {p : Addr} {xs : List V} {ds : List PyData} (h : R0 p = some (.tup xs)) (d : DrL K R0 ds xs) : WalkD K (Hx.ItEt K p) (enmD ds) R0 := by
  intro i H f al e
  have hS : SqT K H p xs := SqT.of (mn_ext H f _ _ (e _ _ h))
  refine ⟨fun d' hd => ?_, fun hl => ⟨xs, hS, by rw [d.length]; rw [enmD_length] at hl; exact hl⟩⟩
  obtain ⟨c, hc, rfl⟩ := enmD_get hd
  obtain ⟨v, hv, hr⟩ := d.get hc
  refine ⟨⟨xs, v, hS, hv⟩, fun x H' hy => ?_⟩
  obtain ⟨T, y, rfl, hT, rfl, q⟩ := hy
  have := q xs hS
  rw [hv] at this; cases this
  exact ⟨Ext.new hT, pair_dr hT al (by unfold Dr; rfl) (Dr.ext e hr)⟩
def zipD (ds es : List PyData) : List PyData := (ds.zip es).map fun p => .tuple [p.1, p.2]
theorem zipD_get {ds es : List PyData} {i : Nat} {d : PyData} (h : (zipD ds es)[i]? = some d) : ∃ a b, ds[i]? = some a ∧ es[i]? = some b ∧ d = .tuple [a, b] := by
  unfold zipD at h
  rw [List.getElem?_map] at h
  obtain ⟨p, h1, rfl⟩ := Option.map_eq_some_iff.mp h
  obtain ⟨h2, h3⟩ := List.getElem?_zip_eq_some.mp h1
  exact ⟨p.1, p.2, h2, h3, rfl⟩
theorem zipD_length (ds es : List PyData) : (zipD ds es).length = min ds.length es.length := by unfold zipD; simp
def RawB (H : Hp) : Bool → Addr → List V → Prop
  | true, p, xs => H p = some (.tup xs)
  | false, p, xs => H p = some (.lst xs)
theorem RawB.sq {H H' : Hp} {p : Addr} {xs : List V} (e : Ext H H') : ∀ {b : Bool}, RawB H b p xs → Hx.SqB K H' b p xs
  | true, h => SqT.of (e _ _ h)
  | false, h => SqL.of (e _ _ h)
theorem seqD_rep {H : Hp} {d : PyData} {v : V} {ds : List PyData} (h : Dr K H d v) (e : seqD d = some ds) : ∃ b p xs, v = .ref p ∧ RawB H b p xs ∧ DrL K H ds xs := by
  cases d with
  | list es =>
    unfold seqD at e; cases e
    unfold Dr at h
    obtain ⟨p, xs, h1, h2, h3⟩ := h
    exact ⟨false, p, xs, h1, h2, h3⟩
  | tuple es =>
    unfold seqD at e; cases e
    unfold Dr at h
    obtain ⟨p, xs, h1, h2, h3⟩ := h
    exact ⟨true, p, xs, h1, h2, h3⟩
  | none => unfold seqD at e; cases e
  | bool _ => unfold seqD at e; cases e
  | int _ => unfold seqD at e; cases e
  | str _ => unfold seqD at e; cases e
  | dict _ => unfold seqD at e; cases e
theorem walk_zB {b1 b2 : Bool} {p q : Addr} {xs ys : List V} {ds es : List PyData} (h : RawB R0 b1 p xs) (h' : RawB R0 b2 q ys) (d : DrL K R0 ds xs) (d2 : DrL K R0 es ys) : WalkD K (Hx.ItzB K b1 b2 p q) (zipD ds es) R0 := by
  intro i H f al e
  have hS : Hx.SqB K H b1 p xs := h.sq (e.trans (mn_ext H f))
  have hS' : Hx.SqB K H b2 q ys := h'.sq (e.trans (mn_ext H f))
  refine ⟨fun d' hd => ?_, fun hl => ⟨xs, ys, hS, hS', by rw [d.length, d2.length]; rw [zipD_length] at hl; exact hl⟩⟩
  obtain ⟨a, b, ha, hb, rfl⟩ := zipD_get hd
  obtain ⟨v, hv, hr⟩ := d.get ha
  obtain ⟨v2, hv2, hr2⟩ := d2.get hb
  refine ⟨⟨xs, ys, v, v2, hS, hS', hv, hv2⟩, fun x H' hy => ?_⟩
  obtain ⟨T, y, z, rfl, hT, rfl, q1, q2⟩ := hy
  have := q1 xs hS
  rw [hv] at this; cases this
  have := q2 ys hS'
  rw [hv2] at this; cases this
  exact ⟨Ext.new hT, pair_dr hT al (Dr.ext e hr) (Dr.ext e hr2)⟩
theorem trip_dr {H : Hp} {f : Fp} {T : Addr} {x y z : V} {c d e : PyData} (n : H T = none) (al : Alc H f) (h1 : Dr K (mn H f) c x) (h2 : Dr K (mn H f) d y) (h3 : Dr K (mn H f) e z) : Dr K (mn (upd H T (.tup [x, y, z])) f) (.tuple [c, d, e]) (.ref T) := by
  have ex := mn_new (o := .tup [x, y, z]) n al
  unfold Dr
  refine ⟨T, [x, y, z], rfl, mn_of (al.zero n) upd_same, ?_⟩
  unfold DrL
  refine ⟨x, [y, z], rfl, Dr.ext ex h1, ?_⟩
  unfold DrL
  refine ⟨y, [z], rfl, Dr.ext ex h2, ?_⟩
  unfold DrL
  refine ⟨z, [], rfl, Dr.ext ex h3, ?_⟩
  unfold DrL; rfl
def zip3D (ds es gs : List PyData) : List PyData := (ds.zip (es.zip gs)).map fun p => .tuple [p.1, p.2.1, p.2.2]
theorem zip3D_get {ds es gs : List PyData} {i : Nat} {d : PyData} (h : (zip3D ds es gs)[i]? = some d) : ∃ a b c, ds[i]? = some a ∧ es[i]? = some b ∧ gs[i]? = some c ∧ d = .tuple [a, b, c] := by
  unfold zip3D at h
  rw [List.getElem?_map] at h
  obtain ⟨p, h1, rfl⟩ := Option.map_eq_some_iff.mp h
  obtain ⟨h2, h3⟩ := List.getElem?_zip_eq_some.mp h1
  obtain ⟨h4, h5⟩ := List.getElem?_zip_eq_some.mp h3
  exact ⟨p.1, p.2.1, p.2.2, h2, h4, h5, rfl⟩
theorem zip3D_length (ds es gs : List PyData) : (zip3D ds es gs).length = min ds.length (min es.length gs.length) := by unfold zip3D; simp
theorem walk_z3 {b1 b2 b3 : Bool} {p q r : Addr} {xs ys zs : List V} {ds es gs : List PyData} (h : RawB R0 b1 p xs) (h' : RawB R0 b2 q ys) (h'' : RawB R0 b3 r zs) (d : DrL K R0 ds xs) (d2 : DrL K R0 es ys) (d3 : DrL K R0 gs zs) : WalkD K (Hx.Itz3 K b1 b2 b3 p q r) (zip3D ds es gs) R0 := by
  intro i H f al e
  have hS : Hx.SqB K H b1 p xs := h.sq (e.trans (mn_ext H f))
  have hS' : Hx.SqB K H b2 q ys := h'.sq (e.trans (mn_ext H f))
  have hS'' : Hx.SqB K H b3 r zs := h''.sq (e.trans (mn_ext H f))
  refine ⟨fun d' hd => ?_, fun hl => ⟨xs, ys, zs, hS, hS', hS'', by rw [d.length, d2.length, d3.length]; rw [zip3D_length] at hl; exact hl⟩⟩
  obtain ⟨a, b, c, ha, hb, hc, rfl⟩ := zip3D_get hd
  obtain ⟨v, hv, hr⟩ := d.get ha
  obtain ⟨v2, hv2, hr2⟩ := d2.get hb
  obtain ⟨v3, hv3, hr3⟩ := d3.get hc
  refine ⟨⟨xs, ys, zs, v, v2, v3, hS, hS', hS'', hv, hv2, hv3⟩, fun x H' hy => ?_⟩
  obtain ⟨T, y, z, u, rfl, hT, rfl, q1, q2, q3⟩ := hy
  have := q1 xs hS
  rw [hv] at this; cases this
  have := q2 ys hS'
  rw [hv2] at this; cases this
  have := q3 zs hS''
  rw [hv3] at this; cases this
  exact ⟨Ext.new hT, trip_dr hT al (Dr.ext e hr) (Dr.ext e hr2) (Dr.ext e hr3)⟩
end
section
variable {K : PySem.W.Frag} {Γ Γ' : List Tr} {σ σ' : Sig} {H H' : Hp} {f f' pr : Fp}
theorem St0.grow (st : St0 K Γ σ H f pr) (e : Ext H H') : St0 K Γ σ H' f pr ∧ ∀ pr, Stp H f pr H' f := by
  obtain ⟨h1, h2, g, ga, hs, _, hl⟩ := st
  have s : ∀ pr, Stp H f pr H' f := fun pr => ⟨fun a o h h0 => ⟨e a o h, h0⟩, fun a o _ h => e a o h⟩
  exact ⟨⟨h1, fun a ha => let ⟨o, ho⟩ := h2 a ha; ⟨o, e a o ho⟩, g, fun _ => 0, hs.stp (s g) (fun _ => Nat.le_refl _), trivial, fun a => by have := hl a; show 0 + (g a + pr a) ≤ f a; omega⟩, s⟩
theorem RepS.agree : ∀ {Γ : List Tr} {σ σ' : Sig} {g : Fp}, RepS K H f Γ σ g → σ'.length = σ.length → (∀ (j : Nat) (x : Tr), Γ[j]? = some x → x ≠ Tr.gone → σ'[j]? = σ[j]?) → RepS K H f Γ σ' g
  | [], _, _, _, h, l, _ => by unfold RepS at h; subst h; unfold RepS; exact List.eq_nil_of_length_eq_zero l
  | x :: Γ, _, [], _, h, l, _ => by obtain ⟨o, r, g1, g2, rfl, _⟩ := h; cases l
  | x :: Γ, _, o' :: σ', _, h, l, q => by
    obtain ⟨o, r, g1, g2, rfl, h1, h2, h3⟩ := h
    refine ⟨o', σ', g1, g2, rfl, ?_, RepS.agree h2 (by simpa using l) fun j y e n => by simpa using q (j + 1) y (by simpa using e) n, h3⟩
    by_cases n : x = .gone
    · subst n; trivial
    · have := q 0 x rfl n
      simp only [List.getElem?_cons_zero, Option.some.injEq] at this
      rw [this]; exact h1
theorem wipeT_in {Γ : List Tr} {j : Nat} {x : Tr} : ∀ {own : List Nat}, j ∈ own → (wipeT Γ own)[j]? = some x → x = .gone
  | i :: is, h, e => by
    unfold wipeT at e
    by_cases hi : i = j
    · subst hi
      have hl : i < ((wipeT Γ is).set i .gone).length := (List.getElem?_eq_some_iff.mp e).1
      rw [List.getElem?_set_self (by simpa using hl)] at e
      cases e; rfl
    · rw [List.getElem?_set_ne hi] at e
      rcases List.mem_cons.mp h with z | h
      · exact absurd z.symm hi
      · exact wipeT_in h e
theorem RepS.drop {i : Nat} (h : RepS K H f Γ σ g) : RepS K H f (Γ.set i .gone) σ g := by
  cases e : Γ[i]? with
  | none =>
    have : Γ.set i .gone = Γ := List.set_eq_of_length_le (List.getElem?_eq_none_iff.mp e)
    rw [this]; exact h
  | some x =>
    obtain ⟨o, g1, g2, _, _, h3, h4⟩ := h.take e
    exact h3.mono fun a => by have := h4 a; omega
theorem RepS.wipeT (h : RepS K H f Γ σ g) : ∀ own : List Nat, RepS K H f (Hw.wipeT Γ own) σ g
  | [] => h
  | i :: is => by unfold Hw.wipeT; exact (RepS.wipeT h is).drop
theorem wipe_len (σ : Sig) (own : List Nat) : (wipe σ own).length = σ.length := wipe_length σ own
theorem wipe_at {σ : Sig} {j : Nat} : ∀ {own : List Nat}, j ∈ own → (wipe σ own)[j]? = if j < σ.length then some none else none
  | i :: is, h => by
    unfold wipe
    by_cases hi : i = j
    · subst hi
      by_cases hl : i < σ.length
      · rw [if_pos hl, List.getElem?_set_self (by rw [wipe_len]; exact hl)]
      · rw [if_neg hl]
        exact List.getElem?_eq_none (by rw [List.length_set, wipe_len]; omega)
    · rw [List.getElem?_set_ne hi]
      rcases List.mem_cons.mp h with z | h
      · exact absurd z.symm hi
      · exact wipe_at h
theorem wipe_out' {σ : Sig} {j : Nat} {own : List Nat} (h : j ∉ own) : (wipe σ own)[j]? = σ[j]? := wipe_out h
theorem wipe_eq {own : List Nat} (l : σ'.length = σ.length) (q : ∀ j, j ∉ own → σ'[j]? = σ[j]?) : wipe σ' own = wipe σ own := by
  refine List.ext_getElem? fun j => ?_
  by_cases h : j ∈ own
  · rw [wipe_at h, wipe_at h, l]
  · rw [wipe_out' h, wipe_out' h, q j h]
theorem RepS.own {own : List Nat} {g : Fp} (h : RepS K H f (Hw.wipeT Γ own) σ g) (l : σ'.length = σ.length) (q : ∀ j, j ∉ own → σ'[j]? = σ[j]?) : RepS K H f (Hw.wipeT Γ own) σ' g :=
  h.agree l fun j x e n => by
    by_cases hj : j ∈ own
    · exact absurd (wipeT_in hj e) n
    · exact q j hj
end
def gNames : List Nat → TGs
  | [] => gNil
  | i :: is => gCons (gName i) (gNames is)
def gTg (K : PySem.W.Frag) : CTg → TG
  | .nm i => gName i
  | .tp is => gTup K is.length (gNames is)
section
variable {K : PySem.W.Frag} {Γ Γ1 : List Tr} {σ : Sig} {H : Hp} {f pr : Fp}
theorem St0.store {d : PyData} {x : V} {i : Nat} (st : St0 K Γ σ H f pr) (dx : Dr K (mn H f) d x) : St0 K (Γ.set i (.c d)) (σ.set i (some x)) H f pr := by
  obtain ⟨h1, h2, g, ga, hs, _, hl⟩ := st
  refine ⟨h1, h2, _, fun _ => 0, RepS.store (g' := fun _ => 0) hs (.mk (by unfold Rep; exact dx)), trivial, fun a => by have := hl a; show 0 + (0 + g a + pr a) ≤ f a; omega⟩
theorem bindTp_ok : ∀ {is : List Nat} {ds : List PyData} {xs : List V} {Γ Γ1 : List Tr} {σ : Sig} {Q : Sig → Hp → Prop}, St0 K Γ σ H f pr → DrL K (mn H f) ds xs → bindTp Γ is ds = some Γ1 →
    (∀ σ1, St0 K Γ1 σ1 H f pr → σ1.length = σ.length → (∀ j, j ∉ is → σ1[j]? = σ[j]?) → Q σ1 H) → gNames is xs σ H Q
  | [], [], _, _, _, _, _, st, d, e, q => by
    unfold bindTp at e; cases e
    unfold DrL at d
    exact ⟨d, q _ st rfl fun _ _ => rfl⟩
  | [], _ :: _, _, _, _, _, _, _, _, e, _ => by unfold bindTp at e; cases e
  | _ :: _, [], _, _, _, _, _, _, _, e, _ => by unfold bindTp at e; cases e
  | i :: is, d :: ds, _, Γ, Γ1, σ, Q, st, hd, e, q => by
    unfold bindTp at e
    unfold DrL at hd
    obtain ⟨v, r, rfl, h1, h2⟩ := hd
    refine ⟨v, r, rfl, ?_⟩
    exact bindTp_ok (st.store h1) h2 e fun σ1 st1 l o => q σ1 st1 (by rw [l, List.length_set]) fun j hj => by
      simp only [List.mem_cons, not_or] at hj
      rw [o j hj.2, List.getElem?_set_ne (Ne.symm hj.1)]
theorem bind_ok {tg : CTg} {d : PyData} {x : V} {Q : Sig → Hp → Prop} (st : St0 K Γ σ H f pr) (dx : Dr K (mn H f) d x) (e : bindTg Γ tg d = some Γ1)
    (q : ∀ σ1, St0 K Γ1 σ1 H f pr → σ1.length = σ.length → (∀ j, j ∉ tg.slots → σ1[j]? = σ[j]?) → Q σ1 H) : gTg K tg x σ H Q := by
  cases tg with
  | nm i =>
    unfold bindTg at e; cases e
    exact q _ (st.store dx) (by rw [List.length_set]) fun j hj => by
      unfold CTg.slots at hj
      simp only [List.mem_singleton] at hj
      rw [List.getElem?_set_ne (Ne.symm hj)]
  | tp is =>
    cases d with
    | tuple ds =>
      simp only [bindTg] at e
      split at e
      · rename_i hl
        unfold Dr at dx
        obtain ⟨a, xs, rfl, h1, h2⟩ := dx
        exact ⟨a, xs, rfl, SqT.of (mn_ext _ _ _ _ h1), by rw [h2.length, hl], bindTp_ok st h2 e q⟩
      · cases e
    | none => unfold bindTg at e; cases e
    | bool b => unfold bindTg at e; cases e
    | int b => unfold bindTg at e; cases e
    | str b => unfold bindTg at e; cases e
    | list b => unfold bindTg at e; cases e
    | dict b => unfold bindTg at e; cases e
end
end Hw
set_option Elab.async false
set_option linter.all false
set_option maxRecDepth 100000
set_option maxHeartbeats 1000000
namespace Hw
open PySem PySem.Spec PyProof.Rows L2
def tI (R : RC) (it : CIt) : TI := fun σ H RR => ∃ Γ f pr, St0 R.K Γ σ H f pr ∧ match evIt R.F it Γ with
  | some (.ok ds Γ') => ∀ J H' f', Stp H f pr H' f' → St0 R.K Γ' σ H' f' pr → WalkD R.K J ds (mn H' f') → RR J H'
  | some (.ex x Γ') => ∀ C H' f', R.mg x = some (.ref C) → Stp H f pr H' f' → St0 R.K Γ' σ H' f' pr → R.W (.ref C) none σ H'
  | none => False
def tC (R : RC) : List CT → TT
  | [] => tYes
  | c :: _ => tT R c
def RC.quiet (R : RC) : RC := { R with W := fun _ _ _ _ => False }
section
variable {R : RC} {σ : Sig} {H : Hp} {Q : VK} {RR : It → Hp → Prop}
theorem St1.settleS {K : PySem.W.Frag} {Γ : List Tr} {f pr : Fp} {v : V} {t : Tr} {d : PyData} (h : St1 K Γ σ H f pr v t) (e : frz t = some d) : ∃ f', (∀ pr, Stp H f pr H f') ∧ St0 K Γ σ H f' pr ∧ Dr K (mn H f') d v := by
  obtain ⟨f', s, st, dr⟩ := StA.settle h e
  exact ⟨f', fun pr => ⟨s.1, fun _ _ _ e => e⟩, st, dr⟩
theorem sq_read {K : PySem.W.Frag} (hK : K = R.K) {a : CE} (h : tI R (.sq a) σ H RR) : iList K (tE R a) σ H RR ∨ iTup K (tE R a) σ H RR := by
  subst hK
  obtain ⟨Γ, f, pr, st, h⟩ := h
  simp only [evIt] at h
  cases q : ev R.F a Γ with
  | none => simp only [q] at h
  | some r =>
    cases r with
    | ex y Γ1 => simp only [q] at h; exact .inl ⟨Γ, f, pr, st, by simp only [q]; exact h⟩
    | ok t Γ1 =>
      simp only [q] at h
      have lst : ∀ ds, frz t = some (.list ds) → (∀ J H' f', Stp H f pr H' f' → St0 R.K Γ1 σ H' f' pr → WalkD R.K J ds (mn H' f') → RR J H') → iList R.K (tE R a) σ H RR := by
        intro ds e h
        refine ⟨Γ, f, pr, st, ?_⟩
        simp only [q]
        intro v H1 f1 s1 st1
        obtain ⟨f2, s2, st2, dr⟩ := St1.settleS st1 e
        unfold Dr at dr
        obtain ⟨p, xs, rfl, h1, h2⟩ := dr
        exact ⟨p, rfl, ⟨xs, SqL.of (mn_ext _ _ _ _ h1)⟩, h _ H1 f2 (s1.trans (s2 pr) fun _ => Nat.le_refl _) st2 (walk_l (SqL.of h1) h2)⟩
      have tup : ∀ ds, frz t = some (.tuple ds) → (∀ J H' f', Stp H f pr H' f' → St0 R.K Γ1 σ H' f' pr → WalkD R.K J ds (mn H' f') → RR J H') → iTup R.K (tE R a) σ H RR := by
        intro ds e h
        refine ⟨Γ, f, pr, st, ?_⟩
        simp only [q]
        intro v H1 f1 s1 st1
        obtain ⟨f2, s2, st2, dr⟩ := St1.settleS st1 e
        unfold Dr at dr
        obtain ⟨p, xs, rfl, h1, h2⟩ := dr
        exact ⟨p, rfl, ⟨xs, SqT.of (mn_ext _ _ _ _ h1)⟩, h _ H1 f2 (s1.trans (s2 pr) fun _ => Nat.le_refl _) st2 (walk_t h1 h2)⟩
      have gen : ∀ (t' : Tr), t = t' → (match frz t' with
          | some (.list ds) => some (IR.ok ds Γ1) | some (.tuple ds) => some (.ok ds Γ1) | _ => none : Option IR) = (match frz t with
          | some (.list ds) => some (IR.ok ds Γ1) | some (.tuple ds) => some (.ok ds Γ1) | _ => none : Option IR) := fun t' e => by rw [e]
      have fin : (match (match frz t with
          | some (.list ds) => some (IR.ok ds Γ1) | some (.tuple ds) => some (.ok ds Γ1) | _ => none : Option IR) with
          | some (.ok ds Γ') => ∀ J H' f', Stp H f pr H' f' → St0 R.K Γ' σ H' f' pr → WalkD R.K J ds (mn H' f') → RR J H'
          | some (.ex x Γ') => ∀ C H' f', R.mg x = some (.ref C) → Stp H f pr H' f' → St0 R.K Γ' σ H' f' pr → R.W (.ref C) none σ H'
          | none => False) → iList R.K (tE R a) σ H RR ∨ iTup R.K (tE R a) σ H RR := by
        intro h
        cases e : frz t with
        | none => simp only [e] at h
        | some d =>
          cases d with
          | list ds => simp only [e] at h; exact .inl (lst ds e h)
          | tuple ds => simp only [e] at h; exact .inr (tup ds e h)
          | none => simp only [e] at h
          | bool b => simp only [e] at h
          | int b => simp only [e] at h
          | str b => simp only [e] at h
          | dict b => simp only [e] at h
      cases t with
      | s ns =>
        simp only at h
        refine .inl ⟨Γ, f, pr, st, ?_⟩
        simp only [q]
        intro v H1 f1 s1 st1
        obtain ⟨_, _, _, ga, _, hg, _⟩ := id st1
        unfold Rep at hg
        obtain ⟨p, rfl, hp⟩ := hg
        exact ⟨p, rfl, ⟨_, (mn_ext H1 f1).sql hp⟩, h _ H1 f1 s1 st1.drop (walk_l hp script_dr)⟩
      | c d => exact fin h
      | l xs => exact fin h
      | t xs => exact fin h
      | gone => exact fin h
      | d _ => exact fin h
      | x _ => exact fin h
theorem rng1_read {a : CE} (h : tI R (.rng1 a) σ H RR) : iRng1 (tCons (tE R a) tNil) σ H RR := by
  obtain ⟨Γ, f, pr, st, h⟩ := h
  simp only [evIt] at h
  refine ⟨Γ, f, pr, st, ?_⟩
  cases q : ev R.F a Γ with
  | none => simp only [q] at h
  | some r =>
    cases r with
    | ex y Γ1 => simp only [q] at h; exact h
    | ok t Γ1 =>
      simp only [q] at h
      intro v H1 f1 s1 st1
      cases q1 : asInt t with
      | none => simp only [q1, Option.bind_none] at h
      | some j =>
        simp only [q1, Option.bind_some] at h
        by_cases hb : okR j = true
        · rw [if_pos hb] at h
          obtain ⟨_, _, _, ga, _, hg, _⟩ := id st1
          have hv := asInt_rep ⟨ga, hg⟩ q1
          subst hv
          refine ⟨j, rfl, (okR_62 hb).1, (okR_62 hb).2, h _ H1 f1 s1 st1.drop ?_⟩
          have := walk_r (K := R.K) (R0 := mn H1 f1) (a := 0) (b := j)
          rw [Int.sub_zero] at this
          exact this
        · rw [if_neg hb] at h; exact h.elim
theorem pair_of {K : PySem.W.Frag} {f : Fp} {ts : List Tr} {x y : V} (h : RepWs K H f ts [x, y]) : ∃ ta tb, ts = [ta, tb] ∧ RepW K H f ta x ∧ RepW K H f tb y := by
  cases ts with
  | nil => unfold RepWs at h; cases h
  | cons ta ts =>
    obtain ⟨v, w, h0, r1, r2⟩ := h
    cases h0
    cases ts with
    | nil => unfold RepWs at r2; cases r2
    | cons tb ts =>
      obtain ⟨v, w, h0, r3, r4⟩ := r2
      cases h0
      cases ts with
      | nil => exact ⟨ta, tb, rfl, r1, r3⟩
      | cons c ts => obtain ⟨v, w, h0, _⟩ := r4; cases h0
theorem rng2_read {as : List CA} (h : tI R (.rng2 as) σ H RR) : iRng2 (tAs R as) σ H RR := by
  obtain ⟨Γ, f, pr, st, h⟩ := h
  simp only [evIt] at h
  refine ⟨Γ, f, pr, st, ?_⟩
  cases q : evAs R.F as Γ with
  | none => simp only [q] at h
  | some r =>
    cases r with
    | ex y Γ1 => simp only [q] at h; exact h
    | ok avs Γ1 =>
      simp only [q] at h
      intro vs H1 f1 s1 st1
      obtain ⟨_, _, g, ga, hs, hg, _⟩ := id st1
      cases qr : resolves Γ1 avs with
      | none => simp only [qr] at h
      | some ts =>
        have rw2 := resolves_rep hs hg qr
        simp only [qr] at h
        match ts, rw2, h with
        | [ta, tb], rw2, h =>
          obtain ⟨x, y, rfl, ra, rb⟩ := rw2.two
          simp only at h
          cases q1 : asInt ta with
          | none => simp only [q1, Option.bind_none] at h
          | some i =>
            cases q2 : asInt tb with
            | none => simp only [q1, q2, Option.bind_some, Option.bind_none] at h
            | some j =>
              simp only [q1, q2, Option.bind_some] at h
              by_cases hb : okR i = true ∧ okR j = true
              · rw [if_pos hb] at h
                exact ⟨i, j, by rw [asInt_rep ra q1, asInt_rep rb q2], ⟨(okR_62 hb.1).1, (okR_62 hb.1).2, (okR_62 hb.2).1, (okR_62 hb.2).2⟩, h _ H1 f1 s1 st1.drop walk_r⟩
              · rw [if_neg hb] at h; exact h.elim
        | [], _, h => simp only at h
        | [_], _, h => simp only at h
        | _ :: _ :: _ :: _, _, h => simp only at h
theorem rg2_rgc {i j : Int} (hi : okR i = true) (hj : okR j = true) : RgC i j 2 ((j - i + 1) / 2).toNat := by
  have h1 := okR_le hi
  have h2 := okR_le hj
  have e : Builtin.Range.rangeSize i j 2 = (((j - i + 1) / 2).toNat : Int) := by
    unfold Builtin.Range.rangeSize
    rw [if_pos (by decide)]
    split <;> omega
  refine ⟨by decide, by decide, ?_, e⟩
  unfold Builtin.Range.small
  rw [e]
  simp only [Builtin.Range.rangeFitsLong, Bool.and_eq_true, Bool.or_eq_true, decide_eq_true_eq, beq_iff_eq, show ((2 : Int) > 0) by decide, if_true]
  omega
theorem rng3_read {as : List CA} (h : tI R (.rng3 as) σ H RR) : iRng3 (tAs R as) σ H RR := by
  obtain ⟨Γ, f, pr, st, h⟩ := h
  simp only [evIt] at h
  refine ⟨Γ, f, pr, st, ?_⟩
  cases q : evAs R.F as Γ with
  | none => simp only [q] at h
  | some r =>
    cases r with
    | ex y Γ1 => simp only [q] at h; exact h
    | ok avs Γ1 =>
      simp only [q] at h
      intro vs H1 f1 s1 st1
      obtain ⟨_, _, g, ga, hs, hg, _⟩ := id st1
      cases qr : resolves Γ1 avs with
      | none => simp only [qr] at h
      | some ts =>
        have rw2 := resolves_rep hs hg qr
        simp only [qr] at h
        match ts, rw2, h with
        | [ta, tb, tc], rw2, h =>
          obtain ⟨x, y, z, rfl, ra, rb, rc⟩ := rw2.three
          simp only at h
          cases q1 : asInt ta with
          | none => simp only [q1, Option.bind_none] at h
          | some i =>
            cases q2 : asInt tb with
            | none => simp only [q1, q2, Option.bind_some, Option.bind_none] at h
            | some j =>
              cases q3 : asInt tc with
              | none => simp only [q1, q2, q3, Option.bind_some, Option.bind_none] at h
              | some c =>
                simp only [q1, q2, q3, Option.bind_some] at h
                by_cases hb : okR i = true ∧ okR j = true ∧ c = 2
                · rw [if_pos hb] at h
                  obtain ⟨b1, b2, rfl⟩ := hb
                  exact ⟨i, j, 2, _, by rw [asInt_rep ra q1, asInt_rep rb q2, asInt_rep rc q3], rg2_rgc b1 b2, h _ H1 f1 s1 st1.drop walk_r2⟩
                · rw [if_neg hb] at h; exact h.elim
        | [], _, h => simp only at h
        | [_], _, h => simp only at h
        | [_, _], _, h => simp only at h
        | _ :: _ :: _ :: _ :: _, _, h => simp only at h
theorem enm_read {K : PySem.W.Frag} (hK : K = R.K) {a : CE} (h : tI R (.enm a) σ H RR) : (tE R a) σ H fun v H1 => (∃ p xs, v = .ref p ∧ SqL K H1 p xs ∧ RR (Ite K p) H1) ∨ ∃ p xs, v = .ref p ∧ SqT K H1 p xs ∧ RR (Hx.ItEt K p) H1 := by
  subst hK
  obtain ⟨Γ, f, pr, st, h⟩ := h
  simp only [evIt] at h
  refine ⟨Γ, f, pr, st, ?_⟩
  cases q : ev R.F a Γ with
  | none => simp only [q] at h
  | some r =>
    cases r with
    | ex y Γ1 => simp only [q] at h; exact h
    | ok t Γ1 =>
      simp only [q] at h
      intro v H1 f1 s1 st1
      cases e : frz t with
      | none => simp only [e] at h
      | some d =>
        obtain ⟨f2, s2, st2, dr⟩ := St1.settleS st1 e
        cases d with
        | list ds =>
          simp only [e] at h
          unfold Dr at dr
          obtain ⟨p, xs, rfl, h1, h2⟩ := dr
          exact .inl ⟨p, xs, rfl, SqL.of (mn_ext _ _ _ _ h1), h _ H1 f2 (s1.trans (s2 pr) fun _ => Nat.le_refl _) st2 (walk_e (SqL.of h1) h2)⟩
        | tuple ds =>
          simp only [e] at h
          unfold Dr at dr
          obtain ⟨p, xs, rfl, h1, h2⟩ := dr
          exact .inr ⟨p, xs, rfl, SqT.of (mn_ext _ _ _ _ h1), h _ H1 f2 (s1.trans (s2 pr) fun _ => Nat.le_refl _) st2 (walk_et h1 h2)⟩
        | none => simp only [e] at h
        | bool b => simp only [e] at h
        | int b => simp only [e] at h
        | str b => simp only [e] at h
        | dict b => simp only [e] at h
theorem zip_read {K : PySem.W.Frag} (hK : K = R.K) {as : List CA} (h : tI R (.zip as) σ H RR) : Hx.iZipB K (tAs R as) σ H RR := by
  subst hK
  obtain ⟨Γ, f, pr, st, h⟩ := h
  simp only [evIt] at h
  refine ⟨Γ, f, pr, st, ?_⟩
  cases q : evAs R.F as Γ with
  | none => simp only [q] at h
  | some r =>
    cases r with
    | ex y Γ1 => simp only [q] at h; exact h
    | ok avs Γ1 =>
      simp only [q] at h
      intro vs H1 f1 s1 st1
      cases qr : tmps avs with
      | none => simp only [qr] at h
      | some ts =>
        simp only [qr] at h
        match ts, qr, h with
        | [], _, h => simp only at h
        | [_], _, h => simp only at h
        | _ :: _ :: _ :: _, _, h => simp only at h
        | [ta, tb], qr, h =>
          simp only at h
          obtain ⟨ga, hg, st1'⟩ := st1.out
          have rl := tmps_rep hg qr
          unfold RepL at rl
          obtain ⟨x, r1, g1, g2, rfl, ra, rl, hl1⟩ := rl
          unfold RepL at rl
          obtain ⟨y, r2, g3, g4, rfl, rb, rl, hl2⟩ := rl
          unfold RepL at rl
          subst rl
          have key : ∀ {d e : PyData}, frz ta = some d → frz tb = some e → ∃ f2, Stp H1 f1 pr H1 f2 ∧ St0 R.K Γ1 σ H1 f2 pr ∧ Dr R.K (mn H1 f2) d x ∧ Dr R.K (mn H1 f2) e y := by
            intro d e ea eb
            have t1 : St1 R.K Γ1 σ H1 f1 (padd pr g3) x ta := by
              obtain ⟨h1, h2, g, _, hs, _, hl⟩ := st1'
              exact ⟨h1, h2, g, g1, hs, ra, fun a => by have := hl a; have := hl1 a; have := hl2 a; simp only [padd_at] at *; omega⟩
            obtain ⟨f2, s2, st2, d1⟩ := St1.settleS t1 ea
            have t2 : St1 R.K Γ1 σ H1 f2 pr y tb := st2.inn fun gb _ => (rb.stp (s2 g3) fun _ => Nat.le_refl _).mono (le_padd _ _)
            obtain ⟨f3, s3, st3, d2⟩ := St1.settleS t2 eb
            exact ⟨f3, (s2 pr).trans (s3 pr) fun _ => Nat.le_refl _, st3, Dr.ext (s3 pr).ext d1, d2⟩
          cases ea : frz ta with
          | none => simp only [ea] at h
          | some d =>
            cases eb : frz tb with
            | none =>
              simp only [ea, eb] at h
            | some e =>
              obtain ⟨f2, s2, st2, d1, d2⟩ := key ea eb
              simp only [ea, eb] at h
              cases sa : seqD d with
              | none => simp only [sa] at h
              | some xs =>
                cases sb : seqD e with
                | none => simp only [sa, sb] at h
                | some ys =>
                  simp only [sa, sb] at h
                  obtain ⟨b1, p, us, rfl, h1, k1⟩ := seqD_rep d1 sa
                  obtain ⟨b2, p2, ws, rfl, h2, k2⟩ := seqD_rep d2 sb
                  exact ⟨b1, b2, p, p2, us, ws, rfl, h1.sq (mn_ext _ _), h2.sq (mn_ext _ _), h _ H1 f2 (s1.trans s2 fun _ => Nat.le_refl _) st2 (walk_zB h1 h2 k1 k2)⟩
theorem zip3_read {K : PySem.W.Frag} (hK : K = R.K) {as : List CA} (h : tI R (.zip3 as) σ H RR) : Hx.iZip3 K (tAs R as) σ H RR := by
  subst hK
  obtain ⟨Γ, f, pr, st, h⟩ := h
  simp only [evIt] at h
  refine ⟨Γ, f, pr, st, ?_⟩
  cases q : evAs R.F as Γ with
  | none => simp only [q] at h
  | some r =>
    cases r with
    | ex y Γ1 => simp only [q] at h; exact h
    | ok avs Γ1 =>
      simp only [q] at h
      intro vs H1 f1 s1 st1
      cases qr : tmps avs with
      | none => simp only [qr] at h
      | some ts =>
        simp only [qr] at h
        match ts, qr, h with
        | [], _, h => simp only at h
        | [_], _, h => simp only at h
        | [_, _], _, h => simp only at h
        | _ :: _ :: _ :: _ :: _, _, h => simp only at h
        | [ta, tb, tc], qr, h =>
          simp only at h
          obtain ⟨ga, hg, st1'⟩ := st1.out
          have rl := tmps_rep hg qr
          unfold RepL at rl
          obtain ⟨x, r1, g1, g2, rfl, ra, rl, hl1⟩ := rl
          unfold RepL at rl
          obtain ⟨y, r2, g3, g4, rfl, rb, rl, hl2⟩ := rl
          unfold RepL at rl
          obtain ⟨z, r3, g5, g6, rfl, rc, rl, hl3⟩ := rl
          unfold RepL at rl
          subst rl
          have key : ∀ {d e g : PyData}, frz ta = some d → frz tb = some e → frz tc = some g → ∃ f2, Stp H1 f1 pr H1 f2 ∧ St0 R.K Γ1 σ H1 f2 pr ∧ Dr R.K (mn H1 f2) d x ∧ Dr R.K (mn H1 f2) e y ∧ Dr R.K (mn H1 f2) g z := by
            intro d e g0 ea eb ec
            have t1 : St1 R.K Γ1 σ H1 f1 (padd (padd pr g5) g3) x ta := by
              obtain ⟨h1, h2, g, _, hs, _, hl⟩ := st1'
              exact ⟨h1, h2, g, g1, hs, ra, fun a => by have := hl a; have := hl1 a; have := hl2 a; have := hl3 a; simp only [padd_at] at *; omega⟩
            obtain ⟨f2, s2, st2, d1⟩ := St1.settleS t1 ea
            have t2 : St1 R.K Γ1 σ H1 f2 (padd pr g5) y tb := st2.inn fun gb _ => (rb.stp (s2 g3) fun _ => Nat.le_refl _).mono (le_padd _ _)
            obtain ⟨f3, s3, st3, d2⟩ := St1.settleS t2 eb
            have t3 : St1 R.K Γ1 σ H1 f3 pr z tc := st3.inn fun gb _ => ((rc.stp (s2 g5) fun _ => Nat.le_refl _).stp (s3 g5) fun _ => Nat.le_refl _).mono (le_padd _ _)
            obtain ⟨f4, s4, st4, d3⟩ := St1.settleS t3 ec
            exact ⟨f4, ((s2 pr).trans (s3 pr) fun _ => Nat.le_refl _).trans (s4 pr) fun _ => Nat.le_refl _, st4, Dr.ext (s4 pr).ext (Dr.ext (s3 pr).ext d1), Dr.ext (s4 pr).ext d2, d3⟩
          cases ea : frz ta with
          | none => simp only [ea] at h
          | some d =>
            cases eb : frz tb with
            | none => simp only [ea, eb] at h
            | some e =>
              cases ec : frz tc with
              | none => simp only [ea, eb, ec] at h
              | some g =>
                obtain ⟨f2, s2, st2, d1, d2, d3⟩ := key ea eb ec
                simp only [ea, eb, ec] at h
                cases sa : seqD d with
                | none => simp only [sa] at h
                | some xs =>
                  cases sb : seqD e with
                  | none => simp only [sa, sb] at h
                  | some ys =>
                    cases sc : seqD g with
                    | none => simp only [sa, sb, sc] at h
                    | some zs =>
                      simp only [sa, sb, sc] at h
                      obtain ⟨b1, p, us, rfl, h1, k1⟩ := seqD_rep d1 sa
                      obtain ⟨b2, p2, ws, rfl, h2, k2⟩ := seqD_rep d2 sb
                      obtain ⟨b3, p3, ls, rfl, h3, k3⟩ := seqD_rep d3 sc
                      exact ⟨b1, b2, b3, p, p2, p3, us, ws, ls, rfl, h1.sq (mn_ext _ _), h2.sq (mn_ext _ _), h3.sq (mn_ext _ _), h _ H1 f2 (s1.trans s2 fun _ => Nat.le_refl _) st2 (walk_z3 h1 h2 h3 k1 k2 k3)⟩
end
end Hw
set_option Elab.async false
set_option linter.all false
set_option maxRecDepth 100000
set_option maxHeartbeats 1000000
namespace Hw
open PySem PySem.Spec PyProof.Rows L2
section
variable {R : RC} {σ : Sig} {H : Hp} {Q : VK}
theorem stp_write {K : PySem.W.Frag} {f : Fp} {D : Addr} {o : HO} (hD : 1 ≤ f D) (g : Fp) (hg : g D = 0) : Stp H f g (upd H D o) f := by
  refine ⟨fun a u e e0 => ?_, fun a u e1 e => ?_⟩
  · have : a ≠ D := fun z => by subst z; omega
    exact ⟨by rw [upd_ne this]; exact e, e0⟩
  · have : a ≠ D := fun z => by subst z; omega
    rw [upd_ne this]; exact e
theorem RepL.append {K : PySem.W.Frag} {f : Fp} {t : Tr} {v : V} {g2 : Fp} : ∀ {ts : List Tr} {vs : List V} {g1 : Fp}, RepL K H f ts vs g1 → Rep K H f t v g2 → RepL K H f (ts ++ [t]) (vs ++ [v]) (padd g1 g2)
  | [], vs, g1, h, r => by
    unfold RepL at h; subst h
    show RepL K H f [t] [v] _
    unfold RepL
    refine ⟨v, [], g2, zfp, rfl, r, by unfold RepL; rfl, fun a => ?_⟩
    rw [padd_at]; show g2 a + 0 ≤ _; omega
  | x :: ts, vs, g1, h, r => by
    unfold RepL at h
    obtain ⟨w, r', h1, h2, rfl, k1, k2, k3⟩ := h
    show RepL K H f (x :: (ts ++ [t])) (w :: (r' ++ [v])) _
    unfold RepL
    refine ⟨w, _, h1, padd h2 g2, rfl, k1, RepL.append k2 r, fun a => ?_⟩
    have := k3 a
    simp only [padd_at]; omega
def EPost (R : RC) (σ : Sig) (H : Hp) (f pr : Fp) (Q : VK) : Option ER → Prop
  | some (.ok t Γ') => ∀ v H' f', Stp H f pr H' f' → St1 R.K Γ' σ H' f' pr v t → Q v H'
  | some (.ex x Γ') => ∀ C H' f', R.mg x = some (.ref C) → Stp H f pr H' f' → St0 R.K Γ' σ H' f' pr → R.W (.ref C) none σ H'
  | none => False
theorem tE_of {c : CE} {Γ : List Tr} {f pr : Fp} (st : St0 R.K Γ σ H f pr) (h : EPost R σ H f pr Q (ev R.F c Γ)) : tE R c σ H Q := by
  refine ⟨Γ, f, pr, st, ?_⟩
  cases q : ev R.F c Γ with
  | none => rw [q] at h; exact h
  | some r => cases r <;> (rw [q] at h; exact h)
theorem of_tE {c : CE} (h : tE R c σ H Q) : ∃ Γ f pr, St0 R.K Γ σ H f pr ∧ EPost R σ H f pr Q (ev R.F c Γ) := by
  obtain ⟨Γ, f, pr, st, h⟩ := h
  refine ⟨Γ, f, pr, st, ?_⟩
  cases q : ev R.F c Γ with
  | none => simp only [q] at h
  | some r => cases r <;> (simp only [q] at h; exact h)
theorem St0.wipeT {K : PySem.W.Frag} {Γ : List Tr} {f pr : Fp} (st : St0 K Γ σ H f pr) (own : List Nat) : St0 K (Hw.wipeT Γ own) σ H f pr := by
  obtain ⟨h1, h2, g, ga, hs, _, hl⟩ := st
  exact ⟨h1, h2, g, ga, hs.wipeT own, trivial, hl⟩
theorem St0.own {K : PySem.W.Frag} {Γ : List Tr} {f pr : Fp} {own : List Nat} {σ' : Sig} (st : St0 K (Hw.wipeT Γ own) σ H f pr) (l : σ'.length = σ.length) (q : ∀ j, j ∉ own → σ'[j]? = σ[j]?) : St0 K (Hw.wipeT Γ own) σ' H f pr := by
  obtain ⟨h1, h2, g, ga, hs, _, hl⟩ := st
  exact ⟨h1, h2, g, ga, hs.own l q, trivial, hl⟩
theorem lc_read {own : List Nat} {tg : CTg} {it : CIt} {cond : List CT} {elt : CE} (hsub : ∀ j ∈ tg.slots, j ∈ own) (h : tE R (.lc own tg it cond elt) σ H Q) :
    tLc (tI R it) (gTg R.K tg) (tC R.quiet cond) (tE R.quiet elt) own σ H Q := by
  obtain ⟨Γ, f, pr, st, h⟩ := of_tE h
  refine ⟨Γ, f, pr, st, ?_⟩
  simp only [ev] at h
  cases q : evIt R.F it Γ with
  | none => simp only [q] at h; exact h
  | some r =>
    cases r with
    | ex y Γ1 => simp only [q] at h; exact h
    | ok ds Γ1 =>
      simp only [q] at h
      intro J H1 f1 s1 st1 wk D hD
      have lay := StA.laid (p := D) (o := .lst []) (G' := fun ga => ∀ a, one D a ≤ ga a) st1 hD (one D) (fun a => Nat.le_refl _) (fun ga _ _ => le_padd' _ _)
      obtain ⟨ga0, hga0, st2⟩ := lay.1.out
      have st3 : St0 R.K (Hw.wipeT Γ1 own) σ (upd H1 D (.lst [])) (padd f1 (one D)) (padd (padd pr (one D)) zfp) :=
        (st2.wipeT own).less fun a => by have := hga0 a; simp only [padd_at]; show pr a + one D a + 0 ≤ _; omega
      refine ⟨fun i m Hc => m = ds.length - i ∧ i ≤ ds.length ∧ ∃ Γ0 fc acc accV ga, Stp H f pr Hc fc ∧ Ext (mn H1 f1) (mn Hc fc) ∧ St0 R.K (Hw.wipeT Γ0 own) σ Hc fc (padd (padd pr (one D)) ga) ∧ Hc D = some (.lst accV) ∧ RepL R.K Hc fc acc accV ga ∧
        EPost R σ H f pr Q (lcL (fun _ Γ => ev R.F elt Γ) (fun Γ => evC R.F cond Γ) own (fun Γ d => bindTg Γ tg d) (ds.drop i) (Hw.wipeT Γ0 own) acc),
        ⟨ds.length, by simp, Nat.zero_le _, Γ1, padd f1 (one D), [], [], zfp, s1.trans lay.2 (fun _ => Nat.le_refl _), lay.2.ext, st3, upd_same, by unfold RepL; rfl, by simpa using h⟩, ?_⟩
      rintro i m Hc ⟨rfl, hi, Γ0, fc, acc, accV, ga, sc, xc, stc, hDc, rl, hp⟩
      have W := wk i Hc fc stc.alc xc
      have fD : 1 ≤ fc D := by
        obtain ⟨_, _, g, _, _, _, hl⟩ := id stc
        have := hl D
        simp only [padd_at, one_self] at this
        omega
      by_cases hlt : i < ds.length
      · -- a turn
        right
        have hd : ds.drop i = ds[i] :: ds.drop (i + 1) := List.drop_eq_getElem_cons hlt
        rw [hd] at hp
        obtain ⟨go, yl⟩ := W.1 ds[i] (List.getElem?_eq_getElem hlt)
        refine ⟨go, fun H' => ∃ Γ0 fc acc accV ga, Stp H f pr H' fc ∧ Ext (mn H1 f1) (mn H' fc) ∧ St0 R.K (Hw.wipeT Γ0 own) σ H' fc (padd (padd pr (one D)) ga) ∧ H' D = some (.lst accV) ∧ RepL R.K H' fc acc accV ga ∧
          EPost R σ H f pr Q (lcL (fun _ Γ => ev R.F elt Γ) (fun Γ => evC R.F cond Γ) own (fun Γ d => bindTg Γ tg d) (ds.drop (i + 1)) (Hw.wipeT Γ0 own) acc),
          fun H' hN => ⟨ds.length - (i + 1), by omega, rfl, hlt, hN⟩, fun x H' hy => ?_⟩
        obtain ⟨xe, dx⟩ := yl x H' hy
        obtain ⟨stg, sg⟩ := stc.grow xe
        have stw : St0 R.K (Hw.wipeT Γ0 own) (wipe σ own) H' fc (padd (padd pr (one D)) ga) := stg.own (wipe_len σ own) fun j hj => wipe_out' hj
        simp only [lcL] at hp
        cases qb : bindTg (Hw.wipeT Γ0 own) tg ds[i] with
        | none => simp only [qb] at hp; exact hp.elim
        | some Γb =>
          simp only [qb] at hp
          refine bind_ok stw dx qb fun σ2 stb l2 o2 => ?_
          have ow : ∀ j, j ∉ own → σ2[j]? = σ[j]? := fun j hj => by rw [o2 j fun z => hj (hsub j z), wipe_out' hj]
          have lw : σ2.length = σ.length := by rw [l2, wipe_len]
          refine ⟨wipe_eq lw ow, ?_⟩
          -- back among the slots of the def
          have home : ∀ {Γ3 : List Tr} {H3 : Hp} {f3 p3 : Fp}, St0 R.K Γ3 σ2 H3 f3 p3 → St0 R.K (Hw.wipeT Γ3 own) σ H3 f3 p3 := fun st => (st.wipeT own).own lw.symm fun j hj => (ow j hj).symm
          have goOn : ∀ {Γ2 : List Tr} {b : Bool} {H3 : Hp} {f3 : Fp}, evC R.F cond Γb = some (.ok b Γ2) → Stp H' fc (padd (padd pr (one D)) ga) H3 f3 → St0 R.K Γ2 σ2 H3 f3 (padd (padd pr (one D)) ga) →
              if b = true then tE R.quiet elt σ2 H3 fun y H4 => ∃ acc, H4 D = some (.lst acc) ∧ acc.length < sizeLine ∧ (∃ Γ0 fc acc2 accV ga, Stp H f pr (upd H4 D (.lst (acc ++ [y]))) fc ∧ Ext (mn H1 f1) (mn (upd H4 D (.lst (acc ++ [y]))) fc) ∧ St0 R.K (Hw.wipeT Γ0 own) σ (upd H4 D (.lst (acc ++ [y]))) fc (padd (padd pr (one D)) ga) ∧ (upd H4 D (.lst (acc ++ [y]))) D = some (.lst accV) ∧ RepL R.K (upd H4 D (.lst (acc ++ [y]))) fc acc2 accV ga ∧
                EPost R σ H f pr Q (lcL (fun _ Γ => ev R.F elt Γ) (fun Γ => evC R.F cond Γ) own (fun Γ d => bindTg Γ tg d) (ds.drop (i + 1)) (Hw.wipeT Γ0 own) acc2))
              else ∃ Γ0 fc acc accV ga, Stp H f pr H3 fc ∧ Ext (mn H1 f1) (mn H3 fc) ∧ St0 R.K (Hw.wipeT Γ0 own) σ H3 fc (padd (padd pr (one D)) ga) ∧ H3 D = some (.lst accV) ∧ RepL R.K H3 fc acc accV ga ∧
                EPost R σ H f pr Q (lcL (fun _ Γ => ev R.F elt Γ) (fun Γ => evC R.F cond Γ) own (fun Γ d => bindTg Γ tg d) (ds.drop (i + 1)) (Hw.wipeT Γ0 own) acc) := by
            intro Γ2 b H3 f3 qc s3 st3
            have sAll : Stp Hc fc (padd (padd pr (one D)) ga) H3 f3 := (sg _).trans s3 fun _ => Nat.le_refl _
            have lpr : ∀ a, pr a ≤ padd (padd pr (one D)) ga a := fun a => by simp only [padd_at]; omega
            have lD : ∀ a, one D a ≤ padd (padd pr (one D)) ga a := fun a => by simp only [padd_at]; omega
            have lga : ∀ a, ga a ≤ padd (padd pr (one D)) ga a := fun a => by simp only [padd_at]; omega
            have hD3 : H3 D = some (.lst accV) := sAll.2 D _ (by have := lD D; rw [one_self] at this; exact this) hDc
            have rl3 := rl.stp sAll lga
            cases b with
            | false =>
              rw [if_neg Bool.false_ne_true]
              simp only [qc] at hp
              exact ⟨Γ2, f3, acc, accV, ga, sc.trans sAll lpr, xc.trans sAll.ext, home st3, hD3, rl3, hp⟩
            | true =>
              rw [if_pos rfl]
              simp only [qc] at hp
              refine tE_of (Γ := Γ2) (f := f3) (pr := padd (padd pr (one D)) ga) st3 ?_
              cases qe : ev R.F elt Γ2 with
              | none => simp only [qe] at hp; exact hp.elim
              | some r =>
                cases r with
                | ex z Γ3 => simp only [qe] at hp; exact hp.elim
                | ok t Γ3 =>
                  simp only [qe] at hp
                  have qe' : ev R.quiet.F elt Γ2 = some (.ok t Γ3) := qe
                  rw [qe']
                  intro y H4 f4 s4 st4
                  by_cases hlen : acc.length < sizeLine
                  · rw [if_pos hlen] at hp
                    have sB : Stp Hc fc (padd (padd pr (one D)) ga) H4 f4 := sAll.trans s4 fun _ => Nat.le_refl _
                    have hD4 : H4 D = some (.lst accV) := s4.2 D _ (by have := lD D; rw [one_self] at this; exact this) hD3
                    have rl4 := rl3.stp s4 lga
                    have st4' := st4
                    obtain ⟨gt, hgt, st5⟩ := st4'.out
                    have rt : Rep R.K H4 f4 t y gt := hgt
                    obtain ⟨h1, h2, g5, _, hs5, _, hl5⟩ := id st5
                    have total : ∀ a, g5 a + (pr a + one D a + ga a + gt a) ≤ f4 a := fun a => by have := hl5 a; simp only [padd_at] at this; omega
                    have fD4 : 1 ≤ f4 D := by have := total D; rw [one_self] at this; omega
                    have zD : g5 D = 0 ∧ ga D = 0 ∧ gt D = 0 := by have := total D; have := h1 D; rw [one_self] at *; omega
                    refine ⟨accV, hD4, by rw [rl4.length]; exact hlen, Γ3, f4, acc ++ [t], accV ++ [y], padd ga gt, ?_, ?_, ?_, upd_same, ?_, hp⟩
                    · have w1 : Stp H4 f4 zfp (upd H4 D (.lst (accV ++ [y]))) f4 := stp_write (K := R.K) fD4 zfp rfl
                      refine ⟨fun a o e e0 => ?_, fun a o e1 e => ?_⟩
                      · obtain ⟨k1, k2⟩ := (sc.trans sB lpr).1 a o e e0
                        exact w1.1 a o k1 k2
                      · have k1 := (sc.trans sB lpr).2 a o e1 e
                        have : a ≠ D := fun z => by subst z; have := total a; have := h1 a; rw [one_self] at *; omega
                        rw [upd_ne this]; exact k1
                    · exact (xc.trans sB.ext).trans (stp_write (K := R.K) (o := .lst (accV ++ [y])) fD4 zfp rfl).ext
                    · have hs6 := hs5.stp (stp_write (K := R.K) (o := .lst (accV ++ [y])) fD4 g5 zD.1) (fun _ => Nat.le_refl _)
                      refine home ⟨h1, fun a ha => ?_, g5, fun _ => 0, hs6, trivial, fun a => by have := total a; simp only [padd_at]; omega⟩
                      by_cases z : a = D
                      · subst z; exact ⟨_, upd_same⟩
                      · obtain ⟨o, ho⟩ := h2 a ha
                        exact ⟨o, by rw [upd_ne z]; exact ho⟩
                    · exact (rl4.stp (stp_write (K := R.K) (o := .lst (accV ++ [y])) fD4 ga zD.2.1) (fun _ => Nat.le_refl _)).append (rt.stp (stp_write (K := R.K) (o := .lst (accV ++ [y])) fD4 gt zD.2.2) (fun _ => Nat.le_refl _))
                  · rw [if_neg hlen] at hp; exact hp.elim
          cases cond with
          | nil => exact goOn rfl Stp.refl stb
          | cons c cs =>
            refine ⟨Γb, fc, padd (padd pr (one D)) ga, stb, ?_⟩
            have ec : evC R.F (c :: cs) Γb = evT R.F c Γb := by rw [evC]
            cases qt : evT R.F c Γb with
            | none => rw [ec, qt] at hp; exact hp.elim
            | some r =>
              cases r with
              | ex z Γ2 => rw [ec, qt] at hp; exact hp.elim
              | ok b Γ2 =>
                have qt' : evT R.quiet.F c Γb = some (.ok b Γ2) := qt
                rw [qt']
                exact fun H3 f3 s3 st3 => goOn (by rw [ec, qt]) s3 st3
      · -- the end
        left
        have e : i = ds.length := by omega
        subst e
        refine ⟨W.2 rfl, ?_⟩
        rw [List.drop_length] at hp
        simp only [lcL] at hp
        refine hp (.ref D) Hc fc sc ?_
        obtain ⟨h1, h2, g, _, hs, _, hl⟩ := stc
        refine ⟨h1, h2, g, padd (one D) ga, hs, ?_, fun a => by have := hl a; simp only [padd_at] at *; omega⟩
        unfold Rep
        exact ⟨D, accV, ga, rfl, hDc, rl, fun a => by rw [padd_at]; exact Nat.le_refl _⟩
end
end Hw
set_option Elab.async false
set_option linter.all false
set_option maxRecDepth 100000
set_option maxHeartbeats 1000000
namespace Hw
open PySem PySem.Spec PyProof.Rows L2
section
variable {R : RC} {σ : Sig} {H : Hp} {Q : VK}
def pthK (R : RC) : List CE → V → Sig → Hp → VK → Prop
  | [], x, _, H, Q => Q x H
  | e :: es, x, σ, H, Q => tE R e σ H fun y H1 => rIx R.K x y H1 fun z H2 => pthK R es z σ H2 Q
def tPth (R : RC) : TE → List CE → TE
  | t, [] => t
  | t, e :: es => tPth R (tOp (rIx R.K) t (tE R e)) es
theorem tPth_eq : ∀ {es : List CE} {t : TE}, tPth R t es σ H Q = t σ H fun x H1 => pthK R es x σ H1 Q
  | [], t => rfl
  | e :: es, t => by
    show tPth R (tOp (rIx R.K) t (tE R e)) es σ H Q = _
    rw [tPth_eq]; rfl
theorem EPost.after {Γ : List Tr} {f pr pr' : Fp} {H1 : Hp} {f1 : Fp} (s : Stp H f pr H1 f1) {r : Option ER} (h : EPost R σ H f pr Q r) : EPost R σ H1 f1 pr Q r := by
  cases r with
  | none => exact h
  | some r =>
    cases r with
    | ok t Γ' => exact fun v H' f' s2 st => h v H' f' (s.trans s2 fun _ => Nat.le_refl _) st
    | ex x Γ' => exact fun C H' f' hm s2 st => h C H' f' hm (s.trans s2 fun _ => Nat.le_refl _) st
theorem kid_rep {K : PySem.W.Frag} {f : Fp} {d d' : PyData} {k : Int} {x : V} (h : Dr K (mn H f) d x) (e : kidD d k = some d') {Q : VK} (q : ∀ z, Dr K (mn H f) d' z → Q z H) : rIx K x (.int k) H Q := by
  cases d with
  | list ds =>
    unfold kidD at e
    unfold Dr at h
    obtain ⟨p, xs, rfl, h1, h2⟩ := h
    obtain ⟨v, e4, d2⟩ := atI_rep h2 e
    exact .inl ⟨p, xs, k, v, rfl, rfl, SqL.of (mn_ext _ _ _ _ h1), e4, q _ d2⟩
  | tuple ds =>
    unfold kidD at e
    unfold Dr at h
    obtain ⟨p, xs, rfl, h1, h2⟩ := h
    obtain ⟨v, e4, d2⟩ := atI_rep h2 e
    exact .inr (.inl ⟨p, xs, k, v, rfl, rfl, SqT.of (mn_ext _ _ _ _ h1), e4, q _ d2⟩)
  | none => unfold kidD at e; cases e
  | bool b => unfold kidD at e; cases e
  | int b => unfold kidD at e; cases e
  | str b => unfold kidD at e; cases e
  | dict b => unfold kidD at e; cases e
theorem RepL.get {K : PySem.W.Frag} {f : Fp} : ∀ {ts : List Tr} {vs : List V} {g : Fp} {i : Nat} {t : Tr}, RepL K H f ts vs g → ts[i]? = some t → ∃ v g', vs[i]? = some v ∧ Rep K H f t v g' ∧ ∀ a, g' a ≤ g a
  | [], _, _, _, _, _, e => by simp at e
  | x :: ts, _, _, 0, _, h, e => by
    unfold RepL at h
    obtain ⟨v, r, g1, g2, rfl, h1, h2, h3⟩ := h
    simp at e; subst e
    exact ⟨v, g1, rfl, h1, fun a => by have := h3 a; omega⟩
  | x :: ts, _, _, i + 1, _, h, e => by
    unfold RepL at h
    obtain ⟨v, r, g1, g2, rfl, h1, h2, h3⟩ := h
    obtain ⟨w, g', e1, r1, l1⟩ := RepL.get (i := i) h2 (by simpa using e)
    exact ⟨w, g', by simpa using e1, r1, fun a => by have := h3 a; have := l1 a; omega⟩
theorem atI_repL {K : PySem.W.Frag} {f : Fp} {ts : List Tr} {vs : List V} {g : Fp} {k : Int} {t : Tr} (h : RepL K H f ts vs g) (e : atI ts k = some t) : ∃ v g', atI vs k = some v ∧ Rep K H f t v g' ∧ ∀ a, g' a ≤ g a := by
  unfold atI at e ⊢
  rw [h.length]
  cases q : ixN ts.length k with
  | none => rw [q] at e; cases e
  | some j => rw [q] at e; exact h.get e
theorem kidT_rep {K : PySem.W.Frag} {f g : Fp} {t t' : Tr} {k : Int} {x : V} (h : Rep K H f t x g) (e : kidT t k = some t') {Q : VK} (q : ∀ z g', Rep K H f t' z g' → (∀ a, g' a ≤ g a) → Q z H) : rIx K x (.int k) H Q := by
  cases t with
  | l xs =>
    unfold kidT at e
    unfold Rep at h
    obtain ⟨p, vs, g0, rfl, hp, rl, l0⟩ := h
    obtain ⟨z, g', e1, rz, lz⟩ := atI_repL rl e
    exact .inl ⟨p, vs, k, z, rfl, rfl, SqL.of hp, e1, q z g' rz fun a => by have := l0 a; have := lz a; omega⟩
  | t xs =>
    unfold kidT at e
    unfold Rep at h
    obtain ⟨p, vs, rfl, hp, rl⟩ := h
    obtain ⟨z, g', e1, rz, lz⟩ := atI_repL rl e
    exact .inr (.inl ⟨p, vs, k, z, rfl, rfl, SqT.of (mn_ext _ _ _ _ hp), e1, q z g' rz lz⟩)
  | c d =>
    unfold kidT at e
    obtain ⟨d', e1, rfl⟩ := Option.map_eq_some_iff.mp e
    unfold Rep at h
    exact kid_rep h e1 fun z dz => q z (fun _ => 0) (by unfold Rep; exact dz) fun _ => Nat.zero_le _
  | s ns =>
    unfold kidT at e
    obtain ⟨n, e1, rfl⟩ := Option.map_eq_some_iff.mp e
    unfold Rep at h
    obtain ⟨p, rfl, hp⟩ := h
    exact .inl ⟨p, _, k, .int n, rfl, rfl, (mn_ext H f).sql hp, by rw [atI_map, e1]; rfl, q _ (fun _ => 0) (by unfold iT Rep Dr; rfl) fun _ => Nat.zero_le _⟩
  | gone => unfold kidT at e; cases e
  | d _ => unfold kidT at e; cases e
  | x _ => unfold kidT at e; cases e
theorem stl_any {K : PySem.W.Frag} {f g g' : Fp} {t : Tr} {x : V} (h : Rep K H f t x g) (e : isStl t = true) : Rep K H f t x g' := by
  cases t <;> first | (unfold isStl at e; cases e; done) | (unfold Rep at h ⊢; exact h)
theorem pt_read : ∀ {es : List CE} {t : Tr} {Γ : List Tr} {f pr g : Fp} {H : Hp} {x : V}, St0 R.K Γ σ H f pr → Rep R.K H f t x g → (∀ a, g a ≤ pr a) → EPost R σ H f pr Q (evPt R.F t es Γ) → pthK R es x σ H Q
  | [], t, Γ, f, pr, g, H, x, st, rx, lg, h => by
    simp only [evPt] at h
    by_cases s : isStl t = true
    · rw [if_pos s] at h
      obtain ⟨h1, h2, g0, ga, hs, _, hl⟩ := id st
      exact h x H f Stp.refl ⟨h1, h2, g0, fun _ => 0, hs, stl_any rx s, fun a => by have := hl a; show 0 + (g0 a + pr a) ≤ f a; omega⟩
    · rw [if_neg s] at h; exact h.elim
  | e :: es, t, Γ, f, pr, g, H, x, st, rx, lg, h => by
    simp only [evPt] at h
    refine tE_of st ?_
    cases q : ev R.F e Γ with
    | none => simp only [q] at h; exact h
    | some r =>
      cases r with
      | ex y Γ1 => simp only [q] at h; exact h
      | ok te Γ1 =>
        simp only [q] at h
        intro y H1 f1 s1 st1
        cases q1 : asInt te with
        | none => simp only [q1] at h; exact h.elim
        | some k =>
          simp only [q1] at h
          cases q2 : kidT t k with
          | none => simp only [q2] at h; exact h.elim
          | some t' =>
            simp only [q2] at h
            obtain ⟨_, _, _, ga, _, hg, _⟩ := id st1
            have hv := asInt_rep ⟨ga, hg⟩ q1
            subst hv
            exact kidT_rep (rx.stp s1 lg) q2 fun z g' rz lz => pt_read st1.drop rz (fun a => Nat.le_trans (lz a) (lg a)) (h.after (Γ := Γ) (pr' := pr) s1)
theorem St0.takeOut {K : PySem.W.Frag} {Γ : List Tr} {f pr : Fp} {i : Nat} {t : Tr} (st : St0 K Γ σ H f pr) (e : Γ[i]? = some t) (n : t ≠ .gone) : ∃ v g, σ[i]? = some (some v) ∧ Rep K H f t v g ∧ St0 K (Γ.set i .gone) σ H f (padd pr g) := by
  obtain ⟨h1, h2, g, ga, hs, _, hl⟩ := st
  obtain ⟨o, g1, g2, eo, ro, rs, hgl⟩ := hs.take e
  obtain ⟨v, rfl, r⟩ := ro.get n
  exact ⟨v, g1, eo, r, h1, h2, g2, fun _ => 0, rs, trivial, fun a => by have := hl a; have := hgl a; simp only [padd_at]; show 0 + (g2 a + (pr a + g1 a)) ≤ f a; omega⟩
theorem StA.putBack {K : PySem.W.Frag} {Γ : List Tr} {f pr g : Fp} {G : Fp → Prop} {i : Nat} {t : Tr} {v : V} (st : StA K Γ σ H f (padd pr g) G) (e : Γ[i]? = some .gone) (ev : σ[i]? = some (some v)) (r : Rep K H f t v g) : StA K (Γ.set i t) σ H f pr G := by
  obtain ⟨h1, h2, g2, ga, hs, hg, hl⟩ := st
  exact ⟨h1, h2, _, ga, RepS.put hs e ev (.mk r), hg, fun a => by have := hl a; simp only [padd_at] at this; omega⟩
theorem path_read {i : Nat} {es : List CE} (h : tE R (.pth i es) σ H Q) : tPth R (tVar i) es σ H Q := by
  rw [tPth_eq]
  obtain ⟨Γ, f, pr, st, h⟩ := of_tE h
  simp only [ev] at h
  cases es with
  | nil => simp only [evP] at h; exact h.elim
  | cons e es =>
    simp only [evP] at h
    by_cases ok : slotOk Γ i = true
    case neg => rw [if_neg ok] at h; exact h.elim
    rw [if_pos ok] at h
    obtain ⟨x0, e0, n0⟩ := slotOk_get ok
    obtain ⟨v0, g00, hv0, _, _⟩ := st.takeOut e0 n0
    -- the value in the slot, known behind the first index
    have main : ∀ v, σ[i]? = some (some v) → pthK R (e :: es) v σ H Q := by
      intro v hv
      refine tE_of st ?_
      cases q : ev R.F e Γ with
      | none => simp only [q] at h; exact h
      | some r =>
        cases r with
        | ex y Γ1 => simp only [q] at h; exact h
        | ok te Γ1 =>
          simp only [q] at h
          intro y H1 f1 s1 st1
          cases q1 : asInt te with
          | none => simp only [q1] at h; exact h.elim
          | some k =>
            cases q3 : Γ1[i]? with
            | none => simp only [q1, q3] at h; exact h.elim
            | some t =>
              simp only [q1, q3] at h
              cases q2 : kidT t k with
              | none => simp only [q2] at h; exact h.elim
              | some t' =>
                simp only [q2] at h
                obtain ⟨_, _, _, ga, _, hg, _⟩ := id st1
                have hy := asInt_rep ⟨ga, hg⟩ q1
                subst hy
                have n : t ≠ .gone := fun z => by subst z; unfold kidT at q2; cases q2
                obtain ⟨w, g, ew, rw', sto⟩ := st1.drop.takeOut q3 n
                rw [hv] at ew; cases ew
                have h := h.after (Γ := Γ) (pr' := pr) s1
                refine kidT_rep rw' q2 fun z g' rz lz => ?_
                by_cases s : isStl t' = true
                · rw [if_pos s] at h
                  exact pt_read st1.drop (stl_any (g' := fun _ => 0) rz s) (fun _ => Nat.zero_le _) h
                · rw [if_neg s] at h
                  refine pt_read sto rz (fun a => Nat.le_trans (lz a) (le_padd' _ _ a)) ?_
                  cases q5 : evPt R.F t' es (Γ1.set i .gone) with
                  | none => rw [q5] at h; simp only [putIn] at h; exact h.elim
                  | some r5 =>
                    cases r5 with
                    | ex y2 Γ2 => rw [q5] at h; simp only [putIn] at h; exact h.elim
                    | ok r6 Γ2 =>
                      rw [q5] at h
                      simp only [putIn] at h
                      intro v2 H2 f2 s2 st2
                      cases q6 : Γ2[i]? with
                      | none => simp only [q6] at h; exact h.elim
                      | some t6 =>
                        cases t6 <;> (simp only [q6] at h) <;> first | exact h.elim | skip
                        exact h v2 H2 f2 (s2.weak (le_padd _ _)) (st2.putBack q6 hv (rw'.stp s2 (le_padd' _ _)))
    exact main v0 |> fun m => ⟨v0, hv0, m hv0⟩
end
end Hw
set_option Elab.async false
set_option linter.all false
set_option maxRecDepth 100000
set_option maxHeartbeats 1000000
namespace Hw
open PySem PySem.Spec PyProof.Rows L2
section
variable {R : RC} {σ : Sig} {H : Hp} {Q : VK}
theorem dropLast_er {α : Type} : ∀ (l : List α), 0 < l.length → l.dropLast = l.eraseIdx (l.length - 1)
  | [], h => by simp at h
  | [a], _ => rfl
  | a :: b :: r, _ => by
    have := dropLast_er (b :: r) (by simp)
    simp only [List.length_cons, Nat.add_sub_cancel] at this ⊢
    rw [List.dropLast_cons₂, this, List.eraseIdx_cons_succ]
theorem RepL.erase {K : PySem.W.Frag} {f : Fp} : ∀ {ts : List Tr} {vs : List V} {g : Fp} {j : Nat} {t : Tr}, RepL K H f ts vs g → ts[j]? = some t → ∃ v g1 g2, vs[j]? = some v ∧ Rep K H f t v g2 ∧ RepL K H f (ts.eraseIdx j) (vs.eraseIdx j) g1 ∧ ∀ a, g1 a + g2 a ≤ g a
  | [], _, _, _, _, _, e => by simp at e
  | x :: ts, _, _, 0, _, h, e => by
    unfold RepL at h
    obtain ⟨v, r, g1, g2, rfl, h1, h2, h3⟩ := h
    simp at e; subst e
    exact ⟨v, g2, g1, rfl, h1, h2, fun a => by have := h3 a; omega⟩
  | x :: ts, _, _, j + 1, _, h, e => by
    unfold RepL at h
    obtain ⟨v, r, g1, g2, rfl, h1, h2, h3⟩ := h
    obtain ⟨w, k1, k2, e1, r1, r2, l1⟩ := RepL.erase (j := j) h2 (by simpa using e)
    refine ⟨w, padd g1 k1, k2, by simpa using e1, r1, ?_, fun a => by have := h3 a; have := l1 a; simp only [padd_at]; omega⟩
    show RepL K H f (x :: ts.eraseIdx j) (v :: r.eraseIdx j) _
    unfold RepL
    exact ⟨v, _, g1, k1, rfl, h1, r2, fun a => Nat.le_refl _⟩
theorem RepL.last {K : PySem.W.Frag} {f : Fp} {ts : List Tr} {vs : List V} {g : Fp} {t : Tr} (h : RepL K H f ts vs g) (e : ts[ts.length - 1]? = some t) : ∃ v g1 g2, vs[vs.length - 1]? = some v ∧ Rep K H f t v g2 ∧ RepL K H f ts.dropLast vs.dropLast g1 ∧ ∀ a, g1 a + g2 a ≤ g a := by
  have hl := h.length
  obtain ⟨v, g1, g2, e1, r1, r2, l⟩ := h.erase e
  have hp : 0 < ts.length := by
    cases ts with
    | nil => simp at e
    | cons _ _ => exact Nat.succ_pos _
  refine ⟨v, g1, g2, by rw [hl]; exact e1, r1, ?_, l⟩
  rw [dropLast_er ts hp, dropLast_er vs (by omega), hl]
  exact r2
theorem St0.wr {K : PySem.W.Frag} {Γ : List Tr} {f pr g : Fp} {p : Addr} {o : HO} (st : St0 K Γ σ H f (padd pr g)) (hp : 1 ≤ g p) : St0 K Γ σ (upd H p o) f (padd pr g) ∧ ∀ pr' : Fp, pr' p = 0 → Stp H f pr' (upd H p o) f := by
  obtain ⟨h1, h2, gs, ga, hs, _, hl⟩ := st
  have fp : 1 ≤ f p := by have := hl p; simp only [padd_at] at this; omega
  have gp : gs p = 0 := by have := hl p; have := h1 p; simp only [padd_at] at *; omega
  refine ⟨⟨h1, fun a ha => ?_, gs, fun _ => 0, hs.stp (stp_write (K := K) fp gs gp) (fun _ => Nat.le_refl _), trivial, fun a => by have := hl a; simp only [padd_at] at *; show 0 + _ ≤ _; omega⟩, fun pr' hz => stp_write (K := K) fp pr' hz⟩
  by_cases z : a = p
  · subst z; exact ⟨o, upd_same⟩
  · obtain ⟨u, hu⟩ := h2 a ha
    exact ⟨u, by rw [upd_ne z]; exact hu⟩
theorem pop_core {K : PySem.W.Frag} {Γ : List Tr} {f pr : Fp} {i : Nat} {xs : List Tr} {v : V} (st : St0 K Γ σ H f pr) (e : Γ[i]? = some (.l xs)) (hv : σ[i]? = some (some v)) :
    ∃ p vs, v = .ref p ∧ H p = some (.lst vs) ∧ vs.length = xs.length ∧ ∀ {j : Nat} {x : Tr}, xs[j]? = some x → ∃ z, vs[j]? = some z ∧ Stp H f pr (upd H p (.lst (vs.eraseIdx j))) f ∧ St1 K (Γ.set i (.l (xs.eraseIdx j))) σ (upd H p (.lst (vs.eraseIdx j))) f pr z x := by
  obtain ⟨w, g, ew, rw', sto⟩ := st.takeOut e (by simp)
  rw [hv] at ew; cases ew
  unfold Rep at rw'
  obtain ⟨p, vs, g0, rfl, hp, rl, l0⟩ := rw'
  refine ⟨p, vs, rfl, hp, rl.length, fun {j x} ej => ?_⟩
  obtain ⟨z, g1, g2, ez, r1, r2, lz⟩ := rl.erase ej
  have gp : 1 ≤ g p := by have := l0 p; rw [one_self] at this; omega
  obtain ⟨sw, ss⟩ := sto.wr (o := .lst (vs.eraseIdx j)) gp
  obtain ⟨h1, h2, gs, ga, hs, _, hl⟩ := id sw
  have zp : gs p = 0 ∧ pr p = 0 ∧ g1 p = 0 ∧ g2 p = 0 := by
    have := hl p; have := h1 p; have := l0 p; have := lz p; simp only [padd_at, one_self] at *; omega
  have rn : Rep K (upd H p (.lst (vs.eraseIdx j))) f (.l (xs.eraseIdx j)) (.ref p) (padd (one p) g1) := by
    unfold Rep
    exact ⟨p, _, g1, rfl, upd_same, r2.stp (ss g1 zp.2.2.1) (fun _ => Nat.le_refl _), fun a => by rw [padd_at]; exact Nat.le_refl _⟩
  have put := RepS.put hs (by rw [List.getElem?_set_self (List.getElem?_eq_some_iff.mp e).1]) hv (.mk rn)
  rw [List.set_set] at put
  refine ⟨z, ez, ss pr zp.2.1, h1, h2, _, g2, put, r1.stp (ss g2 zp.2.2.2) (fun _ => Nat.le_refl _), fun a => ?_⟩
  · have := hl a; have := l0 a; have := lz a; simp only [padd_at] at *; omega
theorem ty_list {K : PySem.W.Frag} {p : Addr} {vs : List V} (h : H p = some (.lst vs)) : tyV K "list" (.ref p) H := Or.inl ⟨rfl, _, SqL.of h⟩
theorem pop0_read {i : Nat} (h : tE R (.pop i []) σ H Q) : tBM0 R.K "list" rPop (tVar i) σ H Q := by
  obtain ⟨Γ, f, pr, st, h⟩ := of_tE h
  simp only [ev, evAs, tmps] at h
  cases e : Γ[i]? with
  | none => simp only [e] at h; exact h.elim
  | some t =>
    cases t with
    | l xs =>
      simp only [e] at h
      cases e2 : xs[xs.length - 1]? with
      | none => simp only [e2] at h; exact h.elim
      | some x =>
        simp only [e2] at h
        obtain ⟨v, g, hv, _, _⟩ := st.takeOut e (by simp)
        obtain ⟨p, vs, rfl, hp, hl, k⟩ := pop_core st e hv
        obtain ⟨z, ez, s, s1⟩ := k e2
        have hpos : 0 < xs.length := by
          cases xs with
          | nil => simp at e2
          | cons _ _ => exact Nat.succ_pos _
        refine ⟨.ref p, hv, ty_list hp, p, vs, z, rfl, rfl, hp, by rw [hl]; exact ez, ?_⟩
        rw [dropLast_er xs hpos] at h
        rw [dropLast_er vs (by omega), hl]
        exact h z _ f s s1
    | c d => simp only [e] at h; exact h.elim
    | t d => simp only [e] at h; exact h.elim
    | s d => simp only [e] at h; exact h.elim
    | gone => simp only [e] at h; exact h.elim
    | d _ => simp only [e] at h; exact h.elim
    | x _ => simp only [e] at h; exact h.elim
theorem tmps_len : ∀ {avs : List AV} {ts : List Tr}, tmps avs = some ts → ts.length = avs.length
  | [], _, h => by unfold tmps at h; cases h; rfl
  | .tmp t :: as, _, h => by
    unfold tmps at h
    obtain ⟨us, h1, h2⟩ := Option.map_eq_some_iff.mp h
    cases h2
    simp [tmps_len h1]
  | .pk j :: as, _, h => by unfold tmps at h; cases h
  | .io j :: as, _, h => by unfold tmps at h; cases h
  | .own j :: as, _, h => by unfold tmps at h; cases h
theorem pop1_read {i : Nat} {c : CA} (h : tE R (.pop i [c]) σ H Q) : tBM R.K "list" rPopAt (tVar i) (tAs R [c]) σ H Q := by
  obtain ⟨Γ, f, pr, st, h⟩ := of_tE h
  simp only [ev] at h
  cases e : Γ[i]? with
  | none => simp only [e] at h; exact h.elim
  | some t =>
    cases t with
    | l xs0 =>
      simp only [e] at h
      obtain ⟨v, g, hv, r0, _⟩ := st.takeOut e (by simp)
      obtain ⟨p, vs0, rfl, hp, hl0, _⟩ := pop_core st e hv
      refine ⟨.ref p, hv, ty_list hp, Γ, f, pr, st, ?_⟩
      cases q : evAs R.F [c] Γ with
      | none => simp only [q] at h; exact h
      | some r =>
        cases r with
        | ex y Γ1 => simp only [q] at h; exact h
        | ok avs Γ1 =>
          simp only [q] at h
          intro ws H1 f1 s1 st1
          cases q1 : tmps avs with
          | none => simp only [q1] at h; exact h.elim
          | some ts =>
            cases e1 : Γ1[i]? with
            | none => cases ts <;> (simp only [q1, e1] at h; exact h.elim)
            | some t1 =>
              have ra : ∃ ga, RepL R.K H1 f1 ts ws ga := by
                obtain ⟨_, _, g, ga, hs, hg, hl⟩ := id st1
                exact ⟨ga, tmps_rep hg q1⟩
              obtain ⟨ga, ra⟩ := ra
              have la := ra.length
              have lc : avs.length = 1 := by
                cases c <;> simp only [evAs] at q
                · split at q
                  · simp only [AR.cons] at q; cases q; rfl
                  · cases q
                  · cases q
                · split at q
                  · simp only [AR.cons] at q; cases q; rfl
                  · cases q
                · split at q
                  · simp only [AR.cons] at q; cases q; rfl
                  · cases q
                · split at q
                  · simp only [AR.cons] at q; cases q; rfl
                  · cases q
                  · cases q
              have lt : ts.length = avs.length := tmps_len q1
              obtain ⟨ti, rfl⟩ : ∃ ti, ts = [ti] := List.length_eq_one_iff.mp (by omega)
              cases t1 with
              | l xs =>
                simp only [q1, e1] at h
                cases e3 : asInt ti with
                | none => simp only [e3] at h; exact h.elim
                | some k =>
                  simp only [e3] at h
                  by_cases hk : okR k = true
                  · rw [if_pos hk] at h
                    cases e4 : seqIndex? k xs.length with
                    | none => simp only [e4] at h; exact h.elim
                    | some j =>
                      simp only [e4] at h
                      cases e5 : xs[j]? with
                      | none => simp only [e5] at h; exact h.elim
                      | some x =>
                        simp only [e5] at h
                        obtain ⟨p', vs, hp', hH, hl, kk⟩ := pop_core st1.drop e1 hv
                        cases hp'
                        obtain ⟨z, ez, s, s2⟩ := kk e5
                        unfold RepL at ra
                        obtain ⟨w, r, g1, g2, rfl, rw', rr, _⟩ := ra
                        unfold RepL at rr
                        subst rr
                        have wi : w = .int k := asInt_rep ⟨_, rw'⟩ e3
                        subst wi
                        exact ⟨p, vs, k, j, z, rfl, rfl, hH, (okR_63 hk).1, (okR_63 hk).2, by rw [hl]; exact e4, ez, h z _ f1 (s1.trans s fun _ => Nat.le_refl _) s2⟩
                  · rw [if_neg hk] at h; exact h.elim
              | c d => simp only [q1, e1] at h; exact h.elim
              | t d => simp only [q1, e1] at h; exact h.elim
              | s d => simp only [q1, e1] at h; exact h.elim
              | gone => simp only [q1, e1] at h; exact h.elim
              | d _ => simp only [q1, e1] at h; exact h.elim
              | x _ => simp only [q1, e1] at h; exact h.elim
    | c d => simp only [e] at h; exact h.elim
    | t d => simp only [e] at h; exact h.elim
    | s d => simp only [e] at h; exact h.elim
    | gone => simp only [e] at h; exact h.elim
    | d _ => simp only [e] at h; exact h.elim
    | x _ => simp only [e] at h; exact h.elim
theorem list_seen {K : PySem.W.Frag} {f : Fp} {t : Tr} {v : V} {ds : List PyData} (r : RepW K H f t v) (e : see t = some (.list ds)) : ∃ p xs, v = .ref p ∧ SqL K H p xs ∧ DrL K H ds xs := by
  obtain ⟨g, r⟩ := r
  cases t with
  | s ns =>
    unfold see at e; cases e
    unfold Rep at r
    obtain ⟨p, rfl, h⟩ := r
    exact ⟨p, _, rfl, (mn_ext H f).sql h, script_dr⟩
  | c d =>
    have e' : frz (.c d) = some (.list ds) := e
    have := Rep.see r e'
    unfold Dr at this
    obtain ⟨p, xs, rfl, h1, h2⟩ := this
    exact ⟨p, xs, rfl, SqL.of h1, h2⟩
  | l xs =>
    have e' : frz (.l xs) = some (.list ds) := e
    have := Rep.see r e'
    unfold Dr at this
    obtain ⟨p, xs, rfl, h1, h2⟩ := this
    exact ⟨p, xs, rfl, SqL.of h1, h2⟩
  | t xs =>
    have e' : frz (.t xs) = some (.list ds) := e
    have := Rep.see r e'
    unfold Dr at this
    obtain ⟨p, xs, rfl, h1, h2⟩ := this
    exact ⟨p, xs, rfl, SqL.of h1, h2⟩
  | gone => unfold see at e; cases e
  | d _ => unfold see at e; cases e
  | x _ => unfold see at e; cases e
theorem flat_seen {K : PySem.W.Frag} {f : Fp} {t : Tr} {v : V} {d : PyData} (r : RepW K H f t v) (e : see t = some d) (fd : flatD d = true) : Dr K H d v := by
  obtain ⟨g, r⟩ := r
  cases t with
  | s ns => unfold see at e; cases e; cases fd
  | c d' => exact Rep.see r e
  | l xs => exact Rep.see r e
  | t xs => exact Rep.see r e
  | gone => unfold see at e; cases e
  | d _ => unfold see at e; cases e
  | x _ => unfold see at e; cases e
theorem boolsOf_vals {K : PySem.W.Frag} {H : Hp} : ∀ {ds : List PyData} {bs : List Bool} {vs : List V}, boolsOf ds = some bs → DrL K H ds vs → vs = bs.map V.bl
  | [], bs, vs, e, h => by
    unfold boolsOf at e; cases e
    unfold DrL at h; exact h
  | .bool b :: ds, bs, vs, e, h => by
    unfold DrL at h
    obtain ⟨v, w, rfl, h1, h2⟩ := h
    unfold boolsOf at e
    obtain ⟨bs2, e3, rfl⟩ := Option.map_eq_some_iff.mp e
    unfold Dr at h1
    rw [h1, boolsOf_vals e3 h2]; rfl
  | .none :: _, _, _, e, _ => by unfold boolsOf at e; cases e
  | .int _ :: _, _, _, e, _ => by unfold boolsOf at e; cases e
  | .str _ :: _, _, _, e, _ => by unfold boolsOf at e; cases e
  | .list _ :: _, _, _, e, _ => by unfold boolsOf at e; cases e
  | .tuple _ :: _, _, _, e, _ => by unfold boolsOf at e; cases e
  | .dict _ :: _, _, _, e, _ => by unfold boolsOf at e; cases e
theorem cntT_read {i : Nat} (h : tE R (.cntT i) σ H Q) : tBM R.K "list" (Hx.rCntT R.K) (tVar i) (tAs R [.e (.lit (.bool true))]) σ H Q := by
  obtain ⟨Γ, f, pr, st, h⟩ := of_tE h
  simp only [ev] at h
  cases e : Γ[i]? with
  | none => simp only [e] at h; exact h.elim
  | some t0 =>
    simp only [e] at h
    cases e0 : asList t0 with
    | none => simp only [e0] at h; exact h.elim
    | some xs =>
      simp only [e0] at h
      cases eb : boolsOf xs with
      | none => simp only [eb] at h; exact h.elim
      | some bs =>
        simp only [eb, Option.map_some] at h
        have n0 : t0 ≠ .gone := fun z => by subst z; cases e0
        obtain ⟨v, g, hv, r0, _⟩ := st.takeOut e n0
        obtain ⟨p, ys, rfl, q0, dl⟩ := asList_rep ⟨g, r0⟩ e0
        have ey := boolsOf_vals eb dl
        subst ey
        refine ⟨.ref p, hv, Or.inl ⟨rfl, _, SqL.of q0⟩, Γ, f, pr, st, ?_⟩
        simp only [evAs, ev, flatD, if_true, AR.cons]
        intro ws H1 f1 s1 st1
        obtain ⟨w, g1, hw, r1, _⟩ := st1.drop.takeOut e n0
        rw [hv] at hw; cases hw
        obtain ⟨p', ys', hp', q1, dl1⟩ := asList_rep ⟨g1, r1⟩ e0
        cases hp'
        have ey := boolsOf_vals eb dl1
        subst ey
        obtain ⟨ga, hg, st2⟩ := st1.out
        obtain ⟨y, rr, g3, g4, rfl, ry, rr', _⟩ := hg
        unfold RepA at rr'
        subst rr'
        have hy : y = .bl true := by
          exact bT_val ry
        subst hy
        exact ⟨p, bs, rfl, rfl, SqL.of q1, h _ H1 f1 s1 (st1.drop.new (New.int _))⟩
theorem idx_read {i : Nat} {c : CE} (h : tE R (.idx i c) σ H Q) : tBM R.K "list" (rIndex R.K) (tVar i) (tAs R [.e c]) σ H Q := by
  obtain ⟨Γ, f, pr, st, h⟩ := of_tE h
  simp only [ev] at h
  cases e : Γ[i]? with
  | none => simp only [e] at h; exact h.elim
  | some t0 =>
    simp only [e] at h
    cases e0 : see t0 with
    | none => simp only [e0] at h; exact h.elim
    | some d0 =>
      cases d0 with
      | list ds0 =>
        simp only [e0] at h
        have n0 : t0 ≠ .gone := fun z => by subst z; cases e0
        obtain ⟨v, g, hv, r0, _⟩ := st.takeOut e n0
        obtain ⟨p, xs0, rfl, q0, _⟩ := list_seen ⟨g, r0⟩ e0
        refine ⟨.ref p, hv, Or.inl ⟨rfl, _, q0⟩, Γ, f, pr, st, ?_⟩
        simp only [evAs]
        cases q : ev R.F c Γ with
        | none => simp only [q] at h; exact h
        | some r =>
          cases r with
          | ex y Γ1 => simp only [q] at h; exact h
          | ok t Γ1 =>
            simp only [q, AR.cons] at h ⊢
            intro ws H1 f1 s1 st1
            cases e1 : Γ1[i]? with
                | none => simp only [e1] at h; exact h.elim
                | some t1 =>
                  simp only [e1] at h
                  cases es : see t with
                  | none => simp only [es] at h; exact h.elim
                  | some d =>
                    cases e2 : see t1 with
                    | none => simp only [es, e2] at h; exact h.elim
                    | some d1 =>
                      cases d1 with
                      | list ds =>
                        simp only [es, e2] at h
                        by_cases fl : (flatD d && ds.all flatD) = true
                        · rw [if_pos fl] at h
                          rw [Bool.and_eq_true] at fl
                          cases e3 : ds.findIdx? (fun z => PyData.eqv z d) with
                          | none => simp only [e3] at h; exact h.elim
                          | some j =>
                            simp only [e3] at h
                            have n1 : t1 ≠ .gone := fun z => by subst z; cases e2
                            obtain ⟨w, g1, hw, r1, _⟩ := st1.drop.takeOut e1 n1
                            rw [hv] at hw; cases hw
                            obtain ⟨p', xs, hp', qs, dl⟩ := list_seen ⟨g1, r1⟩ e2
                            cases hp'
                            obtain ⟨ga, hg, st2⟩ := st1.out
                            obtain ⟨y, rr, g3, g4, rfl, ry, rr', _⟩ := hg
                            unfold RepA at rr'
                            subst rr'
                            have dy := flat_seen ⟨g3, ry⟩ es fl.1
                            obtain ⟨hj, hz, hno⟩ := List.findIdx?_eq_some_iff_getElem.mp e3
                            obtain ⟨z, ez, dz⟩ := dl.get (List.getElem?_eq_getElem hj)
                            have fz : flatD ds[j] = true := List.all_eq_true.mp fl.2 _ (List.getElem_mem hj)
                            refine ⟨p, xs, y, j, z, rfl, rfl, qs, flat_v dy fl.1, flats_v dl fl.2, ez, by rw [← eqv_flat dz dy fz fl.1]; exact hz, fun m z' hm ez' => ?_, h _ H1 f1 s1 (st1.drop.new (New.int _))⟩
                            have hmd : m < ds.length := by omega
                            obtain ⟨z2, ez2, dz2⟩ := dl.get (List.getElem?_eq_getElem hmd)
                            rw [ez'] at ez2; cases ez2
                            have fz2 : flatD ds[m] = true := List.all_eq_true.mp fl.2 _ (List.getElem_mem hmd)
                            rw [← eqv_flat dz2 dy fz2 fl.1]
                            have := hno m hm
                            simpa using this
                        · rw [if_neg fl] at h; exact h.elim
                      | none => simp only [es, e2] at h; exact h.elim
                      | bool _ => simp only [es, e2] at h; exact h.elim
                      | int _ => simp only [es, e2] at h; exact h.elim
                      | str _ => simp only [es, e2] at h; exact h.elim
                      | tuple _ => simp only [es, e2] at h; exact h.elim
                      | dict _ => simp only [es, e2] at h; exact h.elim
      | none => simp only [e0] at h; exact h.elim
      | bool _ => simp only [e0] at h; exact h.elim
      | int _ => simp only [e0] at h; exact h.elim
      | str _ => simp only [e0] at h; exact h.elim
      | tuple _ => simp only [e0] at h; exact h.elim
      | dict _ => simp only [e0] at h; exact h.elim
end
section
variable {R : RC} {σ : Sig} {H : Hp} {Q : VK}
theorem stl_read {a : CE} (h : tE R (.stl a) σ H Q) : tE R a σ H Q := by
  obtain ⟨Γ, f, pr, st, h⟩ := h
  refine ⟨Γ, f, pr, st, ?_⟩
  simp only [ev] at h
  cases q : ev R.F a Γ with
  | none => simp only [q, stlE] at h
  | some r =>
    cases r with
    | ex y Γ1 => simp only [q, stlE] at h; exact h
    | ok t Γ1 =>
      simp only [q, stlE] at h
      cases e : frz t with
      | none => simp only [e, Option.map_none] at h
      | some d =>
        simp only [e, Option.map_some] at h
        intro v H1 f1 s1 st1
        obtain ⟨f2, s2, st2, dr⟩ := StA.settle st1 e
        exact h v H1 f2 (s1.trans s2 fun _ => Nat.le_refl _) (StA.new st2 (New.flat dr))
theorem New.emp {K : PySem.W.Frag} {f : Fp} {p : Addr} (n : H p = none) (h : Alc H f) : New K H f (upd H p (.dK [])) f (.c (.dict [])) (.ref p) :=
  ⟨Ext.new n, fun _ => 0, by unfold Rep; unfold Dr; exact ⟨p, rfl, rfl, mn_of (h.zero n) upd_same⟩, fun a => by simp, fun a z => by simp at z⟩
theorem emp_read (h : tE R .emp σ H Q) : tDNewK σ H Q := by
  obtain ⟨Γ, f, pr, st, h⟩ := h
  simp only [ev] at h
  intro p hp
  have n := New.emp (K := R.K) hp st.alc
  exact h _ _ f (n.stp pr) (StA.new st n)
theorem sl2_read {a b c : CE} (h : tE R (.sl2 a b c) σ H Q) : tSl (rSl2 R.K) (tE R a) (tPart (tE R b)) (tPart (tE R c)) σ H Q := by
  obtain ⟨Γ, f, pr, st, h⟩ := of_tE h
  refine tE_of st ?_
  simp only [ev] at h
  cases q : ev R.F a Γ with
  | none => simp only [q] at h; exact h
  | some r =>
    cases r with
    | ex y Γ1 => simp only [q] at h; exact h
    | ok t Γ1 =>
      cases t with
      | c d =>
        simp only [q] at h
        intro v H1 f1 s1 st1
        obtain ⟨_, _, _, ga, _, hga, _⟩ := id st1
        unfold Rep at hga
        refine tE_of st1.drop ?_
        cases q2 : ev R.F b Γ1 with
        | none => simp only [q2] at h; exact h
        | some r2 =>
          cases r2 with
          | ex y Γ2 => simp only [q2] at h; exact fun C H' f' hm s2 st2 => h C H' f' hm (s1.trans s2 fun _ => Nat.le_refl _) st2
          | ok tb Γ2 =>
            simp only [q2] at h
            cases q3 : asInt tb with
            | none => simp only [q3] at h; exact h.elim
            | some i =>
              simp only [q3] at h
              intro w H2 f2 s2 st2
              obtain ⟨_, _, _, gb, _, hgb, _⟩ := id st2
              refine ⟨i, asInt_rep ⟨gb, hgb⟩ q3, ?_⟩
              refine tE_of st2.drop ?_
              cases q4 : ev R.F c Γ2 with
              | none => simp only [q4] at h; exact h
              | some r3 =>
                cases r3 with
                | ex y Γ3 => simp only [q4] at h; exact fun C H' f' hm s3 st3 => h C H' f' hm (s1.trans (s2.trans s3 fun _ => Nat.le_refl _) fun _ => Nat.le_refl _) st3
                | ok tc Γ3 =>
                  simp only [q4] at h
                  cases q5 : asInt tc with
                  | none => simp only [q5] at h; exact h.elim
                  | some j =>
                    simp only [q5] at h
                    intro x H3 f3 s3 st3
                    obtain ⟨_, _, _, gc, _, hgc, _⟩ := id st3
                    refine ⟨j, asInt_rep ⟨gc, hgc⟩ q5, ?_⟩
                    cases q6 : slEv (.c d) (some i) (some j) with
                    | none => simp only [q6, Option.map_none] at h; exact h.elim
                    | some t =>
                      simp only [q6, Option.map_some] at h
                      refine sl_ok (f := f3) st3.alc ⟨fun _ => 0, by unfold Rep; exact Dr.ext (s2.trans s3 fun _ => Nat.le_refl _).ext hga⟩ q6 fun v' H' f' n => ?_
                      exact h v' H' f' (s1.trans (s2.trans (s3.trans (n.stp pr) fun _ => Nat.le_refl _) fun _ => Nat.le_refl _) fun _ => Nat.le_refl _) (StA.new st3.drop n)
      | l xs => simp only [q] at h; exact h.elim
      | t xs => simp only [q] at h; exact h.elim
      | s ns => simp only [q] at h; exact h.elim
      | gone => simp only [q] at h; exact h.elim
      | d _ => simp only [q] at h; exact h.elim
      | x _ => simp only [q] at h; exact h.elim
theorem inl_inj : ∀ {a b : List Int}, (a.map Sum.inl : List Key) = b.map Sum.inl → a = b
  | [], [], _ => rfl
  | [], _ :: _, e => by simp at e
  | _ :: _, [], e => by simp at e
  | x :: xs, y :: ys, e => by
    rw [List.map_cons, List.map_cons] at e
    injection e with e1 e2
    injection e1 with e1
    rw [e1, inl_inj e2]
theorem dt_val (ks : List Int) : ∀ kvs : List (List Int × Int), valV (dtK kvs) (ks.map Sum.inl) = (vlI kvs ks).map V.int
  | [] => rfl
  | q :: kvs => by
    have ih := dt_val ks kvs
    show valV ((q.1.map Sum.inl, V.int q.2) :: dtK kvs) _ = _
    unfold vlI at ih ⊢
    by_cases h : q.1 = ks
    · rw [valV_pos (by rw [h])]
      simp [List.find?_cons, h]
    · rw [valV_neg (fun z => h (inl_inj z)), ih]
      simp [List.find?_cons, h]
theorem dt_any (ks : List Int) : ∀ kvs : List (List Int × Int), ((dtK kvs).any fun kv => decide (kv.1 = ks.map Sum.inl)) = kvs.any fun q => decide (q.1 = ks)
  | [] => rfl
  | q :: kvs => by
    have ih := dt_any ks kvs
    show (decide ((q.1.map Sum.inl : List Key) = ks.map Sum.inl) || (dtK kvs).any _) = _
    rw [ih, List.any_cons]
    congr 1
    by_cases h : q.1 = ks
    · rw [h]; simp
    · rw [decide_eq_false h, decide_eq_false fun z => h (inl_inj z)]
theorem dt_put (ks : List Int) (v : Int) (kvs : List (List Int × Int)) : putK (dtK kvs) (ks.map Sum.inl) (V.int v) = dtK (ptI kvs ks v) := by
  unfold putK ptI
  rw [dt_any]
  split
  · unfold dtK
    rw [List.map_map, List.map_map]
    refine List.map_congr_left fun q _ => ?_
    show (if (q.1.map Sum.inl : List Key) = ks.map Sum.inl then (q.1.map Sum.inl, V.int v) else (q.1.map Sum.inl, V.int q.2)) = ((if q.1 = ks then (q.1, v) else q).1.map Sum.inl, V.int (if q.1 = ks then (q.1, v) else q).2)
    by_cases h : q.1 = ks
    · rw [if_pos h, if_pos (by rw [h])]
    · rw [if_neg h, if_neg fun z => h (inl_inj z)]
  · simp [dtK]
theorem key_rep {K : PySem.W.Frag} {f : Fp} {t : Tr} {v : V} {ks : List Int} {g : Fp} (r : Rep K H f t v g) (e : asKey t = some ks) : ∃ b, v = .ref b ∧ mn H f b = some (.tup ((ks.map Sum.inl : List Key).map kV)) := by
  cases t with
  | c d =>
    cases d with
    | tuple ds =>
      unfold Rep at r
      unfold Dr at r
      obtain ⟨a, xs, rfl, hs, hd⟩ := r
      refine ⟨a, rfl, ?_⟩
      have e : intsOf ds = some ks := e
      have : xs = (ks.map Sum.inl : List Key).map kV := by
        have := intsOf_rep e hd
        rw [this, List.map_map]; rfl
      rw [← this]; exact hs
    | _ => cases e
  | _ => cases e
theorem New.dnew {K : PySem.W.Frag} {f : Fp} {p : Addr} (n : H p = none) (h : Alc H f) : New K H f (upd H p (.dT [])) (fun a => f a + one p a) (.d []) (.ref p) := by
  refine ⟨Ext.new n, one p, ?_, fun a => rfl, fun a z => ?_⟩
  · unfold Rep
    exact ⟨p, rfl, upd_same, fun _ => Nat.le_refl _⟩
  · have : a = p := by
      by_cases e : a = p
      · exact e
      · rw [one_ne e] at z; omega
    subst this
    exact ⟨by rw [one_self]; exact Nat.le_refl _, n, _, upd_same⟩
theorem dnew_read (h : tE R .dnew σ H Q) : tDNewT σ H Q := by
  obtain ⟨Γ, f, pr, st, h⟩ := h
  simp only [ev] at h
  intro p hp
  have n := New.dnew (K := R.K) hp st.alc
  exact h _ _ _ (n.stp pr) (StA.new st n)
theorem d_at {K : PySem.W.Frag} {Γ : List Tr} {f pr : Fp} {i : Nat} {kvs : List (List Int × Int)} (st : St0 K Γ σ H f pr) (e : Γ[i]? = some (.d kvs)) : ∃ p, σ[i]? = some (some (.ref p)) ∧ H p = some (.dT (dtK kvs)) := by
  obtain ⟨w, g, hv, rw', _⟩ := st.takeOut e (by simp)
  unfold Rep at rw'
  obtain ⟨p, rfl, hp, _⟩ := rw'
  exact ⟨p, hv, hp⟩
theorem dget_read {i : Nat} {a b : CE} (h : tE R (.dget i a b) σ H Q) : tDGet2 (tVar i) (tE R a) (tE R b) σ H Q := by
  obtain ⟨Γ, f, pr, st, h⟩ := of_tE h
  simp only [ev] at h
  cases e : Γ[i]? with
  | none => simp only [e] at h; exact h.elim
  | some t0 =>
    cases t0 with
    | d kvs0 =>
      simp only [e] at h
      obtain ⟨p, hv, hp⟩ := d_at st e
      refine ⟨.ref p, hv, p, rfl, .inr ⟨_, .inl hp⟩, ?_⟩
      refine tE_of st ?_
      cases q : ev R.F a Γ with
      | none => simp only [q] at h; exact h
      | some r =>
        cases r with
        | ex y Γ1 => simp only [q] at h; exact h
        | ok ta Γ1 =>
          simp only [q] at h
          cases q1 : asKey ta with
          | none => simp only [q1] at h; exact h.elim
          | some ks =>
            simp only [q1] at h
            intro v H1 f1 s1 st1
            obtain ⟨_, _, _, ga, _, hga, _⟩ := id st1
            obtain ⟨bk, rfl, hb⟩ := key_rep hga q1
            refine tE_of st1.drop ?_
            cases q2 : ev R.F b Γ1 with
            | none => simp only [q2] at h; exact h
            | some r2 =>
              cases r2 with
              | ex y Γ2 => simp only [q2] at h; exact fun C H' f' hm s2 st2 => h C H' f' hm (s1.trans s2 fun _ => Nat.le_refl _) st2
              | ok tb Γ2 =>
                simp only [q2] at h
                cases q3 : asInt tb with
                | none => simp only [q3] at h; exact h.elim
                | some z =>
                  cases e2 : Γ2[i]? with
                  | none => simp only [q3, e2] at h; exact h.elim
                  | some t2 =>
                    cases t2 with
                    | d kvs =>
                      simp only [q3, e2] at h
                      intro w H2 f2 s2 st2
                      obtain ⟨_, _, _, gb, _, hgb, _⟩ := id st2
                      have hz := asInt_rep ⟨gb, hgb⟩ q3
                      subst hz
                      obtain ⟨p', hv', hp'⟩ := d_at st2.drop e2
                      rw [hv] at hv'; cases hv'
                      refine ⟨_, DGet.t hp' (mn_some (s2.ext _ _ hb)).2, ?_⟩
                      rw [dt_val]
                      have : ((vlI kvs ks).map V.int).getD (.int z) = .int ((vlI kvs ks).getD z) := by cases vlI kvs ks <;> rfl
                      rw [this]
                      exact h _ H2 f2 (s1.trans s2 fun _ => Nat.le_refl _) (st2.drop.new (New.int _))
                    | _ => simp only [q3, e2] at h; exact h.elim
    | _ => simp only [e] at h; exact h.elim
end
end Hw
set_option Elab.async false
set_option linter.all false
set_option maxRecDepth 100000
set_option maxHeartbeats 1000000
namespace Hw
open PySem PySem.Spec PyProof.Rows L2
section
variable {R : RC} {M : MC} {X : Cx} {σ : Sig} {H : Hp}
theorem XOk.lo (ok : XOk R M X) {i : Nat} {x : Str} (h : M.loc i x = true) : X.N[i]? = some x ∧ L2.Loc X.env.scope x ∧ (X.fn x = true ∨ X.env.scope.names.lookup x = some .local) := by
  unfold MC.loc at h
  simp only [Bool.and_eq_true, decide_eq_true_eq] at h
  obtain ⟨h0, h1⟩ := h
  refine ⟨by rw [ok.N]; exact h0, ?_⟩
  unfold L2.Loc
  rw [ok.sc, ok.fnc]
  split at h1
  · rename_i e; exact ⟨.inl e, .inr e⟩
  · rename_i e; exact ⟨.inr e, .inl h1⟩
  · cases h1
theorem XOk.ndX (ok : XOk R M X) : X.N.Nodup := by rw [ok.N]; exact ok.nd
theorem pg_nm (ok : XOk R M X) {i : Nat} {x : Str} {pos : Pos} (h : M.loc i x = true) : PG X (.Name x pos) (gName i) := by
  obtain ⟨h1, h2, h3⟩ := ok.lo h
  exact pg_name ok.ndX h1 h2 h3
theorem pgs_nm (ok : XOk R M X) : ∀ {is : List Nat} {es : List Expr}, mNames M is es = true → PGs X es (gNames is) ∧ (assignEach es X.env).length = is.length ∧ (assignEach es X.env).findIdx? (·.1) = none
  | [], [], _ => ⟨pgs_nil, rfl, rfl⟩
  | [], e :: es, h => by cases e <;> (unfold mNames at h; cases h)
  | i :: is, [], h => by unfold mNames at h; cases h
  | i :: is, e :: es, h => by
    cases e <;> first | (unfold mNames at h; cases h; done) | skip
    rename_i x pos
    unfold mNames at h
    rw [Bool.and_eq_true] at h
    obtain ⟨h1, h2, h3⟩ := pgs_nm ok h.2
    refine ⟨pgs_cons (pg_nm ok h.1) h1, ?_, ?_⟩
    · show (assignEach es X.env).length + 1 = _
      rw [h2]; rfl
    · have : assignEach (.Name x pos :: es) X.env = (false, assign (.Name x pos) X.env) :: assignEach es X.env := rfl
      rw [this, List.findIdx?_cons, h3]; rfl
theorem pg_tg (ok : XOk R M X) {tg : CTg} {t : Expr} (h : mTg M tg t = true) : PG X t (gTg R.K tg) := by
  cases tg with
  | nm i =>
    cases t <;> first | (unfold mTg at h; cases h; done) | skip
    exact pg_nm ok (by unfold mTg at h; exact h)
  | tp is =>
    cases t <;> first | (unfold mTg at h; cases h; done) | skip
    rename_i elts k pos
    obtain ⟨h1, h2, h3⟩ := pgs_nm ok (show mNames M is elts = true by unfold mTg at h; exact h)
    have := pg_tup (k := k) (pos := pos) ok.calm h1 (n := is.length) h2 h3
    rw [ok.K] at this
    exact this
theorem XOk.blk (ok : XOk R M X) (s : Shared) (H : Hp) (scope : Scope) (C : Addr) (cl : List (Str × Addr)) (fp : List Addr) : XOk R.quiet (M.blk scope) (X.blk s H scope (compEnvC scope cl C X.env) fp) where
  K := ok.K
  mg := ok.mg
  N := ok.N
  sc := by
    show (compEnvC scope cl C X.env).scope = relS scope M.sc
    rw [← ok.sc]; rfl
  fnc := rfl
  nd := ok.nd
  calm := ok.calm
  tk := takes0
  un := ok.un
  gd := ok.gd
  fns := ok.fns
  gls := ok.gls
  blt := ok.blt
  cl := ok.cl
theorem tst_he {e : Expr} (h : tstE e = true) (n : ∀ l o c p, e ≠ .Compare l o c p) (env : Env) (whole : Sem Value) : isTrue e env whole = (do let v ← whole; standAt e.pos; holding [v] (truthy v)) := by
  cases e <;> first | rfl | (cases h; done) | skip
  · rename_i op a p
    cases op <;> first | rfl | (cases h; done)
  · exact absurd rfl (n _ _ _ _)
theorem te_truth {K : PySem.W.Frag} (hK : K = R.K) {a : CE} {Q : Bool → Hp → Prop} (h : tT R (.e a) σ H Q) : tE R a σ H fun x H' => ∃ k, TruV K x H' k ∧ Q k H' := by
  subst hK
  obtain ⟨Γ, f, pr, st, h⟩ := h
  simp only [evT] at h
  refine tE_of st ?_
  cases q : ev R.F a Γ with
  | none => simp only [q] at h
  | some r =>
    cases r with
    | ex y Γ1 => simp only [q] at h; exact h
    | ok t Γ1 =>
      simp only [q] at h
      intro v H1 f1 s1 st1
      cases q1 : truth t with
      | none => simp only [q1, Option.map_none] at h
      | some b =>
        simp only [q1, Option.map_some] at h
        obtain ⟨_, _, _, ga, _, hg, _⟩ := id st1
        exact ⟨b, truth_rep ⟨ga, hg⟩ q1, h H1 f1 s1 st1.drop⟩
theorem te_bl {a : CE} {Q : Bool → Hp → Prop} (hb : ∀ Γ t Γ', ev R.F a Γ = some (.ok t Γ') → ∃ b, t = bT b) (h : tT R (.e a) σ H Q) : tE R a σ H fun x H' => ∃ k, x = .bl k ∧ Q k H' := by
  obtain ⟨Γ, f, pr, st, h⟩ := h
  simp only [evT] at h
  refine tE_of st ?_
  cases q : ev R.F a Γ with
  | none => simp only [q] at h
  | some r =>
    cases r with
    | ex y Γ1 => simp only [q] at h; exact h
    | ok t Γ1 =>
      simp only [q] at h
      obtain ⟨b, rfl⟩ := hb _ _ _ q
      intro v H1 f1 s1 st1
      obtain ⟨_, _, _, ga, _, hg, _⟩ := id st1
      exact ⟨b, bT_val hg, h H1 f1 s1 st1.drop⟩
theorem cmp_bl {o : CmpOp} {as : List CA} : ∀ Γ t Γ', ev R.F (.prim (.cmp o) as) Γ = some (.ok t Γ') → ∃ b, t = bT b := by
  intro Γ t Γ' h
  simp only [ev] at h
  cases q : evAs R.F as Γ with
  | none => simp only [q] at h; cases h
  | some r =>
    cases r with
    | ex y Γ1 => simp only [q] at h; cases h
    | ok avs Γ1 =>
      simp only [q] at h
      cases q1 : resolves Γ1 avs with
      | none => simp only [q1, Option.bind_none] at h; cases h
      | some ts =>
        simp only [q1, Option.bind_some] at h
        obtain ⟨t', h1, h2⟩ := Option.map_eq_some_iff.mp h
        cases h2
        match ts, h1 with
        | [a, b], h1 =>
          obtain ⟨r, _, rfl⟩ := Option.map_eq_some_iff.mp (show (cmpEv o a b).map bT = some t from h1)
          exact ⟨r, rfl⟩
        | [], h1 => simp [primEv] at h1
        | [_], h1 => simp [primEv] at h1
        | _ :: _ :: _ :: _, h1 => simp [primEv] at h1
theorem chain_bl {o1 o2 : CmpOp} {ab : List CA} {c : CE} : ∀ Γ t Γ', ev R.F (.chain o1 o2 ab c) Γ = some (.ok t Γ') → ∃ b, t = bT b := by
  intro Γ t Γ' h
  simp only [ev] at h
  cases q : evAs R.F ab Γ with
  | none => simp only [q] at h; cases h
  | some r =>
    cases r with
    | ex y Γ1 => simp only [q] at h; cases h
    | ok avs Γ1 =>
      simp only [q] at h
      cases q1 : resolves Γ1 avs with
      | none => simp only [q1] at h; cases h
      | some ts =>
        match ts, q1 with
        | [ta, tb], q1 =>
          simp only [q1] at h
          cases q2 : cmpEv o1 ta tb with
          | none => simp only [q2] at h; cases h
          | some k =>
            cases k with
            | false => simp only [q2] at h; cases h; exact ⟨_, rfl⟩
            | true =>
              simp only [q2] at h
              cases q3 : see tb with
              | none => simp only [q3] at h; cases h
              | some db =>
                simp only [q3] at h
                by_cases fd : flatD db = true
                · simp only [fd, if_true] at h
                  cases q4 : ev R.F c Γ1 with
                  | none => simp only [q4] at h; cases h
                  | some r4 =>
                    cases r4 with
                    | ex y Γ2 => simp only [q4] at h; cases h
                    | ok tc Γ2 =>
                      simp only [q4] at h
                      obtain ⟨r, _, h2⟩ := Option.map_eq_some_iff.mp h
                      cases h2; exact ⟨_, rfl⟩
                · simp only [fd] at h; cases h
        | [], q1 => simp only [q1] at h; cases h
        | [_], q1 => simp only [q1] at h; cases h
        | _ :: _ :: _ :: _, q1 => simp only [q1] at h; cases h
theorem cmp_read {K : PySem.W.Frag} (hK : K = R.K) {o : CmpOp} {c d : CA} {Q : VK} (q : tE R (.prim (.cmp o) [c, d]) σ H Q) : tOp (rCmp K o) (tA R c) (tA R d) σ H Q := by
  subst hK
  refine prim2 (r := rCmp R.K o) (fun x y H1 q => ?_) q
  obtain ⟨f, a, b, t, al, r1, r2, e, q⟩ := rprim2 q
  obtain ⟨r, e1, rfl⟩ := Option.map_eq_some_iff.mp e
  exact cmp_ok r1 r2 e1 (q _ _ _ (New.bool _))
theorem tpk_read {K : PySem.W.Frag} (hK : K = R.K) {i : Nat} {Q : Bool → Hp → Prop} (h : tT R (.pk i) σ H Q) : tVar i σ H fun x H' => ∃ k, TruV K x H' k ∧ Q k H' := by
  subst hK
  obtain ⟨Γ, f, pr, st, h⟩ := h
  simp only [evT] at h
  cases e : Γ[i]? with
  | none => simp only [e] at h
  | some t =>
    simp only [e] at h
    cases q1 : truth t with
    | none => simp only [q1, Option.map_none] at h
    | some b =>
      simp only [q1, Option.map_some] at h
      have n : t ≠ .gone := fun z => by subst z; cases q1
      obtain ⟨v, g, hv, r, _⟩ := st.takeOut e n
      exact ⟨v, hv, b, truth_rep ⟨g, r⟩ q1, h H f Stp.refl st⟩
def TPost (R : RC) (σ : Sig) (H : Hp) (f pr : Fp) (Q : Bool → Hp → Prop) : Option TR → Prop
  | some (.ok b Γ') => ∀ H' f', Stp H f pr H' f' → St0 R.K Γ' σ H' f' pr → Q b H'
  | some (.ex x Γ') => ∀ C H' f', R.mg x = some (.ref C) → Stp H f pr H' f' → St0 R.K Γ' σ H' f' pr → R.W (.ref C) none σ H'
  | none => False
theorem tT_of {c : CT} {Γ : List Tr} {f pr : Fp} {Q : Bool → Hp → Prop} (st : St0 R.K Γ σ H f pr) (h : TPost R σ H f pr Q (evT R.F c Γ)) : tT R c σ H Q := by
  refine ⟨Γ, f, pr, st, ?_⟩
  cases q : evT R.F c Γ with
  | none => rw [q] at h; exact h
  | some r => cases r <;> (rw [q] at h; exact h)
theorem of_tT {c : CT} {Q : Bool → Hp → Prop} (h : tT R c σ H Q) : ∃ Γ f pr, St0 R.K Γ σ H f pr ∧ TPost R σ H f pr Q (evT R.F c Γ) := by
  obtain ⟨Γ, f, pr, st, h⟩ := h
  refine ⟨Γ, f, pr, st, ?_⟩
  cases q : evT R.F c Γ with
  | none => simp only [q] at h
  | some r => cases r <;> (simp only [q] at h; exact h)
theorem TPost.after {f pr : Fp} {H1 : Hp} {f1 : Fp} {Q : Bool → Hp → Prop} (s : Stp H f pr H1 f1) {r : Option TR} (h : TPost R σ H f pr Q r) : TPost R σ H1 f1 pr Q r := by
  cases r with
  | none => exact h
  | some r =>
    cases r with
    | ok t Γ' => exact fun H' f' s2 st => h H' f' (s.trans s2 fun _ => Nat.le_refl _) st
    | ex x Γ' => exact fun C H' f' hm s2 st => h C H' f' hm (s.trans s2 fun _ => Nat.le_refl _) st
theorem tand_read {a b : CT} {Q : Bool → Hp → Prop} (h : tT R (.and_ a b) σ H Q) : tAnd (tT R a) (tT R b) σ H Q := by
  obtain ⟨Γ, f, pr, st, h⟩ := of_tT h
  simp only [evT] at h
  refine tT_of st ?_
  cases q : evT R.F a Γ with
  | none => simp only [q] at h; exact h
  | some r =>
    cases r with
    | ex y Γ1 => simp only [q] at h; exact h
    | ok k Γ1 =>
      intro H1 f1 s1 st1
      cases k with
      | true => simp only [q] at h; rw [if_pos rfl]; exact tT_of st1 (h.after s1)
      | false => simp only [q] at h; rw [if_neg Bool.false_ne_true]; exact h H1 f1 s1 st1
theorem tor_read {a b : CT} {Q : Bool → Hp → Prop} (h : tT R (.or_ a b) σ H Q) : tOr (tT R a) (tT R b) σ H Q := by
  obtain ⟨Γ, f, pr, st, h⟩ := of_tT h
  simp only [evT] at h
  refine tT_of st ?_
  cases q : evT R.F a Γ with
  | none => simp only [q] at h; exact h
  | some r =>
    cases r with
    | ex y Γ1 => simp only [q] at h; exact h
    | ok k Γ1 =>
      intro H1 f1 s1 st1
      cases k with
      | false => simp only [q] at h; rw [if_neg Bool.false_ne_true]; exact tT_of st1 (h.after s1)
      | true => simp only [q] at h; rw [if_pos rfl]; exact h H1 f1 s1 st1
theorem tnot_read {a : CT} {Q : Bool → Hp → Prop} (h : tT R (.not_ a) σ H Q) : tNot (tT R a) σ H Q := by
  obtain ⟨Γ, f, pr, st, h⟩ := of_tT h
  simp only [evT] at h
  refine tT_of st ?_
  cases q : evT R.F a Γ with
  | none => simp only [q] at h; exact h
  | some r =>
    cases r with
    | ex y Γ1 => simp only [q] at h; exact h
    | ok k Γ1 =>
      simp only [q] at h
      exact fun H1 f1 s1 st1 => h H1 f1 s1 st1
theorem pe_path (ok : XOk R M X) {i : Nat} : ∀ {e : Expr} {x : Str} {bs : List Expr} {es : List CE}, pathOf e = some (x, bs) → M.vis i x = true → bs.length = es.length → (∀ (j : Nat) b c, bs[j]? = some b → es[j]? = some c → plainE b = true ∧ PE X b (tE R c)) → PE X e (tPth R (tVar i) es) := by
  intro e
  induction e using pathOf.induct with
  | case1 x pos =>
    intro y bs es h hv hl hp
    unfold pathOf at h
    cases h
    have : es = [] := List.eq_nil_of_length_eq_zero hl.symm
    subst this
    exact pe_slot ok hv
  | case2 a b pos ih =>
    intro y bs es h hv hl hp
    unfold pathOf at h
    obtain ⟨⟨x, cs⟩, h1, h2⟩ := Option.map_eq_some_iff.mp h
    cases h2
    simp only [List.length_append, List.length_singleton] at hl
    obtain ⟨es', c, rfl⟩ : ∃ es' c, es = es' ++ [c] := by
      rcases List.eq_nil_or_concat es with e | ⟨es', c, e⟩
      · subst e; simp at hl
      · exact ⟨es', c, by rw [e, List.concat_eq_append]⟩
    simp only [List.length_append, List.length_singleton, Nat.add_right_cancel_iff] at hl
    have h3 := ih (es := es') h1 hv hl fun j b' c' e1 e2 => hp j b' c' (by rw [List.getElem?_append_left (List.getElem?_eq_some_iff.mp e1).1]; exact e1) (by rw [List.getElem?_append_left (List.getElem?_eq_some_iff.mp e2).1]; exact e2)
    have h4 := hp cs.length b c (by simp) (by rw [hl]; simp)
    have ap : ∀ {es : List CE} {t : TE}, tPth R t (es ++ [c]) = tOp (rIx R.K) (tPth R t es) (tE R c) := by
      intro es
      induction es with
      | nil => intro t; rfl
      | cons d ds ih => intro t; exact ih
    rw [ap]
    have := pe_ix (pos := pos) ix_seq h3 h4.2 (plainIx h4.1)
    rw [ok.K] at this
    exact this
  | case3 e h1 h2 =>
    intro y bs es h
    unfold pathOf at h
    split at h <;> first | (cases h; done) | skip
    · exact absurd rfl (h1 _ _)
    · exact absurd rfl (h2 _ _ _)
end
end Hw
set_option Elab.async false
set_option linter.all false
set_option maxRecDepth 100000
set_option maxHeartbeats 1000000
namespace Hw
open PySem PySem.Spec PyProof.Rows L2
section
variable {K : PySem.W.Frag} {H : Hp} {f f2 g : Fp}
mutual
theorem Dr.lf (hx : ∀ a vs, mn H f a = some (.tup vs) → mn H f2 a = some (.tup vs)) : ∀ {d : PyData} {v : V}, Dr K (mn H f) d v → lfD d = true → Dr K (mn H f2) d v
  | .none, _, h, _ => h
  | .bool _, _, h, _ => h
  | .int _, _, h, _ => h
  | .str _, _, h, _ => h
  | .list ds, _, h, e => by unfold lfD at e; cases e
  | .tuple ds, _, h, e => by
    unfold Dr at h ⊢
    unfold lfD at e
    obtain ⟨a, xs, rfl, hs, hd⟩ := h
    exact ⟨a, xs, rfl, hx _ _ hs, DrL.lf hx hd e⟩
  | .dict _, _, h, e => by unfold lfD at e; cases e
theorem DrL.lf (hx : ∀ a vs, mn H f a = some (.tup vs) → mn H f2 a = some (.tup vs)) : ∀ {ds : List PyData} {vs : List V}, DrL K (mn H f) ds vs → lfDs ds = true → DrL K (mn H f2) ds vs
  | [], _, h, _ => h
  | d :: ds, _, h, e => by
    unfold DrL at h ⊢
    unfold lfDs at e
    rw [Bool.and_eq_true] at e
    obtain ⟨v, r, rfl, h1, h2⟩ := h
    exact ⟨v, r, rfl, Dr.lf hx h1 e.1, DrL.lf hx h2 e.2⟩
end
theorem Rep.lf (hx : ∀ a vs, mn H f a = some (.tup vs) → mn H f2 a = some (.tup vs)) : ∀ {x : Tr} {v : V} {g : Fp}, Rep K H f x v g → lfT x = true → Rep K H f2 x v g := by
  intro x
  exact Tr.rec (motive_1 := fun x => ∀ {v : V} {g : Fp}, Rep K H f x v g → lfT x = true → Rep K H f2 x v g)
    (motive_2 := fun xs => ∀ {vs : List V} {g : Fp}, RepL K H f xs vs g → lfTs xs = true → RepL K H f2 xs vs g)
    (fun d v g h e => by unfold Rep at h ⊢; unfold lfT at e; exact Dr.lf hx h e)
    (fun xs ih v g h e => by
      unfold Rep at h ⊢
      unfold lfT at e
      obtain ⟨p, vs, g0, rfl, e0, h1, h2⟩ := h
      exact ⟨p, vs, g0, rfl, e0, ih h1 e, h2⟩)
    (fun xs ih v g h e => by
      unfold Rep at h ⊢
      unfold lfT at e
      obtain ⟨p, vs, rfl, e0, h1⟩ := h
      exact ⟨p, vs, rfl, hx _ _ e0, ih h1 e⟩)
    (fun ns v g h e => by unfold lfT at e; cases e)
    (fun _ _ => trivial)
    (fun kvs v g h e => by
      unfold Rep at h ⊢
      exact h)
    (fun n v g h e => by unfold lfT at e; cases e)
    (fun h _ => h)
    (fun x xs ih1 ih2 vs g h e => by
      unfold RepL at h ⊢
      unfold lfTs at e
      rw [Bool.and_eq_true] at e
      obtain ⟨v, r, g1, g2, rfl, h1, h2, h3⟩ := h
      exact ⟨v, r, g1, g2, rfl, ih1 h1 e.1, ih2 h2 e.2, h3⟩) x
theorem RepS.lf (hx : ∀ a vs, mn H f a = some (.tup vs) → mn H f2 a = some (.tup vs)) : ∀ {xs : List Tr} {σ : Sig} {g : Fp}, RepS K H f xs σ g → lfTs xs = true → RepS K H f2 xs σ g
  | [], _, _, h, _ => h
  | x :: xs, _, _, h, e => by
    unfold lfTs at e
    rw [Bool.and_eq_true] at e
    obtain ⟨o, r, g1, g2, rfl, h1, h2, h3⟩ := h
    refine ⟨o, r, g1, g2, rfl, ?_, RepS.lf hx h2 e.2, h3⟩
    by_cases n : x = .gone
    · subst n; trivial
    · obtain ⟨v, rfl, r1⟩ := h1.get n
      exact .mk (r1.lf hx e.1)
theorem Rep.trim : ∀ {x : Tr} {v : V} {g : Fp} {d : PyData}, Rep K H f x v g → Hw.frz x = some d → ∃ g2, (∀ a, g2 a ≤ g a) ∧ Rep K H f x v g2 ∧ ∀ a, 1 ≤ g2 a → ∃ vs, H a = some (.lst vs) := by
  intro x
  exact Tr.rec (motive_1 := fun x => ∀ {v : V} {g : Fp} {d : PyData}, Rep K H f x v g → Hw.frz x = some d → ∃ g2 : Fp, (∀ a, g2 a ≤ g a) ∧ Rep K H f x v g2 ∧ ∀ a, 1 ≤ g2 a → ∃ vs, H a = some (.lst vs))
    (motive_2 := fun xs => ∀ {vs : List V} {g : Fp} {ds : List PyData}, RepL K H f xs vs g → Hw.frzL xs = some ds → ∃ g2 : Fp, (∀ a, g2 a ≤ g a) ∧ RepL K H f xs vs g2 ∧ ∀ a, 1 ≤ g2 a → ∃ vs, H a = some (.lst vs))
    (fun d v g d' h e => ⟨fun _ => 0, fun a => Nat.zero_le _, by unfold Rep at h ⊢; exact h, fun a z => by simp at z⟩)
    (fun xs ih v g d h e => by
      unfold Hw.frz at e
      obtain ⟨ds, e1, e2⟩ := Option.map_eq_some_iff.mp e
      unfold Rep at h
      obtain ⟨p, vs, g0, rfl, e0, h1, h2⟩ := h
      obtain ⟨g2, l2, r2, k2⟩ := ih h1 e1
      refine ⟨fun a => one p a + g2 a, fun a => by have := h2 a; have := l2 a; show one p a + g2 a ≤ g a; omega, by unfold Rep; exact ⟨p, vs, g2, rfl, e0, r2, fun a => Nat.le_refl _⟩, fun a z => ?_⟩
      by_cases q : a = p
      · subst q; exact ⟨_, e0⟩
      · exact k2 a (by have z : 1 ≤ one p a + g2 a := z; rw [one_ne q] at z; omega))
    (fun xs ih v g d h e => by
      unfold Hw.frz at e
      obtain ⟨ds, e1, e2⟩ := Option.map_eq_some_iff.mp e
      unfold Rep at h
      obtain ⟨p, vs, rfl, e0, h1⟩ := h
      obtain ⟨g2, l2, r2, k2⟩ := ih h1 e1
      exact ⟨g2, l2, by unfold Rep; exact ⟨p, vs, rfl, e0, r2⟩, k2⟩)
    (fun _ _ _ _ _ e => by unfold Hw.frz at e; cases e)
    (fun _ e => by unfold Hw.frz at e; cases e)
    (fun _ _ _ _ _ e => by unfold Hw.frz at e; cases e)
    (fun _ _ _ _ _ e => by unfold Hw.frz at e; cases e)
    (fun h e => ⟨fun _ => 0, fun a => Nat.zero_le _, by unfold RepL at h ⊢; exact h, fun a z => by simp at z⟩)
    (fun x xs ih1 ih2 vs g ds h e => by
      unfold RepL at h
      obtain ⟨v, r, g1, g2, rfl, h1, h2, h3⟩ := h
      unfold Hw.frzL at e
      cases q : Hw.frz x with
      | none => rw [q] at e; cases e
      | some d =>
        rw [q] at e
        obtain ⟨es, e1, e2⟩ := Option.map_eq_some_iff.mp e
        obtain ⟨g3, l3, r3, k3⟩ := ih1 h1 q
        obtain ⟨g4, l4, r4, k4⟩ := ih2 h2 e1
        refine ⟨fun a => g3 a + g4 a, fun a => by have := h3 a; have := l3 a; have := l4 a; show g3 a + g4 a ≤ g a; omega, by unfold RepL; exact ⟨v, r, g3, g4, rfl, r3, r4, fun a => Nat.le_refl _⟩, fun a z => ?_⟩
        have z : 1 ≤ g3 a + g4 a := z
        by_cases q : 1 ≤ g3 a
        · exact k3 a q
        · exact k4 a (by omega)) x
end
section
variable {R : RC} {σ : Sig} {H : Hp} {Q : VK}
theorem cpy_read {i : Nat} {a : CE} (h : tE R (.cpy i a) σ H Q) : tE R a σ H Q := by
  obtain ⟨Γ, f, pr, st, h⟩ := h
  simp only [ev] at h
  cases e0 : Γ[i]? with
  | none => simp only [e0] at h
  | some t0 =>
    simp only [e0] at h
    cases e1 : frz t0 with
    | none => simp only [e1] at h
    | some d =>
      simp only [e1] at h
      have hi : i < Γ.length := (List.getElem?_eq_some_iff.mp e0).1
      obtain ⟨h1, h2, g, ga, hs, hg, hl⟩ := st
      have lσ := hs.length
      obtain ⟨o, g1, g2, so, ro, rs, l⟩ := hs.take e0
      obtain ⟨v0, rfl, r0⟩ := ro.get (fun z => by subst z; unfold frz at e1; cases e1)
      obtain ⟨g3, l3, r3, k3⟩ := r0.trim e1
      have lf : ∀ a, g3 a ≤ f a := fun a => by have := l3 a; have := l a; have := hl a; omega
      have hless : ∀ a, (fun a => f a - g3 a) a ≤ f a := fun a => Nat.sub_le _ _
      refine ⟨Γ.set i (.c d), fun a => f a - g3 a, pr, ?_, ?_⟩
      · refine ⟨fun a => Nat.le_trans (hless a) (h1 a), fun a z => h2 a (Nat.le_trans z (hless a)), fun a => 0 + g2 a, fun _ => 0, ?_, trivial, fun a => ?_⟩
        · have q := RepS.put (x := .c d) (g' := fun _ => 0) (rs.stp (stp_less (pr := g2) hless) fun _ => Nat.le_refl _) (by rw [List.getElem?_set_self hi]) so (.mk (by unfold Rep; exact r3.frz hless e1 fun a => by have := h1 a; have := lf a; show g3 a + (f a - g3 a) ≤ 1; omega))
          rw [List.set_set] at q
          exact q
        · have := hl a; have := l a; have := l3 a
          show 0 + ((0 + g2 a) + pr a) ≤ f a - g3 a
          omega
      · cases q : ev R.F a (Γ.set i (.c d)) with
        | none => simp only [q] at h
        | some r =>
          cases r with
          | ex y Γ1 => simp only [q] at h
          | ok t Γ1 =>
            simp only [q] at h
            by_cases hc : (lfT t && lfTs (Γ1.set i .gone)) = true
            · rw [if_pos hc] at h
              rw [Bool.and_eq_true] at hc
              intro v H1 f1 s1 st1
              obtain ⟨j1, j2, gs, gb, hs1, hg1, hl1⟩ := st1
              have lσ1 := hs1.length
              have hi1 : i < Γ1.length := by omega
              obtain ⟨o1, g5, g6, so1, ro1, rs1, l5⟩ := hs1.take (List.getElem?_eq_getElem hi1)
              have at0 : ∀ a, 1 ≤ g3 a → ∃ vs, H1 a = some (.lst vs) ∧ f1 a = 0 := fun a z => by
                obtain ⟨vs, ea⟩ := k3 a z
                have := h1 a
                obtain ⟨w1, w2⟩ := s1.1 a _ ea (by show f a - g3 a = 0; omega)
                exact ⟨vs, w1, w2⟩
              have hx : ∀ a vs, mn H1 f1 a = some (.tup vs) → mn H1 (fun a => f1 a + g3 a) a = some (.tup vs) := fun a vs z => by
                obtain ⟨z1, z2⟩ := mn_some z
                refine mn_of ?_ z2
                show f1 a + g3 a = 0
                by_cases y : 1 ≤ g3 a
                · obtain ⟨ws, w1, _⟩ := at0 a y
                  rw [w1] at z2; cases z2
                · omega
              have S : Stp H f g3 H1 (fun a => f1 a + g3 a) := ⟨fun a o e z => by
                have := lf a
                obtain ⟨w1, w2⟩ := s1.1 a o e (by show f a - g3 a = 0; omega)
                exact ⟨w1, by show f1 a + g3 a = 0; omega⟩, fun a o z e => by
                have := h1 a
                exact (s1.1 a o e (by show f a - g3 a = 0; omega)).1⟩
              refine h v H1 (fun a => f1 a + g3 a) ⟨S.1, s1.2⟩ ⟨fun a => ?_, fun a z => ?_, fun a => g3 a + g6 a, gb, ?_, hg1.lf hx hc.1, fun a => ?_⟩
              · by_cases y : 1 ≤ g3 a
                · obtain ⟨_, _, w2⟩ := at0 a y
                  have := lf a; have := h1 a
                  show f1 a + g3 a ≤ 1
                  omega
                · have := j1 a
                  show f1 a + g3 a ≤ 1
                  omega
              · by_cases y : 1 ≤ g3 a
                · obtain ⟨vs, w1, _⟩ := at0 a y
                  exact ⟨_, w1⟩
                · exact j2 a (by have z : 1 ≤ f1 a + g3 a := z; omega)
              · have q2 := RepS.put (x := t0) (g' := g3) (rs1.lf hx hc.2) (by rw [List.getElem?_set_self hi1]) so (.mk (r3.stp S fun _ => Nat.le_refl _))
                rw [List.set_set] at q2
                exact q2
              · have := hl1 a; have := l5 a
                show gb a + ((g3 a + g6 a) + pr a) ≤ f1 a + g3 a
                omega
            · rw [if_neg hc] at h
              exact h.elim
end
end Hw
set_option Elab.async false
set_option linter.all false
set_option maxRecDepth 100000
set_option maxHeartbeats 2000000
namespace Hw
open PySem PySem.Spec PyProof.Rows L2
theorem plain_marks {c : Expr} (h : plainE c = true) (o : CmpOp) : behindInMarks o c = false := by
  cases o <;> first | rfl | (cases c <;> first | rfl | cases h)
theorem isTup_of {t : Expr} (h : isTupE t = true) : ∃ elts k pos, t = .Tuple elts k pos := by
  cases t <;> first | exact ⟨_, _, _, rfl⟩ | cases h
theorem call_none {R : RC} {x : Str} {as : List CA} {σ : Sig} {H : Hp} {Q : VK} (hf : R.F.fn x = none) (h : tE R (.call x as) σ H Q) : False := by
  obtain ⟨Γ, f, pr, st, h⟩ := h
  simp only [ev, hf] at h
theorem primArgs_cmp {M : MC} {p : P} {l : Expr} {ops : List CmpOp} {cs : List Expr} {pos : Pos} {es : List Expr} (h : primArgs M p (.Compare l ops cs pos) = some es) : ∃ o b, p = .cmp o ∧ ops = [o] ∧ cs = [b] ∧ es = [l, b] := by
  cases p with
  | cmp o =>
    match ops, cs, h with
    | [o'], [b], h =>
      unfold primArgs at h
      dsimp only at h
      split at h
      · rename_i q
        cases h
        exact ⟨o, b, rfl, by rw [eqOp_of q], rfl, rfl⟩
      · cases h
    | [], _, h => exact absurd h (by simp [primArgs])
    | _ :: _ :: _, _, h => exact absurd h (by simp [primArgs])
    | [_], [], h => exact absurd h (by simp [primArgs])
    | [_], _ :: _ :: _, h => exact absurd h (by simp [primArgs])
  | sl a b => cases a <;> cases b <;> exact absurd h (by simp [primArgs])
  | lrg a => cases a <;> exact absurd h (by simp [primArgs])
  | trg a => cases a <;> exact absurd h (by simp [primArgs])
  | _ => exact absurd h (by simp [primArgs])
def isBoolE : Expr → Bool
  | .BoolOp .. => true
  | _ => false
theorem it_folded {M : MC} {tup : Bool} {it : CIt} {e : Expr} (h : mIt M tup it e = true) (env : Env) : ∀ x, foldedSetIterable e env x = pure x := by
  intro x
  cases e <;> first | rfl | skip
  all_goals (cases it <;> first | (exact absurd h (by unfold mIt; exact Bool.false_ne_true)) | skip)
  all_goals (unfold mIt at h; rw [Bool.and_eq_true] at h; exact absurd h.1 Bool.false_ne_true)
section
variable {R : RC} {M : MC} {X : Cx}
theorem mC_none {M : MC} {c : CT} {cs : List CT} {es : List Expr} (h : mC M (c :: cs) es = true) : cs = [] ∧ ∃ e, es = [e] ∧ mT M c e = true := by
  cases cs with
  | nil =>
    match es, h with
    | [e], h => exact ⟨rfl, e, rfl, by unfold mC at h; exact h⟩
    | [], h => unfold mC at h; cases h
    | _ :: _ :: _, h => unfold mC at h; cases h
  | cons c2 cs2 => 
    unfold mC at h
    cases h
end
mutual
theorem sE : ∀ (c : CE) {R : RC} {M : MC} {X : Cx} (ok : XOk R M X) {e : Expr}, mE M c e = true → PE X e (tE R c)
  | .var i, R, M, X, ok, e, h => by
    cases e <;> first | (exact absurd h (by unfold mE; exact Bool.false_ne_true)) | skip
    exact PE.imp (pe_slot ok (by unfold mE at h; exact h)) fun _ _ _ q => var_ok q
  | .mv i, R, M, X, ok, e, h => by
    cases e <;> first | (exact absurd h (by unfold mE; exact Bool.false_ne_true)) | skip
    exact PE.imp (pe_slot ok (by unfold mE at h; exact h)) fun _ _ _ q => mv_ok q
  | .lit d, R, M, X, ok, e, h => by
    cases e <;> first | (exact absurd h (by unfold mE; exact Bool.false_ne_true)) | skip
    exact lit_ok (by unfold mE at h; exact h)
  | .glb x, R, M, X, ok, e, h => by
    cases e <;> first | (exact absurd h (by unfold mE; exact Bool.false_ne_true)) | skip
    unfold mE at h
    rw [Bool.and_eq_true, decide_eq_true_eq] at h
    obtain ⟨rfl, h⟩ := h
    exact glb_ok ok h
  | .prim p as, R, M, X, ok, e, h => by
    unfold mE at h
    split at h
    · rename_i es q
      exact prim_sound ok q (sAs as ok h)
    · cases h
  | .tup as, R, M, X, ok, e, h => by
    cases e <;> first | (exact absurd h (by unfold mE; exact Bool.false_ne_true)) | skip
    exact PE.imp (pe_tup (sAs as ok (by unfold mE at h; exact h)).pa) fun _ _ _ q => tup_ok q
  | .lst as, R, M, X, ok, e, h => by
    cases e <;> first | (exact absurd h (by unfold mE; exact Bool.false_ne_true)) | skip
    exact PE.imp (pe_lst (sAs as ok (by unfold mE at h; exact h)).pa) fun _ _ _ q => lst_ok q
  | .and_ a b, R, M, X, ok, e, h => by
    cases e <;> first | (exact absurd h (by unfold mE; exact Bool.false_ne_true)) | skip
    rename_i op vs pos
    cases op <;> first | (exact absurd h (by unfold mE; exact Bool.false_ne_true)) | skip
    match vs, h with
    | [v, w], h =>
      unfold mE at h
      rw [Bool.and_eq_true] at h
      exact PE.imp (pe_and (sE a ok h.1) (pe_one (sE b ok h.2))) fun _ _ _ q => and_ok q
    | v :: w :: u :: r, h =>
      unfold mE at h
      rw [Bool.and_eq_true] at h
      exact PE.imp (pe_and (sE a ok h.1) (sE b ok h.2)) fun _ _ _ q => and_ok q
    | [], h => exact absurd h (by unfold mE; exact Bool.false_ne_true)
    | [_], h => exact absurd h (by unfold mE; exact Bool.false_ne_true)
  | .or_ a b, R, M, X, ok, e, h => by
    cases e <;> first | (exact absurd h (by unfold mE; exact Bool.false_ne_true)) | skip
    rename_i op vs pos
    cases op <;> first | (exact absurd h (by unfold mE; exact Bool.false_ne_true)) | skip
    match vs, h with
    | [v, w], h =>
      unfold mE at h
      rw [Bool.and_eq_true] at h
      exact PE.imp (pe_or (sE a ok h.1) (pe_one (sE b ok h.2))) fun _ _ _ q => or_ok q
    | v :: w :: u :: r, h =>
      unfold mE at h
      rw [Bool.and_eq_true] at h
      exact PE.imp (pe_or (sE a ok h.1) (sE b ok h.2)) fun _ _ _ q => or_ok q
    | [], h => exact absurd h (by unfold mE; exact Bool.false_ne_true)
    | [_], h => exact absurd h (by unfold mE; exact Bool.false_ne_true)
  | .not_ a, R, M, X, ok, e, h => by
    cases e <;> first | (exact absurd h (by unfold mE; exact Bool.false_ne_true)) | skip
    rename_i op v pos
    cases op <;> first | (exact absurd h (by unfold mE; exact Bool.false_ne_true)) | skip
    exact PE.imp (pe_notT (sE a ok (by unfold mE at h; exact h))) fun _ _ _ q => not_ok ok.K q
  | .ife c a b, R, M, X, ok, e, h => by
    cases e <;> first | (exact absurd h (by unfold mE; exact Bool.false_ne_true)) | skip
    unfold mE at h
    simp only [Bool.and_eq_true] at h
    exact PE.imp (pe_ifExp ((sT c ok h.1).1) (sE a ok h.2.1) (sE b ok h.2.2)) fun _ _ _ q => ife_ok q
  | .chain o1 o2 ab c, R, M, X, ok, e, h => by
    cases e <;> first | (exact absurd h (by unfold mE; exact Bool.false_ne_true)) | skip
    rename_i l ops cs pos
    match ops, cs, h with
    | [p1, p2], [b, c'], h =>
      unfold mE at h
      simp only [Bool.and_eq_true] at h
      obtain ⟨⟨⟨e1, e2⟩, hab⟩, hp, hc⟩ := h
      have := eqOp_of e1; subst this
      have := eqOp_of e2; subst this
      have pab := sAs ab ok hab
      match ab, pab with
      | [ca, cb], pab =>
        obtain ⟨_, _, ee, p1, h1, p2, h2⟩ := pab.two
        cases ee
        refine PE.imp (pe_chain (op_cmp ok.un _) (op_cmp ok.un _) h1 h2 (sE c ok hc) (plain_marks hp _)) fun _ _ _ q => chain_ok ok.K q
      | [], pab => exact absurd pab.length (by simp)
      | [_], pab => exact absurd pab.length (by simp)
      | _ :: _ :: _ :: _, pab => exact absurd pab.length (by simp)
    | [], _, h => exact absurd h (by unfold mE; exact Bool.false_ne_true)
    | [_], _, h => exact absurd h (by unfold mE; exact Bool.false_ne_true)
    | _ :: _ :: _ :: _, _, h => exact absurd h (by unfold mE; exact Bool.false_ne_true)
    | [_, _], [], h => exact absurd h (by unfold mE; exact Bool.false_ne_true)
    | [_, _], [_], h => exact absurd h (by unfold mE; exact Bool.false_ne_true)
    | [_, _], _ :: _ :: _ :: _, h => exact absurd h (by unfold mE; exact Bool.false_ne_true)
  | .call x as, R, M, X, ok, e, h => by
    cases e <;> first | (exact absurd h (by unfold mE; exact Bool.false_ne_true)) | skip
    rename_i fe es ks pos
    cases fe <;> first | (exact absurd h (by unfold mE; exact Bool.false_ne_true)) | skip
    rename_i y p
    match es, ks, h with
    | e :: es, [], h =>
      unfold mE at h
      simp only [Bool.and_eq_true, decide_eq_true_eq] at h
      obtain ⟨⟨rfl, hg⟩, has⟩ := h
      have pes := sAs as ok has
      have pl := pes.plain
      rw [List.all_cons, Bool.and_eq_true] at pl
      obtain ⟨g1, g2, g3⟩ := ok.gl hg
      cases hf : R.F.fn x with
      | none => exact ⟨fun pins s σ H Q I q => (call_none hf q).elim⟩
      | some run =>
        obtain ⟨n, f, fd, ps, k, F, hm, hk, hb, hr, hn⟩ := ok.fns x run hf
        exact PE.imp (Hq.pe_G F ok.gd hr g1 hm hk hb (fun σ => passAt ok.tk σ) pes.pa g2 (star_of pl.1 _ _) (stars_no pl.2)) fun _ _ _ q => call_ok hf hn q
    | [], [], h =>
      cases as with
      | cons a as => exact absurd h (by unfold mE; exact Bool.false_ne_true)
      | nil =>
        unfold mE at h
        simp only [Bool.and_eq_true, decide_eq_true_eq] at h
        obtain ⟨rfl, hg⟩ := h
        obtain ⟨g1, g2, g3⟩ := ok.gl hg
        cases hf : R.F.fn x with
        | none => exact ⟨fun pins s σ H Q I q => (call_none hf q).elim⟩
        | some run =>
          obtain ⟨n, f, fd, ps, k, F, hm, hk, hb, hr, hn⟩ := ok.fns x run hf
          exact PE.imp (Hq.pe_G0 F ok.gd hr g1 hm hk hb (fun σ => passAt ok.tk σ) g2) fun _ _ _ q => as_nil (call_ok hf hn q)
    | [], _ :: _, h => exact absurd h (by cases as <;> (unfold mE; exact Bool.false_ne_true))
    | _ :: _, _ :: _, h => exact absurd h (by unfold mE; exact Bool.false_ne_true)
  | .lc own tg it cond elt, R, M, X, ok, e, h => by
    cases e <;> first | (exact absurd h (by unfold mE; exact Bool.false_ne_true)) | skip
    rename_i ee gens s pos
    match gens, h with
    | [⟨t, i, ifs, 0⟩], h =>
      unfold mE at h
      simp only [Bool.and_eq_true, List.all_eq_true, List.contains_iff_mem] at h
      obtain ⟨⟨⟨⟨hb, ht⟩, ho⟩, hi⟩, hc, he⟩ := h
      have hmap : (ownN M own).map (·.2) = own := by unfold ownN; rw [List.map_map]; exact List.map_id _
      have hblk : blkC X.N X.env.scope s (ownN M own) = true := by rw [ok.N, ok.sc]; exact hb
      have hpi := sIt it ok hi
      have := pe_lc (pos := pos) (elt := ee) (ifs := ifs) ok.calm ok.ndX hpi (blkOk_by hblk) (fun s0 H C cl fp => pg_tg (ok.blk s0 H s C cl fp) ht) (fun s0 H C cl fp => sC cond (ok.blk s0 H s C cl fp) hc) (fun s0 H C cl fp => sE elt (ok.blk s0 H s C cl fp) he) (it_folded hi _)
      rw [hmap] at this
      exact PE.imp this fun _ _ _ q => lc_read ho q
    | [], h => exact absurd h (by unfold mE; exact Bool.false_ne_true)
    | _ :: _ :: _, h => exact absurd h (by unfold mE; simp)
    | [⟨_, _, _, Nat.succ _⟩], h => exact absurd h (by unfold mE; exact Bool.false_ne_true)
  | .pth i es, R, M, X, ok, e, h => by
    unfold mE at h
    split at h
    · rename_i x bs q
      rw [Bool.and_eq_true] at h
      obtain ⟨h1, h2⟩ := sEs es ok h.2
      exact PE.imp (pe_path ok q h.1 h1 h2) fun _ _ _ q => path_read q
    · cases h
  | .pop i as, R, M, X, ok, e, h => by
    cases e <;> first | (exact absurd h (by unfold mE; exact Bool.false_ne_true)) | skip
    rename_i fe es ks pos
    cases fe <;> first | (exact absurd h (by unfold mE; exact Bool.false_ne_true)) | skip
    rename_i oe m apos
    cases oe <;> first | (exact absurd h (by unfold mE; exact Bool.false_ne_true)) | skip
    rename_i x xp
    match ks, h with
    | [], h =>
      unfold mE at h
      simp only [Bool.and_eq_true, decide_eq_true_eq] at h
      obtain ⟨⟨⟨⟨rfl, hv⟩, hl⟩, hn⟩, has⟩ := h
      have pes := sAs as ok has
      match as, pes, hn with
      | [], pes, hn =>
        unfold PEs at pes
        subst pes
        exact PE.imp (pe_bm0 PySem.F.plainAttrs_list PySem.F.slot_list_pop PySem.F.type_list_pop mt_pop (pe_slot ok hv) rfl hl) fun _ _ _ q => by rw [ok.K]; exact pop0_read q
      | [c], pes, hn =>
        obtain ⟨a, rfl, hp, _⟩ := pes.one
        exact PE.imp (pe_bm PySem.F.plainAttrs_list PySem.F.slot_list_pop PySem.F.type_list_pop mt_popAt (pe_slot ok hv) pes.pa rfl (by rw [star_of hp]; rfl) hl (star_of hp _ _) rfl) fun _ _ _ q => by rw [ok.K]; exact pop1_read q
    | _ :: _, h => exact absurd h (by unfold mE; exact Bool.false_ne_true)
  | .idx i a, R, M, X, ok, e, h => by
    unfold mE at h
    split at h
    all_goals first | (cases ‹CE.idx i a = _›) | (cases h)
    rename_i x xp m apos b cpos
    simp only [Bool.and_eq_true, decide_eq_true_eq] at h
    obtain ⟨⟨⟨rfl, hv⟩, hl⟩, hp, ha⟩ := h
    have pa := PA.imp (pa_cons' hp (sE a ok ha) pa_nil) (t' := tAs R [.e a]) fun σ H Q q => tE.mono (as_cons q) fun _ _ q => as_nil q
    exact PE.imp (pe_bm PySem.F.plainAttrs_list PySem.F.slot_list_index PySem.F.type_list_index mt_index (pe_slot (pos := xp) ok hv) pa rfl (by rw [star_of hp]; rfl) hl (star_of hp _ _) rfl) fun _ _ _ q => by rw [ok.K]; exact idx_read q
  | .cntT i, R, M, X, ok, e, h => by
    unfold mE at h
    split at h
    all_goals first | (cases ‹CE.cntT i = _›) | (cases h)
    rename_i x xp m apos c cp1 cp2 cpos
    simp only [Bool.and_eq_true, decide_eq_true_eq] at h
    obtain ⟨⟨⟨rfl, hv⟩, hl⟩, ha⟩ := h
    have pa := PA.imp (pa_cons' (e := .Constant c cp1 cp2) rfl (lit_ok (R := R) (X := X) ha) pa_nil) (t' := tAs R [.e (.lit (.bool true))]) fun σ H Q q => tE.mono (as_cons q) fun _ _ q => as_nil q
    exact PE.imp (pe_bm PySem.F.plainAttrs_list PySem.F.slot_list_count PySem.F.type_list_count Hx.mt_cntT (pe_slot (pos := xp) ok hv) pa rfl (by rw [star_of rfl]; rfl) hl (star_of rfl _ _) rfl) fun _ _ _ q => by rw [ok.K]; exact cntT_read q
  | .stl a, R, M, X, ok, e, h => by
    unfold mE at h
    rw [Bool.and_eq_true] at h
    exact PE.imp (sE a ok h.2) fun _ _ _ q => stl_read q
  | .cpy i a, R, M, X, ok, e, h => by
    unfold mE at h
    rw [Bool.and_eq_true] at h
    exact PE.imp (sE a ok h.2) fun _ _ _ q => cpy_read q
  | .emp, R, M, X, ok, e, h => by
    unfold mE at h
    split at h
    all_goals first | (cases ‹CE.emp = _›) | (cases h)
    exact PE.imp pe_dnewK fun _ _ _ q => emp_read q
  | .dnew, R, M, X, ok, e, h => by
    unfold mE at h
    split at h
    all_goals first | (cases ‹CE.dnew = _›) | (cases h)
    exact PE.imp pe_dnewT fun _ _ _ q => dnew_read q
  | .dget i a b, R, M, X, ok, e, h => by
    unfold mE at h
    split at h
    all_goals first | (cases ‹CE.dget i a b = _›) | (cases h)
    rename_i x xp m apos e1 e2 cpos
    simp only [Bool.and_eq_true, decide_eq_true_eq] at h
    obtain ⟨⟨⟨rfl, hv⟩, hl⟩, ⟨hp1, hp2⟩, ha, hb⟩ := h
    have un := ok.un
    refine PE.imp (pe_dget2 (by omega) (pe_slot (pos := xp) ok hv) (sE a ok ha) (sE b ok hb) ⟨rfl, ?_, hl, ?_⟩) fun _ _ _ q => dget_read q
    · rw [star_of hp1, star_of hp2]; rfl
    · rw [star_of hp1, star_of hp2]; rfl
  | .sl2 a b c, R, M, X, ok, e, h => by
    unfold mE at h
    split at h
    all_goals first | (cases ‹CE.sl2 a b c = _›) | (cases h)
    simp only [Bool.and_eq_true] at h
    exact PE.imp (pe_slice (sl_2 (X := X)) (sE a ok h.1) (po_some (sE b ok h.2.1)) (po_some (sE c ok h.2.2))) fun _ _ _ q => by rw [ok.K]; exact sl2_read q
theorem sAs : ∀ (cs : List CA) {R : RC} {M : MC} {X : Cx} (ok : XOk R M X) {es : List Expr}, mAs M cs es = true → PEs X R cs es
  | [], R, M, X, ok, es, h => by
    cases es with
    | nil => unfold PEs; rfl
    | cons _ _ => unfold mAs at h; cases h
  | c :: cs, R, M, X, ok, es, h => by
    cases es with
    | nil => unfold mAs at h; cases h
    | cons e es =>
      unfold mAs at h
      simp only [Bool.and_eq_true] at h
      exact ⟨e, es, rfl, h.1.1, sA c ok h.1.2, sAs cs ok h.2⟩
theorem sA : ∀ (c : CA) {R : RC} {M : MC} {X : Cx} (ok : XOk R M X) {e : Expr}, mA M c e = true → PE X e (tA R c)
  | .e a, R, M, X, ok, e, h => sE a ok (by unfold mA at h; exact h)
  | .ow a, R, M, X, ok, e, h => sE a ok (by unfold mA at h; exact h)
  | .pk i, R, M, X, ok, e, h => by
    cases e <;> first | (exact absurd h (by unfold mA; exact Bool.false_ne_true)) | skip
    exact pe_slot ok (by unfold mA at h; exact h)
  | .io i, R, M, X, ok, e, h => by
    cases e <;> first | (exact absurd h (by unfold mA; exact Bool.false_ne_true)) | skip
    exact pe_slot ok (by unfold mA at h; exact h)
theorem sEs : ∀ (cs : List CE) {R : RC} {M : MC} {X : Cx} (ok : XOk R M X) {es : List Expr}, mEs M cs es = true → es.length = cs.length ∧ ∀ (j : Nat) b c, es[j]? = some b → cs[j]? = some c → plainE b = true ∧ PE X b (tE R c)
  | [], R, M, X, ok, es, h => by
    cases es with
    | nil => exact ⟨rfl, fun j b c e => by simp at e⟩
    | cons _ _ => unfold mEs at h; cases h
  | c :: cs, R, M, X, ok, es, h => by
    cases es with
    | nil => unfold mEs at h; cases h
    | cons e es =>
      unfold mEs at h
      simp only [Bool.and_eq_true] at h
      obtain ⟨h1, h2⟩ := sEs cs ok h.2
      have h3 := sE c ok h.1.2
      refine ⟨by simp [h1], fun j b d e1 e2 => ?_⟩
      cases j with
      | zero => simp only [List.getElem?_cons_zero, Option.some.injEq] at e1 e2; subst e1 e2; exact ⟨h.1.1, h3⟩
      | succ j => simp only [List.getElem?_cons_succ] at e1 e2; exact h2 j b d e1 e2
theorem sT : ∀ (c : CT) {R : RC} {M : MC} {X : Cx} (ok : XOk R M X) {e : Expr}, mT M c e = true → PT X e (tT R c) ∧ (isBoolE e = true → PW X e (tT R c))
  | .pk i, R, M, X, ok, e, h => by
    cases e <;> first | (exact absurd h (by unfold mT; exact Bool.false_ne_true)) | skip
    exact ⟨PT.imp (pt_truth (pe_slot ok (by unfold mT at h; exact h)) fun _ => rfl) fun _ _ _ q => tpk_read ok.K q, fun z => by cases z⟩
  | .and_ a b, R, M, X, ok, e, h => by
    cases e <;> first | (exact absurd h (by unfold mT; exact Bool.false_ne_true)) | skip
    rename_i op vs pos
    cases op <;> first | (exact absurd h (by unfold mT; exact Bool.false_ne_true)) | skip
    match vs, h with
    | [v, w], h =>
      unfold mT at h
      rw [Bool.and_eq_true] at h
      have := PW.imp (pw_and (pos := pos) (sT a ok h.1).1 (pw_and1 (sT b ok h.2).1)) fun _ _ _ q => tand_read q
      exact ⟨this.pt, fun _ => this⟩
    | v :: w :: u :: r, h =>
      unfold mT at h
      rw [Bool.and_eq_true] at h
      have := PW.imp (pw_and (pos := pos) (sT a ok h.1).1 ((sT b ok h.2).2 rfl)) fun _ _ _ q => tand_read q
      exact ⟨this.pt, fun _ => this⟩
    | [], h => exact absurd h (by unfold mT; exact Bool.false_ne_true)
    | [_], h => exact absurd h (by unfold mT; exact Bool.false_ne_true)
  | .or_ a b, R, M, X, ok, e, h => by
    cases e <;> first | (exact absurd h (by unfold mT; exact Bool.false_ne_true)) | skip
    rename_i op vs pos
    cases op <;> first | (exact absurd h (by unfold mT; exact Bool.false_ne_true)) | skip
    match vs, h with
    | [v, w], h =>
      unfold mT at h
      rw [Bool.and_eq_true] at h
      have := PW.imp (pw_or (pos := pos) (sT a ok h.1).1 (pw_or1 (sT b ok h.2).1)) fun _ _ _ q => tor_read q
      exact ⟨this.pt, fun _ => this⟩
    | v :: w :: u :: r, h =>
      unfold mT at h
      rw [Bool.and_eq_true] at h
      have := PW.imp (pw_or (pos := pos) (sT a ok h.1).1 ((sT b ok h.2).2 rfl)) fun _ _ _ q => tor_read q
      exact ⟨this.pt, fun _ => this⟩
    | [], h => exact absurd h (by unfold mT; exact Bool.false_ne_true)
    | [_], h => exact absurd h (by unfold mT; exact Bool.false_ne_true)
  | .not_ a, R, M, X, ok, e, h => by
    cases e <;> first | (exact absurd h (by unfold mT; exact Bool.false_ne_true)) | skip
    rename_i op v pos
    cases op <;> first | (exact absurd h (by unfold mT; exact Bool.false_ne_true)) | skip
    exact ⟨PT.imp (pt_not (sT a ok (by unfold mT at h; exact h)).1) fun _ _ _ q => tnot_read q, fun z => by cases z⟩
  | .e a, R, M, X, ok, e, h => by
    have hte : tstE e = true ∧ mE M a e = true := by
      unfold mT at h
      rw [Bool.and_eq_true] at h
      exact h
    obtain ⟨ht, he⟩ := hte
    refine ⟨?_, fun z => by cases e <;> first | exact absurd ht Bool.false_ne_true | cases z⟩
    have hE := sE a ok he
    cases e with
    | Compare l ops cs pos =>
      cases a with
      | prim p as =>
        unfold mE at he
        split at he
        · rename_i es q
          obtain ⟨o, b, rfl, rfl, rfl, rfl⟩ := primArgs_cmp q
          have pes := sAs as ok he
          match as, pes with
          | [ca, cb], pes =>
            obtain ⟨_, _, ee, p1, h1, p2, h2⟩ := pes.two
            cases ee
            exact PT.imp (pt_cmpR (op_cmp ok.un _) h1 h2 (plain_marks p2 _)) fun _ _ _ q => cmp_read ok.K (te_bl cmp_bl q)
          | [], pab => exact absurd pab.length (by simp)
          | [_], pab => exact absurd pab.length (by simp)
          | _ :: _ :: _ :: _, pab => exact absurd pab.length (by simp)
        · cases he
      | chain o1 o2 ab c =>
        match ops, cs, he with
        | [p1, p2], [b, c'], he =>
          unfold mE at he
          simp only [Bool.and_eq_true] at he
          obtain ⟨⟨⟨e1, e2⟩, hab⟩, hp, hc⟩ := he
          have := eqOp_of e1; subst this
          have := eqOp_of e2; subst this
          have pab := sAs ab ok hab
          match ab, pab with
          | [ca, cb], pab =>
            obtain ⟨_, _, ee, p1, h1, p2, h2⟩ := pab.two
            cases ee
            exact PT.imp (pt_chain (op_cmp ok.un _) (op_cmp ok.un _) h1 h2 (sE c ok hc) (plain_marks hp _)) fun _ _ _ q => chain_ok ok.K (te_bl chain_bl q)
          | [], pab => exact absurd pab.length (by simp)
          | [_], pab => exact absurd pab.length (by simp)
          | _ :: _ :: _ :: _, pab => exact absurd pab.length (by simp)
        | [], _, h => exact absurd h (by unfold mE; exact Bool.false_ne_true)
        | [_], _, h => exact absurd h (by unfold mE; exact Bool.false_ne_true)
        | _ :: _ :: _ :: _, _, h => exact absurd h (by unfold mE; exact Bool.false_ne_true)
        | [_, _], [], h => exact absurd h (by unfold mE; exact Bool.false_ne_true)
        | [_, _], [_], h => exact absurd h (by unfold mE; exact Bool.false_ne_true)
        | [_, _], _ :: _ :: _ :: _, h => exact absurd h (by unfold mE; exact Bool.false_ne_true)
      | pth i es => exact absurd he (by unfold mE pathOf; exact Bool.false_ne_true)
      | _ => exact absurd he (by unfold mE; exact Bool.false_ne_true)
    | _ => exact PT.imp (pt_truth hE fun w => tst_he ht (fun _ _ _ _ z => by cases z) _ w) fun _ _ _ q => te_truth ok.K q
theorem sC : ∀ (cs : List CT) {R : RC} {M : MC} {X : Cx} (ok : XOk R M X) {es : List Expr}, mC M cs es = true → PTs X es (tC R cs)
  | [], R, M, X, ok, es, h => by
    cases es with
    | nil => exact pts_nil
    | cons _ _ => unfold mC at h; cases h
  | c :: cs, R, M, X, ok, es, h => by
    obtain ⟨rfl, e, rfl, h⟩ := mC_none h
    exact pts_one (sT c ok h).1
theorem sIt : ∀ (it : CIt) {R : RC} {M : MC} {X : Cx} (ok : XOk R M X) {t e : Expr}, mIt M (isTupE t) it e = true → PI X t e (tI R it)
  | .sq a, R, M, X, ok, t, e, h => by
    unfold mIt at h
    rw [Bool.and_eq_true] at h
    have := sE a ok h.2
    exact PI.imp (PI.or (pi_list this) (pi_tup this)) fun _ _ _ q => sq_read ok.K q
  | .rng1 a, R, M, X, ok, t, e, h => by
    cases e <;> first | (exact absurd h (by unfold mIt; exact Bool.false_ne_true)) | skip
    rename_i fe es ks pos
    cases fe <;> first | (exact absurd h (by unfold mIt; exact Bool.false_ne_true)) | skip
    match es, ks, h with
    | [e], [], h =>
      unfold mIt at h
      simp only [Bool.and_eq_true, decide_eq_true_eq] at h
      obtain ⟨⟨rfl, hg⟩, hp, he⟩ := h
      exact PI.imp (pi_range1 (ok.gl hg).1 (ok.blt _ (by decide +kernel)) (pa_cons' hp (sE a ok he) pa_nil) (star_of hp _ _)) fun _ _ _ q => rng1_read q
    | [], _, h => exact absurd h (by unfold mIt; exact Bool.false_ne_true)
    | _ :: _ :: _, _, h => exact absurd h (by unfold mIt; exact Bool.false_ne_true)
    | [_], _ :: _, h => exact absurd h (by unfold mIt; exact Bool.false_ne_true)
  | .rng2 as, R, M, X, ok, t, e, h => by
    cases e <;> first | (exact absurd h (by unfold mIt; exact Bool.false_ne_true)) | skip
    rename_i fe es ks pos
    cases fe <;> first | (exact absurd h (by unfold mIt; exact Bool.false_ne_true)) | skip
    match es, ks, h with
    | [e, e2], [], h =>
      unfold mIt at h
      simp only [Bool.and_eq_true, decide_eq_true_eq] at h
      obtain ⟨⟨rfl, hg⟩, has⟩ := h
      have pes := sAs as ok has
      have pl := pes.plain
      simp only [List.all_cons, List.all_nil, Bool.and_true, Bool.and_eq_true] at pl
      exact PI.imp (pi_range2 (ok.gl hg).1 (ok.blt _ (by decide +kernel)) pes.pa (by rw [star_of pl.1, star_of pl.2]; rfl) (star_of pl.2 _ _)) fun _ _ _ q => rng2_read q
    | [], _, h => exact absurd h (by unfold mIt; exact Bool.false_ne_true)
    | [_], _, h => exact absurd h (by unfold mIt; exact Bool.false_ne_true)
    | _ :: _ :: _ :: _, _, h => exact absurd h (by unfold mIt; exact Bool.false_ne_true)
    | [_, _], _ :: _, h => exact absurd h (by unfold mIt; exact Bool.false_ne_true)
  | .rng3 as, R, M, X, ok, t, e, h => by
    cases e <;> first | (exact absurd h (by unfold mIt; exact Bool.false_ne_true)) | skip
    rename_i fe es ks pos
    cases fe <;> first | (exact absurd h (by unfold mIt; exact Bool.false_ne_true)) | skip
    match es, ks, h with
    | [e, e2, e3], [], h =>
      unfold mIt at h
      simp only [Bool.and_eq_true, decide_eq_true_eq] at h
      obtain ⟨⟨rfl, hg⟩, has⟩ := h
      have pes := sAs as ok has
      have pl := pes.plain
      simp only [List.all_cons, List.all_nil, Bool.and_true, Bool.and_eq_true] at pl
      exact PI.imp (pi_range3 (ok.gl hg).1 (ok.blt _ (by decide +kernel)) pes.pa (star_of pl.1 _ _) (stars_no (es := [e2, e3]) (by simp [pl.2.1, pl.2.2]))) fun _ _ _ q => rng3_read q
    | [], _, h => exact absurd h (by unfold mIt; exact Bool.false_ne_true)
    | [_], _, h => exact absurd h (by unfold mIt; exact Bool.false_ne_true)
    | [_, _], _, h => exact absurd h (by unfold mIt; exact Bool.false_ne_true)
    | _ :: _ :: _ :: _ :: _, _, h => exact absurd h (by unfold mIt; exact Bool.false_ne_true)
    | [_, _, _], _ :: _, h => exact absurd h (by unfold mIt; exact Bool.false_ne_true)
  | .enm a, R, M, X, ok, t, e, h => by
    cases e <;> first | (exact absurd h (by unfold mIt; exact Bool.false_ne_true)) | skip
    rename_i fe es ks pos
    cases fe <;> first | (exact absurd h (by unfold mIt; exact Bool.false_ne_true)) | skip
    match es, ks, h with
    | [e], [], h =>
      unfold mIt at h
      simp only [Bool.and_eq_true, decide_eq_true_eq] at h
      obtain ⟨⟨⟨ht, rfl⟩, hg⟩, hp, he⟩ := h
      obtain ⟨_, _, _, rfl⟩ := isTup_of ht
      exact PI.imp (Hx.pi_enumB (ok.gl hg).1 (ok.blt _ (by decide +kernel)) (sE a ok he) (star_of hp [])) fun _ _ _ q => enm_read ok.K q
    | [], _, h => exact absurd h (by unfold mIt; exact Bool.false_ne_true)
    | _ :: _ :: _, _, h => exact absurd h (by unfold mIt; exact Bool.false_ne_true)
    | [_], _ :: _, h => exact absurd h (by unfold mIt; exact Bool.false_ne_true)
  | .zip as, R, M, X, ok, t, e, h => by
    cases e <;> first | (exact absurd h (by unfold mIt; exact Bool.false_ne_true)) | skip
    rename_i fe es ks pos
    cases fe <;> first | (exact absurd h (by unfold mIt; exact Bool.false_ne_true)) | skip
    match es, ks, h with
    | [e, e2], [], h =>
      unfold mIt at h
      simp only [Bool.and_eq_true, decide_eq_true_eq] at h
      obtain ⟨⟨⟨ht, rfl⟩, hg⟩, has⟩ := h
      obtain ⟨_, _, _, rfl⟩ := isTup_of ht
      have pes := sAs as ok has
      have pl := pes.plain
      simp only [List.all_cons, List.all_nil, Bool.and_true, Bool.and_eq_true] at pl
      exact PI.imp (Hx.pi_zipB (ok.gl hg).1 (ok.blt _ (by decide +kernel)) pes.pa (star_of pl.1 _ _) (stars_no (es := [e2]) (by simp [pl.2]))) fun _ _ _ q => zip_read ok.K q
    | [], _, h => exact absurd h (by unfold mIt; exact Bool.false_ne_true)
    | [_], _, h => exact absurd h (by unfold mIt; exact Bool.false_ne_true)
    | _ :: _ :: _ :: _, _, h => exact absurd h (by unfold mIt; exact Bool.false_ne_true)
    | [_, _], _ :: _, h => exact absurd h (by unfold mIt; exact Bool.false_ne_true)
  | .zip3 as, R, M, X, ok, t, e, h => by
    cases e <;> first | (exact absurd h (by unfold mIt; exact Bool.false_ne_true)) | skip
    rename_i fe es ks pos
    cases fe <;> first | (exact absurd h (by unfold mIt; exact Bool.false_ne_true)) | skip
    match es, ks, h with
    | [e, e2, e3], [], h =>
      unfold mIt at h
      simp only [Bool.and_eq_true, decide_eq_true_eq] at h
      obtain ⟨⟨⟨ht, rfl⟩, hg⟩, has⟩ := h
      obtain ⟨_, _, _, rfl⟩ := isTup_of ht
      have pes := sAs as ok has
      have pl := pes.plain
      simp only [List.all_cons, List.all_nil, Bool.and_true, Bool.and_eq_true] at pl
      exact PI.imp (Hx.pi_zip3 (ok.gl hg).1 (ok.blt _ (by decide +kernel)) pes.pa (star_of pl.1 _ _) (stars_no (es := [e2, e3]) (by simp [pl.2.1, pl.2.2]))) fun _ _ _ q => zip3_read ok.K q
    | [], _, h => exact absurd h (by unfold mIt; exact Bool.false_ne_true)
    | [_], _, h => exact absurd h (by unfold mIt; exact Bool.false_ne_true)
    | [_, _], _, h => exact absurd h (by unfold mIt; exact Bool.false_ne_true)
    | _ :: _ :: _ :: _ :: _, _, h => exact absurd h (by unfold mIt; exact Bool.false_ne_true)
    | [_, _, _], _ :: _, h => exact absurd h (by unfold mIt; exact Bool.false_ne_true)
end
end Hw
set_option Elab.async false
set_option linter.all false
set_option maxRecDepth 100000
set_option maxHeartbeats 1000000
namespace Hw
open PySem PySem.Spec PyProof.Rows L2
def Pin (io : List Nat) (σ σ' : Sig) : Prop := σ'.length = σ.length ∧ ∀ i ∈ io, σ'[i]? = σ[i]?
theorem Pin.refl {io : List Nat} {σ : Sig} : Pin io σ σ := ⟨rfl, fun _ _ => rfl⟩
theorem Pin.trans {io : List Nat} {σ σ1 σ2 : Sig} (h : Pin io σ σ1) (h2 : Pin io σ1 σ2) : Pin io σ σ2 := ⟨h2.1.trans h.1, fun i hi => (h2.2 i hi).trans (h.2 i hi)⟩
theorem Pin.set {io : List Nat} {σ : Sig} {i : Nat} {o : Option V} (h : i ∉ io) : Pin io σ (σ.set i o) := ⟨by rw [List.length_set], fun j hj => List.getElem?_set_ne fun e => h (by rw [e]; exact hj)⟩
def SPost (R : RC) (io : List Nat) (D : Ends) (σ : Sig) (H : Hp) (f pr : Fp) : Option SR → Prop
  | some (.nx Γ') => ∀ σ' H' f', Stp H f pr H' f' → Pin io σ σ' → St0 R.K Γ' σ' H' f' pr → D.nx σ' H'
  | some (.bk Γ') => ∀ σ' H' f', Stp H f pr H' f' → Pin io σ σ' → St0 R.K Γ' σ' H' f' pr → D.bk σ' H'
  | some (.ct Γ') => ∀ σ' H' f', Stp H f pr H' f' → Pin io σ σ' → St0 R.K Γ' σ' H' f' pr → D.ct σ' H'
  | some (.rt t Γ') => ∀ v σ' H' f', Stp H f pr H' f' → Pin io σ σ' → St1 R.K Γ' σ' H' f' pr v t → D.rt v H'
  | some (.ex x Γ') => ∀ C σ' H' f', R.mg x = some (.ref C) → Stp H f pr H' f' → Pin io σ σ' → St0 R.K Γ' σ' H' f' pr → R.W (.ref C) none σ' H'
  | none => False
def tS (R : RC) (io : List Nat) (s : CS) : TS := fun D σ H => ∃ Γ f pr, St0 R.K Γ σ H f pr ∧ SPost R io D σ H f pr (exS R.F s Γ)
def tSs (R : RC) (io : List Nat) (ss : List CS) : TS := fun D σ H => ∃ Γ f pr, St0 R.K Γ σ H f pr ∧ SPost R io D σ H f pr (exB R.F ss Γ)
section
variable {R : RC} {io : List Nat} {D : Ends} {σ : Sig} {H : Hp} {f pr : Fp}
theorem SPost.after {σ1 : Sig} {H1 : Hp} {f1 : Fp} (s : Stp H f pr H1 f1) (p : Pin io σ σ1) {r : Option SR} (h : SPost R io D σ H f pr r) : SPost R io D σ1 H1 f1 pr r := by
  cases r with
  | none => exact h
  | some r =>
    cases r with
    | nx Γ' => exact fun σ' H' f' s2 p2 st => h σ' H' f' (s.trans s2 fun _ => Nat.le_refl _) (p.trans p2) st
    | bk Γ' => exact fun σ' H' f' s2 p2 st => h σ' H' f' (s.trans s2 fun _ => Nat.le_refl _) (p.trans p2) st
    | ct Γ' => exact fun σ' H' f' s2 p2 st => h σ' H' f' (s.trans s2 fun _ => Nat.le_refl _) (p.trans p2) st
    | rt t Γ' => exact fun v σ' H' f' s2 p2 st => h v σ' H' f' (s.trans s2 fun _ => Nat.le_refl _) (p.trans p2) st
    | ex x Γ' => exact fun C σ' H' f' hm s2 p2 st => h C σ' H' f' hm (s.trans s2 fun _ => Nat.le_refl _) (p.trans p2) st
theorem St1.store {K : PySem.W.Frag} {Γ : List Tr} {v : V} {t : Tr} {i : Nat} (st : St1 K Γ σ H f pr v t) : St0 K (Γ.set i t) (σ.set i (some v)) H f pr := by
  obtain ⟨h1, h2, g, ga, hs, hg, hl⟩ := st
  exact ⟨h1, h2, _, fun _ => 0, RepS.store (i := i) hs (.mk hg), trivial, fun a => by have := hl a; show 0 + (ga a + g a + pr a) ≤ f a; omega⟩
theorem set_read {i : Nat} {e : CE} (hi : i ∉ io) (h : tS R io (.set i e) D σ H) : tAsg (tE R e) (gName i) D σ H := by
  obtain ⟨Γ, f, pr, st, h⟩ := h
  simp only [exS] at h
  refine tE_of st ?_
  cases q : ev R.F e Γ with
  | none => simp only [q] at h; exact h
  | some r =>
    cases r with
    | ex y Γ1 => simp only [q] at h; exact fun C H' f' hm s st' => h C σ H' f' hm s .refl st'
    | ok t Γ1 =>
      simp only [q] at h
      intro v H1 f1 s1 st1
      exact h _ H1 f1 s1 (.set hi) st1.store
theorem setAll_ok {K : PySem.W.Frag} : ∀ {is : List Nat} {ts : List Tr} {xs : List V} {Γ Γ1 : List Tr} {σ : Sig} {pr ga : Fp} {Q : Sig → Hp → Prop}, St0 K Γ σ H f (padd pr ga) → RepL K H f ts xs ga → setAll Γ is ts = some Γ1 →
    (∀ i ∈ is, i ∉ io) → (∀ σ1, St0 K Γ1 σ1 H f pr → Pin io σ σ1 → Q σ1 H) → gNames is xs σ H Q
  | [], [], _, _, _, _, _, _, _, st, d, e, _, q => by
    unfold setAll at e; cases e
    unfold RepL at d
    exact ⟨d, q _ (st.less (le_padd _ _)) .refl⟩
  | [], _ :: _, _, _, _, _, _, _, _, _, _, e, _, _ => by unfold setAll at e; cases e
  | _ :: _, [], _, _, _, _, _, _, _, _, _, e, _, _ => by unfold setAll at e; cases e
  | i :: is, t :: ts, _, Γ, Γ1, σ, pr, ga, Q, st, hd, e, hi, q => by
    unfold setAll at e
    obtain ⟨v, r, g1, g2, rfl, h1, h2, hl⟩ := hd
    refine ⟨v, r, rfl, ?_⟩
    have st1 : St1 K Γ σ H f (padd pr g2) v t := by
      obtain ⟨k1, k2, g, gx, hs, _, kl⟩ := st
      exact ⟨k1, k2, g, g1, hs, h1, fun a => by have := kl a; have := hl a; simp only [padd_at] at *; omega⟩
    exact setAll_ok st1.store h2 e (fun j hj => hi j (List.mem_cons_of_mem _ hj)) fun σ1 s1 p => q σ1 s1 (Pin.trans (.set (hi i (List.mem_cons_self ..))) p)
theorem setT_read {K : PySem.W.Frag} (hK : K = R.K) {is : List Nat} {e : CE} (hi : ∀ i ∈ is, i ∉ io) (h : tS R io (.setT is e) D σ H) : tAsg (tE R e) (gTup K is.length (gNames is)) D σ H := by
  subst hK
  obtain ⟨Γ, f, pr, st, h⟩ := h
  simp only [exS] at h
  refine tE_of st ?_
  cases q : ev R.F e Γ with
  | none => simp only [q] at h; exact h
  | some r =>
    cases r with
    | ex y Γ1 => simp only [q] at h; exact fun C H' f' hm s st' => h C σ H' f' hm s .refl st'
    | ok t Γ1 =>
      simp only [q] at h
      intro v H1 f1 s1 st1
      cases q1 : partsOf t with
      | none => simp only [q1, Option.bind_none] at h; exact h.elim
      | some ts =>
        simp only [q1, Option.bind_some] at h
        by_cases hl : is.length = ts.length
        · rw [if_pos hl] at h
          cases q2 : setAll Γ1 is ts with
          | none => simp only [q2, Option.map_none] at h; exact h.elim
          | some Γ2 =>
            simp only [q2, Option.map_some] at h
            obtain ⟨ga, hg, st2⟩ := st1.out
            have key : ∃ a xs, v = .ref a ∧ SqT R.K H1 a xs ∧ RepL R.K H1 f1 ts xs ga := by
              cases t with
              | t xs =>
                unfold partsOf at q1; cases q1
                unfold Rep at hg
                obtain ⟨p, vs, rfl, h1, h2⟩ := hg
                exact ⟨p, vs, rfl, SqT.of (mn_ext _ _ _ _ h1), h2⟩
              | c d =>
                cases d with
                | tuple ds =>
                  unfold partsOf at q1; cases q1
                  unfold Rep Dr at hg
                  obtain ⟨p, vs, rfl, h1, h2⟩ := hg
                  exact ⟨p, vs, rfl, SqT.of (mn_ext _ _ _ _ h1), (RepL.settled h2).mono fun _ => Nat.zero_le _⟩
                | none => unfold partsOf at q1; cases q1
                | bool _ => unfold partsOf at q1; cases q1
                | int _ => unfold partsOf at q1; cases q1
                | str _ => unfold partsOf at q1; cases q1
                | list _ => unfold partsOf at q1; cases q1
                | dict _ => unfold partsOf at q1; cases q1
              | l _ => unfold partsOf at q1; cases q1
              | s _ => unfold partsOf at q1; cases q1
              | gone => unfold partsOf at q1; cases q1
              | d _ => unfold partsOf at q1; cases q1
              | x _ => unfold partsOf at q1; cases q1
            obtain ⟨a, xs, rfl, hsq, hr⟩ := key
            exact ⟨a, xs, rfl, hsq, by rw [hr.length, hl], setAll_ok (io := io) st2 hr q2 hi fun σ1 s2 p => h σ1 H1 f1 s1 p s2⟩
        · rw [if_neg hl] at h; exact h.elim
theorem par_read {i j : Nat} {a b : CE} (hi : i ∉ io) (hj : j ∉ io) (h : tS R io (.par i j a b) D σ H) : tPar i j (tAs R [.e a, .e b]) D σ H := by
  obtain ⟨Γ, f, pr, st, h⟩ := h
  refine ⟨Γ, f, pr, st, ?_⟩
  simp only [exS] at h
  simp only [evAs]
  cases q : ev R.F a Γ with
  | none => simp only [q] at h; exact h
  | some r =>
    cases r with
    | ex y Γ1 => simp only [q] at h; exact fun C H' f' hm s st' => h C σ H' f' hm s .refl st'
    | ok t Γ1 =>
      simp only [q] at h ⊢
      cases q2 : ev R.F b Γ1 with
      | none => simp only [q2] at h; exact h
      | some r2 =>
        cases r2 with
        | ex y Γ2 => simp only [q2] at h; exact fun C H' f' hm s st' => h C σ H' f' hm s .refl st'
        | ok u Γ2 =>
          simp only [q2, AR.cons] at h ⊢
          intro vs H1 f1 s1 st1
          obtain ⟨k1, k2, g, ga, hs, hg, hl⟩ := st1
          obtain ⟨v, r, g1, g2, rfl, h1, h2, h3⟩ := hg
          obtain ⟨w, r, g3, g4, rfl, h4, h5, h6⟩ := h2
          unfold RepA at h5
          subst h5
          refine ⟨v, w, rfl, h _ H1 f1 s1 (Pin.trans (.set hi) (.set hj)) ?_⟩
          have s2 : St1 R.K Γ2 σ H1 f1 (padd pr g3) v t := ⟨k1, k2, g, g1, hs, h1, fun a => by have := hl a; have := h3 a; have := h6 a; simp only [padd_at]; omega⟩
          have s3 := s2.store (i := i)
          have s4 : St1 R.K (Γ2.set i t) (σ.set i (some v)) H1 f1 pr w u := by
            obtain ⟨k1, k2, g, gx, hs, _, kl⟩ := s3
            exact ⟨k1, k2, g, g3, hs, h4, fun a => by have := kl a; simp only [padd_at] at this; omega⟩
          exact s4.store
theorem ex_read {e : CE} (h : tS R io (.ex e) D σ H) : tDrop (tE R e) D σ H := by
  obtain ⟨Γ, f, pr, st, h⟩ := h
  simp only [exS] at h
  refine tE_of st ?_
  cases q : ev R.F e Γ with
  | none => simp only [q] at h; exact h
  | some r =>
    cases r with
    | ex y Γ1 => simp only [q] at h; exact fun C H' f' hm s st' => h C σ H' f' hm s .refl st'
    | ok t Γ1 => simp only [q] at h; exact fun v H1 f1 s1 st1 => h σ H1 f1 s1 .refl st1.drop
theorem ret_read {e : CE} (h : tS R io (.ret e) D σ H) : tRet (tE R e) D σ H := by
  obtain ⟨Γ, f, pr, st, h⟩ := h
  simp only [exS] at h
  refine tE_of st ?_
  cases q : ev R.F e Γ with
  | none => simp only [q] at h; exact h
  | some r =>
    cases r with
    | ex y Γ1 => simp only [q] at h; exact fun C H' f' hm s st' => h C σ H' f' hm s .refl st'
    | ok t Γ1 => simp only [q] at h; exact fun v H1 f1 s1 st1 => h v σ H1 f1 s1 .refl st1
theorem retN_read (h : tS R io .retN D σ H) : tRetN D σ H := by
  obtain ⟨Γ, f, pr, st, h⟩ := h
  simp only [exS] at h
  exact h .non σ H f Stp.refl .refl (st.imp fun ga _ => by unfold Rep Dr; rfl)
theorem nil_read (h : tSs R io [] D σ H) : tNext D σ H := by
  obtain ⟨Γ, f, pr, st, h⟩ := h
  simp only [exB] at h
  exact h σ H f Stp.refl .refl st
theorem cons_read {s : CS} {ss : List CS} (h : tSs R io (s :: ss) D σ H) : tSeq (tS R io s) (tSs R io ss) D σ H := by
  obtain ⟨Γ, f, pr, st, h⟩ := h
  refine ⟨Γ, f, pr, st, ?_⟩
  simp only [exB] at h
  cases q : exS R.F s Γ with
  | none => simp only [q] at h; exact h
  | some r =>
    cases r with
    | nx Γ1 =>
      simp only [q] at h
      exact fun σ' H' f' s1 p st' => ⟨Γ1, f', pr, st', h.after s1 p⟩
    | bk Γ1 => simp only [q] at h; exact h
    | ct Γ1 => simp only [q] at h; exact h
    | rt t Γ1 => simp only [q] at h; exact h
    | ex x Γ1 => simp only [q] at h; exact h
theorem next_read {s : CS} (e : ∀ Γ, exS R.F s Γ = some (.nx Γ)) (h : tS R io s D σ H) : tNext D σ H := by
  obtain ⟨Γ, f, pr, st, h⟩ := h
  rw [e] at h
  exact h σ H f Stp.refl .refl st
theorem pre_read {i : Nat} {s : CS} (h : tS R io (.pre i s) D σ H) : tS R io s D σ H := by
  obtain ⟨Γ, f, pr, st, h⟩ := h
  simp only [exS] at h
  obtain ⟨h1, h2, g, ga, hs, hg, hl⟩ := id st
  have easy : SPost R io D σ H f pr (exS R.F s Γ) → tS R io s D σ H := fun h => ⟨Γ, f, pr, st, h⟩
  cases e : Γ[i]? with
  | none => simp only [e] at h; exact easy h
  | some t =>
    cases t with
    | l xs =>
      simp only [e] at h
      cases e2 : frz (.l xs) with
      | none => simp only [e2] at h; exact h.elim
      | some d =>
        simp only [e2] at h
        obtain ⟨o, g1, g2, e3, ro, rs, hgl⟩ := hs.take e
        obtain ⟨v, rfl, r⟩ := ro.get (by simp)
        have l : ∀ a, (fun a => f a - g1 a) a ≤ f a := fun a => Nat.sub_le _ _
        have dr : Dr R.K (mn H fun a => f a - g1 a) d v := r.frz l e2 fun a => by have := hl a; have := hgl a; have := h1 a; show g1 a + (f a - g1 a) ≤ 1; omega
        have rs' := rs.stp (stp_less (pr := g2) l) (fun _ => Nat.le_refl _)
        have il : i < (Γ.set i .gone).length := by rw [List.length_set]; exact (List.getElem?_eq_some_iff.mp e).1
        have put := RepS.put (i := i) (x := .c d) (o := some v) (g' := fun _ => 0) rs' (by rw [List.getElem?_set_self (by simpa using il)]) e3 (.mk (by unfold Rep; exact dr))
        rw [List.set_set] at put
        refine ⟨Γ.set i (.c d), _, pr, ⟨fun a => by have := h1 a; show f a - g1 a ≤ 1; omega, fun a ha => h2 a (Nat.le_trans ha (l a)), _, fun _ => 0, put, trivial, fun a => ?_⟩, h.after (stp_less l) .refl⟩
        have := hl a; have := hgl a; show 0 + (0 + g2 a + pr a) ≤ f a - g1 a; omega
    | _ => simp only [e] at h; exact easy h
theorem brk_read (h : tS R io .brk D σ H) : tBreak D σ H := by
  obtain ⟨Γ, f, pr, st, h⟩ := h
  simp only [exS] at h
  exact h σ H f Stp.refl .refl st
theorem cnt_read (h : tS R io .cnt D σ H) : tCont D σ H := by
  obtain ⟨Γ, f, pr, st, h⟩ := h
  simp only [exS] at h
  exact h σ H f Stp.refl .refl st
theorem ite_read {c : CT} {a b : List CS} (h : tS R io (.ite c a b) D σ H) : tIfS (tT R c) (tSs R io a) (tSs R io b) D σ H := by
  obtain ⟨Γ, f, pr, st, h⟩ := h
  simp only [exS] at h
  refine tT_of st ?_
  cases q : evT R.F c Γ with
  | none => simp only [q] at h; exact h
  | some r =>
    cases r with
    | ex y Γ1 => simp only [q] at h; exact fun C H' f' hm s st' => h C σ H' f' hm s .refl st'
    | ok k Γ1 =>
      intro H1 f1 s1 st1
      cases k with
      | true => simp only [q] at h; rw [if_pos rfl]; exact ⟨Γ1, f1, pr, st1, h.after s1 .refl⟩
      | false => simp only [q] at h; rw [if_neg Bool.false_ne_true]; exact ⟨Γ1, f1, pr, st1, h.after s1 .refl⟩
theorem rais_read {x : Str} {C : Addr} (hm : R.mg x = some (.ref C)) (h : tS R io (.rais x) D σ H) : R.W (.ref C) none σ H := by
  obtain ⟨Γ, f, pr, st, h⟩ := h
  simp only [exS] at h
  exact h C σ H f hm Stp.refl .refl st
theorem whl_read {n : Nat} {c : CT} {body : List CS} (h : tS R io (.whl n c body) D σ H) : tWhile (tT R c) (tSs R io body) D σ H := by
  obtain ⟨Γ, f, pr, st, h⟩ := h
  simp only [exS] at h
  refine ⟨fun m σ1 H1 => ∃ Γ1 f1, St0 R.K Γ1 σ1 H1 f1 pr ∧ SPost R io D σ1 H1 f1 pr (whL (fun Γ => evT R.F c Γ) (fun Γ => exB R.F body Γ) m Γ1), ⟨n, Γ, f, st, h⟩, ?_⟩
  rintro m σ1 H1 ⟨Γ1, f1, st1, h1⟩
  cases m with
  | zero => simp only [whL] at h1; exact h1.elim
  | succ m =>
    simp only [whL] at h1
    refine tT_of st1 ?_
    cases q : evT R.F c Γ1 with
    | none => simp only [q] at h1; exact h1
    | some r =>
      cases r with
      | ex y Γ2 => simp only [q] at h1; exact fun C H' f' hm s st' => h1 C σ1 H' f' hm s .refl st'
      | ok k Γ2 =>
        intro H2 f2 s2 st2
        cases k with
        | false => simp only [q] at h1; rw [if_neg Bool.false_ne_true]; exact h1 σ1 H2 f2 s2 .refl st2
        | true =>
          simp only [q] at h1
          rw [if_pos rfl]
          have h2 := h1.after s2 .refl
          refine ⟨fun σ3 H3 => ∃ Γ3 f3, St0 R.K Γ3 σ3 H3 f3 pr ∧ SPost R io D σ3 H3 f3 pr (whL (fun Γ => evT R.F c Γ) (fun Γ => exB R.F body Γ) m Γ3), fun σ3 H3 z => ⟨m, Nat.lt_succ_self m, z⟩, Γ2, f2, pr, st2, ?_⟩
          cases q2 : exB R.F body Γ2 with
          | none => simp only [q2] at h2; exact h2
          | some r2 =>
            cases r2 with
            | nx Γ3 => simp only [q2] at h2; exact fun σ' H' f' s3 p st3 => ⟨Γ3, f', st3, h2.after s3 p⟩
            | ct Γ3 => simp only [q2] at h2; exact fun σ' H' f' s3 p st3 => ⟨Γ3, f', st3, h2.after s3 p⟩
            | bk Γ3 => simp only [q2] at h2; exact h2
            | rt t Γ3 => simp only [q2] at h2; exact h2
            | ex x Γ3 => simp only [q2] at h2; exact h2
theorem for_read {tg : CTg} {it : CIt} {body : List CS} (hi : ∀ i ∈ tg.slots, i ∉ io) (h : tS R io (.for_ tg it body) D σ H) : tFor (tI R it) (gTg R.K tg) (tSs R io body) D σ H := by
  obtain ⟨Γ, f, pr, st, h⟩ := h
  simp only [exS] at h
  refine ⟨Γ, f, pr, st, ?_⟩
  cases q : evIt R.F it Γ with
  | none => simp only [q] at h; exact h
  | some r =>
    cases r with
    | ex y Γ1 => simp only [q] at h; exact fun C H' f' hm s st' => h C σ H' f' hm s .refl st'
    | ok ds Γ1 =>
      simp only [q] at h
      intro J H1 f1 s1 st1 wk
      have h := h.after s1 .refl
      refine ⟨fun i m σ2 H2 => ∃ Γ2 f2, i + m = ds.length ∧ Ext (mn H1 f1) (mn H2 f2) ∧ St0 R.K Γ2 σ2 H2 f2 pr ∧ SPost R io D σ2 H2 f2 pr (forL (fun Γ => exB R.F body Γ) (fun Γ d => bindTg Γ tg d) (ds.drop i) Γ2), ⟨ds.length, Γ1, f1, Nat.zero_add _, fun _ _ e => e, st1, h⟩, ?_⟩
      rintro i m σ2 H2 ⟨Γ2, f2, hm, ex2, st2, h2⟩
      have W := wk i H2 f2 st2.alc ex2
      by_cases hlt : i < ds.length
      · right
        have hd : ds.drop i = ds[i] :: ds.drop (i + 1) := List.drop_eq_getElem_cons hlt
        rw [hd] at h2
        obtain ⟨go, yl⟩ := W.1 ds[i] (List.getElem?_eq_getElem hlt)
        refine ⟨go, fun σ3 H3 => ∃ Γ2 f2, i + 1 + (m - 1) = ds.length ∧ Ext (mn H1 f1) (mn H3 f2) ∧ St0 R.K Γ2 σ3 H3 f2 pr ∧ SPost R io D σ3 H3 f2 pr (forL (fun Γ => exB R.F body Γ) (fun Γ d => bindTg Γ tg d) (ds.drop (i + 1)) Γ2),
          fun σ3 H3 ⟨Γ3, f3, e3, x3, s3, p3⟩ => ⟨m - 1, by omega, Γ3, f3, e3, x3, s3, p3⟩, fun x H' hy => ?_⟩
        obtain ⟨xe, dx⟩ := yl x H' hy
        obtain ⟨stg, sg⟩ := st2.grow xe
        have h3 := h2.after (sg pr) .refl
        simp only [forL] at h3
        cases qb : bindTg Γ2 tg ds[i] with
        | none => simp only [qb] at h3; exact h3.elim
        | some Γb =>
          simp only [qb] at h3
          refine bind_ok stg dx qb fun σ4 stb l4 o4 => ?_
          have h4 := h3.after (H1 := H') (f1 := f2) Stp.refl (σ1 := σ4) ⟨l4, fun j hj => o4 j fun z => hi j z hj⟩
          refine ⟨Γb, f2, pr, stb, ?_⟩
          have again : ∀ Γ5 σ5 H5 f5, Stp H' f2 pr H5 f5 → Pin io σ4 σ5 → St0 R.K Γ5 σ5 H5 f5 pr → SPost R io D σ4 H' f2 pr (forL (fun Γ => exB R.F body Γ) (fun Γ d => bindTg Γ tg d) (ds.drop (i + 1)) Γ5) →
              ∃ Γ2 f2, i + 1 + (m - 1) = ds.length ∧ Ext (mn H1 f1) (mn H5 f2) ∧ St0 R.K Γ2 σ5 H5 f2 pr ∧ SPost R io D σ5 H5 f2 pr (forL (fun Γ => exB R.F body Γ) (fun Γ d => bindTg Γ tg d) (ds.drop (i + 1)) Γ2) :=
            fun Γ5 σ5 H5 f5 s5 p5 st5 h5 => ⟨Γ5, f5, by omega, ex2.trans (((sg pr).trans s5 fun _ => Nat.le_refl _).ext), st5, h5.after s5 p5⟩
          cases q2 : exB R.F body Γb with
          | none => simp only [q2] at h4; exact h4
          | some r2 =>
            cases r2 with
            | nx Γ3 => simp only [q2] at h4; exact fun σ' H'' f' s5 p5 st5 => again Γ3 σ' H'' f' s5 p5 st5 h4
            | ct Γ3 => simp only [q2] at h4; exact fun σ' H'' f' s5 p5 st5 => again Γ3 σ' H'' f' s5 p5 st5 h4
            | bk Γ3 => simp only [q2] at h4; exact h4
            | rt t Γ3 => simp only [q2] at h4; exact h4
            | ex x Γ3 => simp only [q2] at h4; exact h4
      · left
        have e : ds.drop i = [] := List.drop_eq_nil_of_le (Nat.le_of_not_lt hlt)
        rw [e] at h2
        simp only [forL] at h2
        exact ⟨W.2 (by omega), h2 σ2 H2 f2 Stp.refl .refl st2⟩
end
end Hw
set_option Elab.async false
set_option linter.all false
set_option maxRecDepth 100000
set_option maxHeartbeats 1000000
namespace Hw
open PySem PySem.Spec PyProof.Rows L2
section
variable {K : PySem.W.Frag} {H : Hp} {f : Fp}
theorem RepL.upd : ∀ {ts : List Tr} {vs : List V} {g : Fp} {j : Nat} {y : Tr}, RepL K H f ts vs g → ts[j]? = some y →
    ∃ v gj gr, vs[j]? = some v ∧ Rep K H f y v gj ∧ (∀ a, gj a + gr a ≤ g a) ∧ ∀ {H' : Hp} {f' : Fp} {y' : Tr} {gj' : Fp}, Stp H f gr H' f' → Rep K H' f' y' v gj' → RepL K H' f' (ts.set j y') vs (padd gj' gr)
  | [], _, _, _, _, _, e => by simp at e
  | x :: ts, _, _, 0, _, h, e => by
    obtain ⟨v, r, g1, g2, rfl, h1, h2, h3⟩ := h
    simp at e; subst e
    exact ⟨v, g1, g2, rfl, h1, h3, fun {H' f' y' gj'} s q => ⟨v, r, gj', g2, rfl, q, h2.stp s fun _ => Nat.le_refl _, fun _ => Nat.le_refl _⟩⟩
  | x :: ts, _, _, j + 1, _, h, e => by
    obtain ⟨v, r, g1, g2, rfl, h1, h2, h3⟩ := h
    obtain ⟨w, gj, gr, e1, q1, q2, q3⟩ := RepL.upd (j := j) h2 (by simpa using e)
    refine ⟨w, gj, padd g1 gr, by simpa using e1, q1, fun a => by have := h3 a; have := q2 a; simp only [padd_at]; omega, fun {H' f' y' gj'} s q => ?_⟩
    exact ⟨v, r, g1, padd gj' gr, rfl, h1.stp s (le_padd _ _), q3 (s.weak (le_padd' _ _)) q, fun a => by simp only [padd_at]; omega⟩
theorem RepL.store : ∀ {ts : List Tr} {vs : List V} {g g' : Fp} {j : Nat} {y : Tr} {v : V}, RepL K H f ts vs g → Rep K H f y v g' → RepL K H f (ts.set j y) (vs.set j v) (padd g' g)
  | [], _, _, _, _, _, _, h, _ => by unfold RepL at h; subst h; unfold RepL; rfl
  | x :: ts, _, _, g', 0, _, _, h, q => by
    obtain ⟨v, r, g1, g2, rfl, h1, h2, h3⟩ := h
    exact ⟨_, r, g', g2, rfl, q, h2, fun a => by have := h3 a; simp only [padd_at]; omega⟩
  | x :: ts, _, _, g', j + 1, _, _, h, q => by
    obtain ⟨v, r, g1, g2, rfl, h1, h2, h3⟩ := h
    exact ⟨v, _, g1, padd g' g2, rfl, h1, RepL.store (j := j) h2 q, fun a => by have := h3 a; simp only [padd_at]; omega⟩
theorem RepL.cat : ∀ {ts : List Tr} {vs : List V} {g g' : Fp} {us : List Tr} {ws : List V}, RepL K H f ts vs g → RepL K H f us ws g' → RepL K H f (ts ++ us) (vs ++ ws) (padd g g')
  | [], _, g, g', _, _, h, q => by unfold RepL at h; subst h; exact q.mono (le_padd' _ _)
  | x :: ts, _, g, g', _, _, h, q => by
    obtain ⟨v, r, g1, g2, rfl, h1, h2, h3⟩ := h
    exact ⟨v, _, g1, padd g2 g', rfl, h1, RepL.cat h2 q, fun a => by have := h3 a; simp only [padd_at]; omega⟩
def nodeV (H : Hp) : V → List Int → V → Prop
  | x, [], o => o = x
  | x, k :: ks, o => ∃ p vs v, x = .ref p ∧ (H p = some (.lst vs) ∨ H p = some (.tup vs)) ∧ atI vs k = some v ∧ nodeV H v ks o
theorem put_node {F : List Tr → Option (List Tr)} {o : V} (hf : ∀ a, f a ≤ 1) : ∀ {ks : List Int} {t t2 : Tr} {x : V} {g : Fp}, Rep K H f t x g → putP F ks t = some t2 → (∀ a, g a ≤ f a) → nodeV H x ks o →
    ∃ p vs xs ys g1, (ks = [] → t = .l xs) ∧ o = .ref p ∧ H p = some (.lst vs) ∧ F xs = some ys ∧ RepL K H f xs vs g1 ∧ (∀ a, one p a + g1 a ≤ g a) ∧
      ∀ {vs2 : List V} {gx : Fp}, RepL K (upd H p (.lst vs2)) f ys vs2 gx → ∃ g2, Rep K (upd H p (.lst vs2)) f t2 x g2 ∧ ∀ a, g2 a + g1 a ≤ g a + gx a
  | [], t, t2, x, g, h, e, hg, nd => by
    unfold nodeV at nd
    subst nd
    cases t with
    | l xs =>
      unfold putP at e
      obtain ⟨ys, e1, e2⟩ := Option.map_eq_some_iff.mp e
      subst e2
      unfold Rep at h
      obtain ⟨p, vs, g1, rfl, hp, rl, l⟩ := h
      exact ⟨p, vs, xs, ys, g1, fun _ => rfl, rfl, hp, e1, rl, l, fun {vs2 gx} q => ⟨padd (one p) gx, by unfold Rep; exact ⟨p, vs2, gx, rfl, upd_same, q, fun _ => Nat.le_refl _⟩, fun a => by have := l a; simp only [padd_at]; omega⟩⟩
    | c d => unfold putP at e; cases e
    | t d => unfold putP at e; cases e
    | s d => unfold putP at e; cases e
    | gone => unfold putP at e; cases e
    | d _ => unfold putP at e; cases e
    | x _ => unfold putP at e; cases e
  | k :: ks, t, t2, x, g, h, e, hg, nd => by
    obtain ⟨p', vs', v', rfl, hor, hat, nd⟩ := nd
    cases t with
    | l xs =>
      unfold putP at e
      obtain ⟨j, ej, e⟩ := Option.bind_eq_some_iff.mp e
      obtain ⟨y, ey, e⟩ := Option.bind_eq_some_iff.mp e
      obtain ⟨y2, e2, e⟩ := Option.map_eq_some_iff.mp e
      subst e
      unfold Rep at h
      obtain ⟨p0, vs, g', hp', hp, rl, l⟩ := h
      cases hp'
      have hvs : vs' = vs := by rcases hor with z | z <;> (rw [hp] at z; cases z); rfl
      subst hvs
      obtain ⟨v, gj, gr, ev, rv, lj, up⟩ := rl.upd ey
      have : v' = v := by
        unfold atI at hat
        rw [rl.length] at hat
        rw [ej] at hat
        exact Option.some.inj ((show vs'[j]? = some v' from hat).symm.trans ev)
      subst this
      obtain ⟨p, ws, zs, ys, g1, _, rfl, hpp, eF, rl1, l1, fin⟩ := put_node hf rv e2 (fun a => by have := lj a; have := l a; have := hg a; omega) nd
      have pp : 1 ≤ gj p := by have := l1 p; rw [one_self] at this; omega
      have ne : p' ≠ p := fun z => by subst z; have := l p'; have := lj p'; have := hg p'; have := hf p'; rw [one_self] at *; omega
      have sw : ∀ vs2, Stp H f gr (upd H p (.lst vs2)) f := fun vs2 => stp_write (K := K) (by have := lj p; have := l p; have := hg p; omega) gr (by have := lj p; have := l p; have := hg p; have := hf p; omega)
      refine ⟨p, ws, zs, ys, g1, (fun z => by cases z), rfl, hpp, eF, rl1, fun a => by have := l1 a; have := lj a; have := l a; omega, fun {vs2 gx} q => ?_⟩
      obtain ⟨g2, r2, l2⟩ := fin q
      refine ⟨padd (one p') (padd g2 gr), ?_, fun a => by have := l2 a; have := lj a; have := l a; simp only [padd_at]; omega⟩
      unfold Rep
      exact ⟨p', vs', padd g2 gr, rfl, by rw [upd_ne ne]; exact hp, up (sw vs2) r2, fun _ => Nat.le_refl _⟩
    | t xs =>
      unfold putP at e
      obtain ⟨j, ej, e⟩ := Option.bind_eq_some_iff.mp e
      obtain ⟨y, ey, e⟩ := Option.bind_eq_some_iff.mp e
      obtain ⟨y2, e2, e⟩ := Option.map_eq_some_iff.mp e
      subst e
      unfold Rep at h
      obtain ⟨p0, vs, hp', hp, rl⟩ := h
      cases hp'
      have hp0 := mn_some hp
      have hvs : vs' = vs := by rcases hor with z | z <;> (rw [hp0.2] at z; cases z); rfl
      subst hvs
      obtain ⟨v, gj, gr, ev, rv, lj, up⟩ := rl.upd ey
      have : v' = v := by
        unfold atI at hat
        rw [rl.length] at hat
        rw [ej] at hat
        exact Option.some.inj ((show vs'[j]? = some v' from hat).symm.trans ev)
      subst this
      obtain ⟨p, ws, zs, ys, g1, _, rfl, hpp, eF, rl1, l1, fin⟩ := put_node hf rv e2 (fun a => by have := lj a; have := hg a; omega) nd
      have pp : 1 ≤ gj p := by have := l1 p; rw [one_self] at this; omega
      have ne : p' ≠ p := fun z => by subst z; have := lj p'; have := hg p'; omega
      have sw : ∀ vs2, Stp H f gr (upd H p (.lst vs2)) f := fun vs2 => stp_write (K := K) (by have := lj p; have := hg p; omega) gr (by have := lj p; have := hg p; have := hf p; omega)
      refine ⟨p, ws, zs, ys, g1, (fun z => by cases z), rfl, hpp, eF, rl1, fun a => by have := l1 a; have := lj a; omega, fun {vs2 gx} q => ?_⟩
      obtain ⟨g2, r2, l2⟩ := fin q
      refine ⟨padd g2 gr, ?_, fun a => by have := l2 a; have := lj a; simp only [padd_at]; omega⟩
      unfold Rep
      exact ⟨p', vs', rfl, mn_of hp0.1 (by rw [upd_ne ne]; exact hp0.2), up (sw vs2) r2⟩
    | c d => unfold putP at e; cases e
    | s d => unfold putP at e; cases e
    | gone => unfold putP at e; cases e
    | d _ => unfold putP at e; cases e
    | x _ => unfold putP at e; cases e
theorem put_fin {Γ : List Tr} {σ : Sig} {F : List Tr → Option (List Tr)} {ks : List Int} {t t2 : Tr} {v0 o : V} {pr ga g : Fp} {i : Nat} (st : St0 K Γ σ H f (padd (padd pr ga) g)) (r : Rep K H f t v0 g) (hp : putP F ks t = some t2) (nd : nodeV H v0 ks o)
    (hi : Γ[i]? = some .gone) (hv : σ[i]? = some (some v0)) :
    ∃ p vs xs ys, (ks = [] → t = .l xs) ∧ o = .ref p ∧ H p = some (.lst vs) ∧ F xs = some ys ∧ vs.length = xs.length ∧
      ∀ {vs2 : List V}, (∀ g1, Stp H f ga (upd H p (.lst vs2)) f → RepL K (upd H p (.lst vs2)) f xs vs g1 → ∃ gx, RepL K (upd H p (.lst vs2)) f ys vs2 gx ∧ ∀ a, gx a ≤ ga a + g1 a) →
        Stp H f pr (upd H p (.lst vs2)) f ∧ St0 K (Γ.set i t2) σ (upd H p (.lst vs2)) f pr := by
  obtain ⟨h1, h2, gs, _, hs, _, hl⟩ := id st
  obtain ⟨p, vs, xs, ys, g1, tt, rfl, hpp, eF, rl, l1, fin⟩ := put_node h1 r hp (fun a => by have := hl a; simp only [padd_at] at this; omega) nd
  refine ⟨p, vs, xs, ys, tt, rfl, hpp, eF, rl.length, fun {vs2} q => ?_⟩
  have pp : 1 ≤ g p := by have := l1 p; rw [one_self] at this; omega
  have fp : 1 ≤ f p := by have := hl p; simp only [padd_at] at this; omega
  have z : gs p = 0 ∧ pr p = 0 ∧ ga p = 0 ∧ g1 p = 0 := by
    have := hl p; have := h1 p; have := l1 p; simp only [padd_at, one_self] at *; omega
  have sw : ∀ gg : Fp, gg p = 0 → Stp H f gg (upd H p (.lst vs2)) f := fun gg hz => stp_write (K := K) fp gg hz
  obtain ⟨gx, rx, lx⟩ := q g1 (sw ga z.2.2.1) (rl.stp (sw g1 z.2.2.2) fun _ => Nat.le_refl _)
  obtain ⟨g2, r2, l2⟩ := fin rx
  refine ⟨sw pr z.2.1, h1, fun a ha => ?_, _, fun _ => 0, RepS.put (hs.stp (sw gs z.1) fun _ => Nat.le_refl _) hi hv (.mk r2), trivial, fun a => by have := hl a; have := l2 a; have := lx a; simp only [padd_at] at *; omega⟩
  by_cases e : a = p
  · subst e; exact ⟨_, upd_same⟩
  · obtain ⟨u, hu⟩ := h2 a ha
    exact ⟨u, by rw [upd_ne e]; exact hu⟩
end
section
variable {R : RC} {io : List Nat} {D : Ends} {σ : Sig} {Q : VK}
theorem walk_path {F : List Tr → Option (List Tr)} : ∀ {es : List CE} {Γ Γ2 : List Tr} {f pr : Fp} {H : Hp} {x : V} {t t2 : Tr} {g : Fp} {avs : List AV} {ks : List Int} {Q : VK}, St0 R.K Γ σ H f pr → Rep R.K H f t x g → (∀ a, g a ≤ pr a) →
    evAs R.F (es.map .e) Γ = some (.ok avs Γ2) → idxs avs = some ks → putP F ks t = some t2 →
    (∀ o H' f', Stp H f pr H' f' → St0 R.K Γ2 σ H' f' pr → (∀ H'' f'', Stp H' f' pr H'' f'' → nodeV H'' x ks o) → Q o H') → pthK R es x σ H Q
  | [], Γ, Γ2, f, pr, H, x, t, t2, g, avs, ks, Q, st, r, lg, ea, ek, ep, q => by
    simp only [List.map_nil, evAs] at ea
    cases ea
    unfold idxs at ek
    cases ek
    exact q x H f Stp.refl st fun _ _ _ => rfl
  | e :: es, Γ, Γ2, f, pr, H, x, t, t2, g, avs, ks, Q, st, r, lg, ea, ek, ep, q => by
    simp only [List.map_cons, evAs] at ea
    show tE R e σ H fun y H1 => rIx R.K x y H1 fun z H2 => pthK R es z σ H2 Q
    refine tE_of st ?_
    cases q1 : ev R.F e Γ with
    | none => simp only [q1] at ea; cases ea
    | some rr =>
      cases rr with
      | ex y Γ1 => simp only [q1] at ea; cases ea
      | ok te Γ1 =>
        simp only [q1] at ea
        cases q2 : evAs R.F (es.map .e) Γ1 with
        | none => simp only [q2, AR.cons] at ea; cases ea
        | some r2 =>
          cases r2 with
          | ex y Γ3 => simp only [q2, AR.cons] at ea; cases ea
          | ok avs2 Γ3 =>
            simp only [q2, AR.cons] at ea
            cases ea
            unfold idxs at ek
            cases q3 : asInt te with
            | none => simp only [q3] at ek; cases ek
            | some k =>
              cases q4 : idxs avs2 with
              | none => simp only [q3, q4] at ek; cases ek
              | some ks2 =>
                simp only [q3, q4] at ek
                cases ek
                intro v H1 f1 s1 st1
                have hk : v = .int k := by
                  obtain ⟨_, _, _, ga, _, hg, _⟩ := id st1
                  exact asInt_rep ⟨ga, hg⟩ q3
                subst hk
                have r1 := r.stp s1 lg
                have st2 := st1.drop
                have stay : ∀ {p : Addr} {u : HO}, 1 ≤ g p ∨ f1 p = 0 → H1 p = some u → ∀ {H' : Hp} {f' : Fp}, Stp H1 f1 pr H' f' → H' p = some u := fun {p u} hor e {H' f'} s => hor.elim (fun z => s.2 p u (Nat.le_trans z (lg p)) e) fun z => (s.1 p u e z).1
                have fin : ∀ {p : Addr} {vs : List V} {z : V}, x = .ref p → (1 ≤ g p ∨ f1 p = 0) → (H1 p = some (.lst vs) ∨ H1 p = some (.tup vs)) → atI vs k = some z → ∀ o H' f', Stp H1 f1 pr H' f' → St0 R.K Γ2 σ H' f' pr → (∀ H'' f'', Stp H' f' pr H'' f'' → nodeV H'' z ks2 o) → Q o H' :=
                  fun {p vs z} hx hor hh hz o H' f' s st' nd => q o H' f' (s1.trans s fun _ => Nat.le_refl _) st' fun H'' f'' s2 => ⟨p, vs, z, hx, hh.imp (fun e => stay hor e (s.trans s2 fun _ => Nat.le_refl _)) (fun e => stay hor e (s.trans s2 fun _ => Nat.le_refl _)), hz, nd H'' f'' s2⟩
                cases t with
                | l xs =>
                  unfold putP at ep
                  obtain ⟨j, ej, ep⟩ := Option.bind_eq_some_iff.mp ep
                  obtain ⟨y, ey, ep⟩ := Option.bind_eq_some_iff.mp ep
                  obtain ⟨y2, e2, ep⟩ := Option.map_eq_some_iff.mp ep
                  unfold Rep at r1
                  obtain ⟨p, vs, g', rfl, hp, rl, l⟩ := r1
                  obtain ⟨z, gz, ez, rz, lz⟩ := rl.get ey
                  have hz : atI vs k = some z := by
                    unfold atI
                    rw [rl.length, ej]; exact ez
                  exact .inl ⟨p, vs, k, z, rfl, rfl, SqL.of hp, hz, walk_path st2 rz (fun a => by have := lz a; have := l a; have := lg a; omega) q2 q4 e2 (fin rfl (.inl (by have := l p; rw [one_self] at this; omega)) (.inl hp) hz)⟩
                | t xs =>
                  unfold putP at ep
                  obtain ⟨j, ej, ep⟩ := Option.bind_eq_some_iff.mp ep
                  obtain ⟨y, ey, ep⟩ := Option.bind_eq_some_iff.mp ep
                  obtain ⟨y2, e2, ep⟩ := Option.map_eq_some_iff.mp ep
                  unfold Rep at r1
                  obtain ⟨p, vs, rfl, hp, rl⟩ := r1
                  obtain ⟨z, gz, ez, rz, lz⟩ := rl.get ey
                  have hp0 := mn_some hp
                  have hz : atI vs k = some z := by
                    unfold atI
                    rw [rl.length, ej]; exact ez
                  exact .inr (.inl ⟨p, vs, k, z, rfl, rfl, SqT.of hp0.2, hz, walk_path st2 rz (fun a => by have := lz a; have := lg a; omega) q2 q4 e2 (fin rfl (.inr hp0.1) (.inr hp0.2) hz)⟩)
                | c d => unfold putP at ep; cases ep
                | s d => unfold putP at ep; cases ep
                | gone => unfold putP at ep; cases ep
                | d _ => unfold putP at ep; cases ep
                | x _ => unfold putP at ep; cases ep
theorem setp_read {i : Nat} {es : List CE} {l e : CE} {H : Hp} (h : tS R io (.setp i es l e) D σ H) : tAsg (tE R e) (gSub (tPth R (tVar i) es) (tE R l) rSetL) D σ H := by
  obtain ⟨Γ, f, pr, st, h⟩ := h
  simp only [exS] at h
  refine tE_of st ?_
  cases q : ev R.F e Γ with
  | none => simp only [q] at h; exact h
  | some r =>
    cases r with
    | ex y Γ1 => simp only [q] at h; exact fun C H' f' hm s st' => h C σ H' f' hm s .refl st'
    | ok tv Γ1 =>
      simp only [q] at h
      intro v H1 f1 s1 st1
      cases e1 : Γ1[i]? with
      | none => simp only [e1] at h; exact h.elim
      | some t =>
        by_cases n : t = .gone
        · subst n; simp only [e1] at h; exact h.elim
        have h : SPost R io D σ H f pr (match evAs R.F (es.map .e) (Γ1.set i .gone) with
            | some (.ok avs Γ2) => (match idxs avs with
              | some ks => (match ev R.F l Γ2 with
                | some (.ok tl Γ3) => (match asInt tl, Γ3[i]? with
                  | some k, some .gone => (match putP (setAt k tv) ks t with
                    | some t' => some (.nx (Γ3.set i t'))
                    | none => none)
                  | _, _ => none)
                | _ => none)
              | none => none)
            | _ => none) := by
          cases t <;> first | exact absurd rfl n | (simp only [e1] at h; exact h)
        cases q2 : evAs R.F (es.map .e) (Γ1.set i .gone) with
        | none => simp only [q2] at h; exact h.elim
        | some r2 =>
          cases r2 with
          | ex y Γ2 => simp only [q2] at h; exact h.elim
          | ok avs Γ2 =>
            simp only [q2] at h
            cases q3 : idxs avs with
            | none => simp only [q3] at h; exact h.elim
            | some ks =>
              simp only [q3] at h
              cases q4 : ev R.F l Γ2 with
              | none => simp only [q4] at h; exact h.elim
              | some r4 =>
                cases r4 with
                | ex y Γ3 => simp only [q4] at h; exact h.elim
                | ok tl Γ3 =>
                  simp only [q4] at h
                  cases q5 : asInt tl with
                  | none => simp only [q5] at h; exact h.elim
                  | some k =>
                    cases e3 : Γ3[i]? with
                    | none => simp only [q5, e3] at h; exact h.elim
                    | some t3 =>
                      cases t3 with
                      | gone =>
                        simp only [q5, e3] at h
                        cases q6 : putP (setAt k tv) ks t with
                        | none => simp only [q6] at h; exact h.elim
                        | some t' =>
                          simp only [q6] at h
                          obtain ⟨ga, hg, st2⟩ := st1.out
                          obtain ⟨v0, g, hv, r0, st3⟩ := st2.takeOut e1 n
                          show tPth R (tVar i) es σ H1 _
                          rw [tPth_eq]
                          refine ⟨v0, hv, walk_path st3 r0 (le_padd' _ _) q2 q3 q6 fun o H2 f2 s2 st4 nd => ?_⟩
                          refine tE_of st4 ?_
                          rw [q4]
                          intro iv H3 f3 s3 st5
                          have hk : iv = .int k := by
                            obtain ⟨_, _, _, gb, _, hgb, _⟩ := id st5
                            exact asInt_rep ⟨gb, hgb⟩ q5
                          subst hk
                          have s23 := s2.trans s3 fun _ => Nat.le_refl _
                          have r3 := r0.stp s23 (le_padd' _ _)
                          have hg3 := hg.stp s23 fun a => by simp only [padd_at]; omega
                          obtain ⟨p, vs, xs, ys, _, rfl, hp, eF, hl, fin⟩ := put_fin st5.drop r3 q6 (nd H3 f3 s3) e3 hv
                          unfold setAt at eF
                          obtain ⟨j, ej, ey⟩ := Option.map_eq_some_iff.mp eF
                          subst ey
                          obtain ⟨sw, st6⟩ := fin (vs2 := vs.set j v) fun g1 sg rl => ⟨padd ga g1, rl.store (hg3.stp sg fun _ => Nat.le_refl _), fun a => Nat.le_refl _⟩
                          refine ⟨p, vs, k, j, rfl, rfl, hp, by rw [hl]; exact ej, ?_⟩
                          exact h σ _ f3 (s1.trans ((s23.weak fun a => by simp only [padd_at]; omega).trans sw fun _ => Nat.le_refl _) fun _ => Nat.le_refl _) .refl st6
                      | d _ => simp only [q5, e3] at h; exact h.elim
                      | x _ => simp only [q5, e3] at h; exact h.elim
                      | c d => simp only [q5, e3] at h; exact h.elim
                      | l d => simp only [q5, e3] at h; exact h.elim
                      | t d => simp only [q5, e3] at h; exact h.elim
                      | s d => simp only [q5, e3] at h; exact h.elim
theorem node_ty {H : Hp} {f : Fp} {F : List Tr → Option (List Tr)} {ks : List Int} {t t2 : Tr} {x o : V} {g pr : Fp} {Γ : List Tr} (st : St0 R.K Γ σ H f (padd pr g)) (r : Rep R.K H f t x g) (hp : putP F ks t = some t2) (nd : nodeV H x ks o) : tyV R.K "list" o H := by
  obtain ⟨h1, h2, gs, _, hs, _, hl⟩ := id st
  obtain ⟨p, vs, xs, ys, g1, _, rfl, hpp, _⟩ := put_node h1 r hp (fun a => by have := hl a; simp only [padd_at] at this; omega) nd
  exact ty_list hpp
theorem app_read {i : Nat} {e0 : CE} {es : List CE} {e : CE} {H : Hp} (h : tS R io (.app i (e0 :: es) e) D σ H) : tDrop (tBM R.K "list" rAppend (tPth R (tVar i) (e0 :: es)) (tAs R [.e e])) D σ H := by
  obtain ⟨Γ, f, pr, st, h⟩ := h
  simp only [exS] at h
  revert h
  generalize e0 :: es = es
  intro h
  cases e1 : Γ[i]? with
  | none => simp only [e1] at h; exact h.elim
  | some t =>
    by_cases n : t = .gone
    · subst n; simp only [e1] at h; exact h.elim
    have h : SPost R io D σ H f pr (match evAs R.F (es.map .e) (Γ.set i .gone) with
        | some (.ok avs Γ2) => (match idxs avs with
          | some ks => (match ev R.F e Γ2 with
            | some (.ok v Γ3) => (match Γ3[i]? with
              | some .gone => (match putP (appAt v) ks t with
                | some t' => some (.nx (Γ3.set i t'))
                | none => none)
              | _ => none)
            | _ => none)
          | none => none)
        | _ => none) := by
      cases t <;> first | exact absurd rfl n | (simp only [e1] at h; exact h)
    cases q2 : evAs R.F (es.map .e) (Γ.set i .gone) with
    | none => simp only [q2] at h; exact h.elim
    | some r2 =>
      cases r2 with
      | ex y Γ2 => simp only [q2] at h; exact h.elim
      | ok avs Γ2 =>
        simp only [q2] at h
        cases q3 : idxs avs with
        | none => simp only [q3] at h; exact h.elim
        | some ks =>
          simp only [q3] at h
          cases q4 : ev R.F e Γ2 with
          | none => simp only [q4] at h; exact h.elim
          | some r4 =>
            cases r4 with
            | ex y Γ3 => simp only [q4] at h; exact h.elim
            | ok tv Γ3 =>
              simp only [q4] at h
              cases e3 : Γ3[i]? with
              | none => simp only [e3] at h; exact h.elim
              | some t3 =>
                cases t3 with
                | gone =>
                  simp only [e3] at h
                  cases q6 : putP (appAt tv) ks t with
                  | none => simp only [q6] at h; exact h.elim
                  | some t' =>
                    simp only [q6] at h
                    obtain ⟨v0, g, hv, r0, st3⟩ := st.takeOut e1 n
                    show tPth R (tVar i) es σ H _
                    rw [tPth_eq]
                    refine ⟨v0, hv, walk_path st3 r0 (le_padd' _ _) q2 q3 q6 fun o H2 f2 s2 st4 nd => ?_⟩
                    refine ⟨node_ty st4 (r0.stp s2 (le_padd' _ _)) q6 (nd H2 f2 Stp.refl), Γ2, f2, padd pr g, st4, ?_⟩
                    simp only [evAs, q4, AR.cons]
                    intro ws H3 f3 s3 st5
                    obtain ⟨gb, hgb, st6⟩ := st5.out
                    obtain ⟨v, rr, g1, g2, rfl, hv1, hv2, hv3⟩ := hgb
                    unfold RepA at hv2
                    subst hv2
                    have r3 := r0.stp (s2.trans s3 fun _ => Nat.le_refl _) (le_padd' _ _)
                    have st7 : St0 R.K Γ3 σ H3 f3 (padd (padd pr g1) g) := st6.less fun a => by have := hv3 a; simp only [padd_at]; omega
                    obtain ⟨p, vs, xs, ys, _, rfl, hp, eF, hl, fin⟩ := put_fin st7 r3 q6 (nd H3 f3 s3) e3 hv
                    unfold appAt at eF
                    split at eF
                    · rename_i hz
                      cases eF
                      obtain ⟨sw, st8⟩ := fin (vs2 := vs ++ [v]) fun g0 sg rl => ⟨padd g0 g1, rl.cat (by exact ⟨v, [], g1, fun _ => 0, rfl, hv1.stp sg fun _ => Nat.le_refl _, by unfold RepL; rfl, fun a => Nat.le_refl _⟩), fun a => by simp only [padd_at]; omega⟩
                      refine ⟨p, vs, v, rfl, rfl, hp, by rw [hl]; exact hz, ?_⟩
                      exact h σ _ f3 ((((s2.trans s3 fun _ => Nat.le_refl _).weak (le_padd _ _))).trans sw fun _ => Nat.le_refl _) .refl st8
                    · cases eF
                | d _ => simp only [e3] at h; exact h.elim
                | x _ => simp only [e3] at h; exact h.elim
                | c d => simp only [e3] at h; exact h.elim
                | l d => simp only [e3] at h; exact h.elim
                | t d => simp only [e3] at h; exact h.elim
                | s d => simp only [e3] at h; exact h.elim
theorem app0_read {i : Nat} {e : CE} {H : Hp} (h : tS R io (.app i [] e) D σ H) : tDrop (tBM R.K "list" rAppend (tVar i) (tAs R [.e e])) D σ H := by
  obtain ⟨Γ, f, pr, st, h⟩ := h
  simp only [exS] at h
  cases e1 : Γ[i]? with
  | none => simp only [e1] at h; exact h.elim
  | some t =>
    cases t with
    | l xs0 =>
      simp only [e1] at h
      obtain ⟨v0, g0, hv, r0, _⟩ := st.takeOut e1 (by simp)
      obtain ⟨p0, vs0, rfl, hp0, _, _⟩ := pop_core st e1 hv
      refine ⟨.ref p0, hv, ty_list hp0, Γ, f, pr, st, ?_⟩
      simp only [evAs]
      cases q : ev R.F e Γ with
      | none => simp only [q] at h; exact h
      | some r =>
        cases r with
        | ex y Γ1 => simp only [q] at h; exact fun C H' f' hm s st' => h C σ H' f' hm s .refl st'
        | ok tv Γ1 =>
          simp only [q, AR.cons] at h ⊢
          intro ws H1 f1 s1 st1
          obtain ⟨gb, hgb, st2⟩ := st1.out
          obtain ⟨v, rr, g1, g2, rfl, hv1, hv2, hv3⟩ := hgb
          unfold RepA at hv2
          subst hv2
          cases e3 : Γ1[i]? with
          | none => simp only [e3] at h; exact h.elim
          | some t3 =>
            cases t3 with
            | l xs =>
              simp only [e3] at h
              by_cases hz : xs.length < sizeLine
              · rw [if_pos hz] at h
                obtain ⟨w, g, hw, r3, st3⟩ := st2.takeOut e3 (by simp)
                rw [hv] at hw; cases hw
                have st7 : St0 R.K (Γ1.set i .gone) σ H1 f1 (padd (padd pr g1) g) := st3.less fun a => by have := hv3 a; simp only [padd_at]; omega
                have hi : (Γ1.set i .gone)[i]? = some .gone := List.getElem?_set_self (List.getElem?_eq_some_iff.mp e3).1
                obtain ⟨p, vs, xs', ys, tt, ho, hp, eF, hl, fin⟩ := put_fin (F := appAt tv) (ks := []) (o := .ref p0) (t2 := .l (xs ++ [tv])) st7 r3 (by unfold putP appAt; rw [if_pos hz]; rfl) rfl hi hv
                cases ho
                cases tt rfl
                unfold appAt at eF
                rw [if_pos hz] at eF
                cases eF
                obtain ⟨sw, st8⟩ := fin (vs2 := vs ++ [v]) fun g0 sg rl => ⟨padd g0 g1, rl.cat (by exact ⟨v, [], g1, fun _ => 0, rfl, hv1.stp sg fun _ => Nat.le_refl _, by unfold RepL; rfl, fun a => Nat.le_refl _⟩), fun a => by simp only [padd_at]; omega⟩
                rw [List.set_set] at st8
                exact ⟨p0, vs, v, rfl, rfl, hp, by rw [hl]; exact hz, h σ _ f1 (s1.trans sw fun _ => Nat.le_refl _) .refl st8⟩
              · rw [if_neg hz] at h; exact h.elim
            | c d => simp only [e3] at h; exact h.elim
            | gone => simp only [e3] at h; exact h.elim
            | d _ => simp only [e3] at h; exact h.elim
            | x _ => simp only [e3] at h; exact h.elim
            | t d => simp only [e3] at h; exact h.elim
            | s d => simp only [e3] at h; exact h.elim
    | c d => simp only [e1] at h; exact h.elim
    | gone => simp only [e1] at h; exact h.elim
    | d _ => simp only [e1] at h; exact h.elim
    | x _ => simp only [e1] at h; exact h.elim
    | t d => simp only [e1] at h; exact h.elim
    | s d => simp only [e1] at h; exact h.elim
theorem ext_read {i : Nat} {e : CE} {H : Hp} (h : tS R io (.ext i e) D σ H) : tDrop (tBM R.K "list" rExtend (tVar i) (tAs R [.e e])) D σ H := by
  obtain ⟨Γ, f, pr, st, h⟩ := h
  simp only [exS] at h
  cases e1 : Γ[i]? with
  | none => simp only [e1] at h; exact h.elim
  | some t =>
    cases t with
    | l xs0 =>
      simp only [e1] at h
      obtain ⟨v0, g0, hv, r0, _⟩ := st.takeOut e1 (by simp)
      obtain ⟨p0, vs0, rfl, hp0, _, _⟩ := pop_core st e1 hv
      refine ⟨.ref p0, hv, ty_list hp0, Γ, f, pr, st, ?_⟩
      simp only [evAs]
      cases q : ev R.F e Γ with
      | none => simp only [q] at h; exact h
      | some r =>
        cases r with
        | ex y Γ1 => simp only [q] at h; exact fun C H' f' hm s st' => h C σ H' f' hm s .refl st'
        | ok tv Γ1 =>
          simp only [q, AR.cons] at h ⊢
          intro ws H1 f1 s1 st1
          obtain ⟨gb, hgb, st2⟩ := st1.out
          obtain ⟨v, rr, g1, g2, rfl, hv1, hv2, hv3⟩ := hgb
          unfold RepA at hv2
          subst hv2
          cases e3 : Γ1[i]? with
          | none => simp only [e3] at h; exact h.elim
          | some t3 =>
            cases t3 with
            | l xs =>
              simp only [e3] at h
              have key : ∃ us, (match tv with
                  | .l vs => some vs
                  | .c (.list ds) => some (ds.map .c)
                  | _ => none) = some us ∧ SPost R io D σ H f pr (if xs.length + us.length ≤ sizeLine then some (.nx (Γ1.set i (.l (xs ++ us)))) else none) := by
                cases tv with
                | l vs => exact ⟨vs, rfl, h⟩
                | c d =>
                  cases d with
                  | list ds => exact ⟨_, rfl, by rw [List.length_map]; exact h⟩
                  | none => exact h.elim
                  | bool _ => exact h.elim
                  | int _ => exact h.elim
                  | str _ => exact h.elim
                  | tuple _ => exact h.elim
                  | dict _ => exact h.elim
                | t _ => exact h.elim
                | s _ => exact h.elim
                | gone => exact h.elim
                | d _ => exact h.elim
                | x _ => exact h.elim
              obtain ⟨us, hus, h⟩ := key
              have rep : ∃ b zs g3, v = .ref b ∧ H1 b = some (.lst zs) ∧ RepL R.K H1 f1 us zs g3 ∧ ∀ a, g3 a ≤ g1 a := by
                cases tv with
                | l vs =>
                  cases hus
                  unfold Rep at hv1
                  obtain ⟨b, zs, g3, rfl, hb, rl, l⟩ := hv1
                  exact ⟨b, zs, g3, rfl, hb, rl, fun a => by have := l a; omega⟩
                | c d =>
                  cases d with
                  | list ds =>
                    cases hus
                    unfold Rep Dr at hv1
                    obtain ⟨b, zs, rfl, hb, rl⟩ := hv1
                    exact ⟨b, zs, _, rfl, mn_ext _ _ _ _ hb, RepL.settled rl, fun a => Nat.zero_le _⟩
                  | none => cases hus
                  | bool _ => cases hus
                  | int _ => cases hus
                  | str _ => cases hus
                  | tuple _ => cases hus
                  | dict _ => cases hus
                | t _ => cases hus
                | s _ => cases hus
                | gone => cases hus
                | d _ => cases hus
                | x _ => cases hus
              obtain ⟨b, zs, g3, rfl, hb, ru, lu⟩ := rep
              by_cases hz : xs.length + us.length ≤ sizeLine
              · rw [if_pos hz] at h
                obtain ⟨w, g, hw, r3, st3⟩ := st2.takeOut e3 (by simp)
                rw [hv] at hw; cases hw
                have st7 : St0 R.K (Γ1.set i .gone) σ H1 f1 (padd (padd pr g3) g) := st3.less fun a => by have := hv3 a; have := lu a; simp only [padd_at]; omega
                have hi : (Γ1.set i .gone)[i]? = some .gone := List.getElem?_set_self (List.getElem?_eq_some_iff.mp e3).1
                obtain ⟨p, vs, xs', ys, tt, ho, hp, eF, hl, fin⟩ := put_fin (F := extAt us) (ks := []) (o := .ref p0) (t2 := .l (xs ++ us)) st7 r3 (by unfold putP extAt; rw [if_pos hz]; rfl) rfl hi hv
                cases ho
                cases tt rfl
                unfold extAt at eF
                rw [if_pos hz] at eF
                cases eF
                obtain ⟨sw, st8⟩ := fin (vs2 := vs ++ zs) fun g0 sg rl => ⟨padd g0 g3, rl.cat (ru.stp sg fun _ => Nat.le_refl _), fun a => by simp only [padd_at]; omega⟩
                rw [List.set_set] at st8
                exact ⟨p0, b, vs, zs, rfl, rfl, hp, hb, by rw [hl, ru.length]; exact hz, h σ _ f1 (s1.trans sw fun _ => Nat.le_refl _) .refl st8⟩
              · rw [if_neg hz] at h; exact h.elim
            | c d => simp only [e3] at h; exact h.elim
            | gone => simp only [e3] at h; exact h.elim
            | d _ => simp only [e3] at h; exact h.elim
            | x _ => simp only [e3] at h; exact h.elim
            | t d => simp only [e3] at h; exact h.elim
            | s d => simp only [e3] at h; exact h.elim
    | c d => simp only [e1] at h; exact h.elim
    | gone => simp only [e1] at h; exact h.elim
    | d _ => simp only [e1] at h; exact h.elim
    | x _ => simp only [e1] at h; exact h.elim
    | t d => simp only [e1] at h; exact h.elim
    | s d => simp only [e1] at h; exact h.elim
theorem clr_read {i : Nat} {es : List CE} {H : Hp} (h : tS R io (.clr i es) D σ H) : tDrop (tBM0 R.K "list" rClear (tPth R (tVar i) es)) D σ H := by
  obtain ⟨Γ, f, pr, st, h⟩ := h
  simp only [exS] at h
  cases e1 : Γ[i]? with
  | none => simp only [e1] at h; exact h.elim
  | some t =>
    by_cases n : t = .gone
    · subst n; simp only [e1] at h; exact h.elim
    have h : SPost R io D σ H f pr (match evAs R.F (es.map .e) (Γ.set i .gone) with
        | some (.ok avs Γ2) => (match idxs avs with
          | some ks => (match Γ2[i]? with
            | some .gone => (match putP (fun _ => some []) ks t with
              | some t' => some (.nx (Γ2.set i t'))
              | none => none)
            | _ => none)
          | none => none)
        | _ => none) := by
      cases t <;> first | exact absurd rfl n | (simp only [e1] at h; exact h)
    cases q2 : evAs R.F (es.map .e) (Γ.set i .gone) with
    | none => simp only [q2] at h; exact h.elim
    | some r2 =>
      cases r2 with
      | ex y Γ2 => simp only [q2] at h; exact h.elim
      | ok avs Γ2 =>
        simp only [q2] at h
        cases q3 : idxs avs with
        | none => simp only [q3] at h; exact h.elim
        | some ks =>
          simp only [q3] at h
          cases e3 : Γ2[i]? with
          | none => simp only [e3] at h; exact h.elim
          | some t3 =>
            cases t3 with
            | gone =>
              simp only [e3] at h
              cases q6 : putP (fun _ => some []) ks t with
              | none => simp only [q6] at h; exact h.elim
              | some t' =>
                simp only [q6] at h
                obtain ⟨v0, g, hv, r0, st3⟩ := st.takeOut e1 n
                show tPth R (tVar i) es σ H _
                rw [tPth_eq]
                refine ⟨v0, hv, walk_path st3 r0 (le_padd' _ _) q2 q3 q6 fun o H2 f2 s2 st4 nd => ?_⟩
                have r3 := r0.stp s2 (le_padd' _ _)
                have st7 : St0 R.K Γ2 σ H2 f2 (padd (padd pr zfp) g) := st4.less fun a => by simp only [padd_at]; show pr a + 0 + g a ≤ _; omega
                obtain ⟨p, vs, xs, ys, _, rfl, hp, eF, hl, fin⟩ := put_fin st7 r3 q6 (nd H2 f2 Stp.refl) e3 hv
                cases eF
                obtain ⟨sw, st8⟩ := fin (vs2 := []) fun g0 sg rl => ⟨zfp, by unfold RepL; rfl, fun a => Nat.zero_le _⟩
                exact ⟨ty_list hp, p, vs, rfl, rfl, hp, h σ _ f2 ((s2.weak (le_padd _ _)).trans sw fun _ => Nat.le_refl _) .refl st8⟩
            | d _ => simp only [e3] at h; exact h.elim
            | x _ => simp only [e3] at h; exact h.elim
            | c d => simp only [e3] at h; exact h.elim
            | l d => simp only [e3] at h; exact h.elim
            | t d => simp only [e3] at h; exact h.elim
            | s d => simp only [e3] at h; exact h.elim
end
section
variable {R : RC} {io : List Nat} {D : Ends} {σ : Sig} {H : Hp}
theorem dput_read {i : Nat} {a e : CE} (h : tS R io (.dput i a e) D σ H) : sDPut (tVar i) (tE R a) (tE R e) D σ H := by
  obtain ⟨Γ, f, pr, st, h⟩ := h
  simp only [exS] at h
  refine tE_of st ?_
  cases q : ev R.F e Γ with
  | none => simp only [q] at h; exact h
  | some r =>
    cases r with
    | ex y Γ1 => simp only [q] at h; exact fun C H' f' hm s st' => h C σ H' f' hm s .refl st'
    | ok tv Γ1 =>
      simp only [q] at h
      intro v H1 f1 s1 st1
      cases q1 : asInt tv with
      | none => simp only [q1] at h; exact h.elim
      | some z =>
        have hz : v = .int z := by
          obtain ⟨_, _, _, gb, _, hgb, _⟩ := id st1
          exact asInt_rep ⟨gb, hgb⟩ q1
        subst hz
        cases e1 : Γ1[i]? with
        | none => simp only [q1, e1] at h; exact h.elim
        | some t1 =>
          cases t1 with
          | d kvs0 =>
            simp only [q1, e1] at h
            obtain ⟨p0, hv, _⟩ := d_at st1.drop e1
            refine ⟨.ref p0, hv, ?_⟩
            refine tE_of st1.drop ?_
            cases q2 : ev R.F a Γ1 with
            | none => simp only [q2] at h; exact h.elim
            | some r2 =>
              cases r2 with
              | ex y Γ2 => simp only [q2] at h; exact h.elim
              | ok ta Γ2 =>
                simp only [q2] at h
                cases q3 : asKey ta with
                | none => simp only [q3] at h; exact h.elim
                | some ks =>
                  cases e2 : Γ2[i]? with
                  | none => simp only [q3, e2] at h; exact h.elim
                  | some t2 =>
                    cases t2 with
                    | d kvs =>
                      simp only [q3, e2] at h
                      by_cases hl : kvs.length < sizeLine
                      · rw [if_pos hl] at h
                        intro y H2 f2 s2 st2
                        obtain ⟨_, _, _, ga, _, hga, _⟩ := id st2
                        obtain ⟨bk, rfl, hb⟩ := key_rep hga q3
                        obtain ⟨w, g, hw, rw', sto⟩ := st2.drop.takeOut e2 (by simp)
                        rw [hv] at hw; cases hw
                        unfold Rep at rw'
                        obtain ⟨p, hpp, hp, l0⟩ := rw'
                        cases hpp
                        have gp : 1 ≤ g p0 := by have := l0 p0; rw [one_self] at this; exact this
                        obtain ⟨sw, ss⟩ := sto.wr (o := .dT (dtK (ptI kvs ks z))) gp
                        obtain ⟨h1, h2, gs, _, hs, _, hl2⟩ := id sw
                        have zp : gs p0 = 0 ∧ pr p0 = 0 := by
                          have := hl2 p0; have := h1 p0; simp only [padd_at] at *; omega
                        have rn : Rep R.K (upd H2 p0 (.dT (dtK (ptI kvs ks z)))) f2 (.d (ptI kvs ks z)) (.ref p0) (one p0) := by
                          unfold Rep
                          exact ⟨p0, rfl, upd_same, fun _ => Nat.le_refl _⟩
                        have put := RepS.put hs (by rw [List.getElem?_set_self (List.getElem?_eq_some_iff.mp e2).1]) hv (.mk rn)
                        rw [List.set_set] at put
                        refine ⟨p0, _, rfl, ?_, h σ (upd H2 p0 (.dT (dtK (ptI kvs ks z)))) f2 ((s1.trans s2 fun _ => Nat.le_refl _).trans (ss pr zp.2) fun _ => Nat.le_refl _) .refl ⟨h1, h2, _, fun _ => 0, put, trivial, fun a => by have := hl2 a; have := l0 a; simp only [padd_at] at *; omega⟩⟩
                        have := DPut.t (v := .int z) hp (mn_some hb).2 (by rw [List.length_map]; exact hl)
                        rw [dt_put] at this
                        exact this
                      · rw [if_neg hl] at h; exact h.elim
                    | _ => simp only [q3, e2] at h; exact h.elim
          | _ => simp only [q1, e1] at h; exact h.elim
theorem split_node {K : PySem.W.Frag} {f : Fp} {o : V} (hf : ∀ a, f a ≤ 1) : ∀ {ks : List Int} {t s : Tr} {x : V} {g : Fp}, Rep K H f t x g → getT ks t = some s → nodeV H x ks o →
    ∃ gs gc, Rep K H f s o gs ∧ (∀ a, gs a + gc a ≤ g a) ∧ ∀ {H' : Hp} {f' : Fp} {s' t' : Tr} {gs' : Fp}, Stp H f gc H' f' → Rep K H' f' s' o gs' → putT s' ks t = some t' → Rep K H' f' t' x (padd gs' gc)
  | [], t, s, x, g, h, e, nd => by
    unfold nodeV at nd
    subst nd
    unfold getT at e
    cases e
    refine ⟨g, fun _ => 0, h, fun a => Nat.le_refl _, fun {H' f' s' t' gs'} _ r ep => ?_⟩
    unfold putT at ep
    cases ep
    exact r.mono (le_padd _ _)
  | k :: ks, t, s, x, g, h, e, nd => by
    obtain ⟨p', vs', v', rfl, hor, hat, nd⟩ := nd
    cases t with
    | l xs =>
      unfold getT at e
      obtain ⟨j, ej, e⟩ := Option.bind_eq_some_iff.mp e
      obtain ⟨y, ey, e⟩ := Option.bind_eq_some_iff.mp e
      unfold Rep at h
      obtain ⟨p0, vs, g', hp', hp, rl, l⟩ := h
      cases hp'
      have hvs : vs' = vs := by rcases hor with z | z <;> (rw [hp] at z; cases z); rfl
      subst hvs
      obtain ⟨v, gj, gr, ev, rv, lj, up⟩ := rl.upd ey
      have : v' = v := by
        unfold atI at hat
        rw [rl.length] at hat
        rw [ej] at hat
        exact Option.some.inj ((show vs'[j]? = some v' from hat).symm.trans ev)
      subst this
      obtain ⟨gs, gc, rs, lc, fin⟩ := split_node hf rv e nd
      refine ⟨gs, padd (one p') (padd gc gr), rs, fun a => by have := l a; have := lj a; have := lc a; simp only [padd_at]; omega, fun {H' f' s' t' gs'} st r ep => ?_⟩
      unfold putT at ep
      obtain ⟨j2, ej2, ep⟩ := Option.bind_eq_some_iff.mp ep
      rw [ej] at ej2; cases ej2
      obtain ⟨y2, ey2, ep⟩ := Option.bind_eq_some_iff.mp ep
      rw [ey] at ey2; cases ey2
      obtain ⟨t2, e2, ep⟩ := Option.map_eq_some_iff.mp ep
      subst ep
      have r2 := fin (st.weak fun a => by simp only [padd_at]; omega) r e2
      have r3 := up (st.weak fun a => by simp only [padd_at]; omega) r2
      unfold Rep
      exact ⟨p', vs', _, rfl, st.2 p' _ (by simp only [padd_at, one_self]; omega) hp, r3, fun a => by simp only [padd_at]; omega⟩
    | t xs =>
      unfold getT at e
      obtain ⟨j, ej, e⟩ := Option.bind_eq_some_iff.mp e
      obtain ⟨y, ey, e⟩ := Option.bind_eq_some_iff.mp e
      unfold Rep at h
      obtain ⟨p0, vs, hp', hp, rl⟩ := h
      cases hp'
      have hp0 := mn_some hp
      have hvs : vs' = vs := by rcases hor with z | z <;> (rw [hp0.2] at z; cases z); rfl
      subst hvs
      obtain ⟨v, gj, gr, ev, rv, lj, up⟩ := rl.upd ey
      have : v' = v := by
        unfold atI at hat
        rw [rl.length] at hat
        rw [ej] at hat
        exact Option.some.inj ((show vs'[j]? = some v' from hat).symm.trans ev)
      subst this
      obtain ⟨gs, gc, rs, lc, fin⟩ := split_node hf rv e nd
      refine ⟨gs, padd gc gr, rs, fun a => by have := lj a; have := lc a; simp only [padd_at]; omega, fun {H' f' s' t' gs'} st r ep => ?_⟩
      unfold putT at ep
      obtain ⟨j2, ej2, ep⟩ := Option.bind_eq_some_iff.mp ep
      rw [ej] at ej2; cases ej2
      obtain ⟨y2, ey2, ep⟩ := Option.bind_eq_some_iff.mp ep
      rw [ey] at ey2; cases ey2
      obtain ⟨t2, e2, ep⟩ := Option.map_eq_some_iff.mp ep
      subst ep
      have r2 := fin (st.weak fun a => by simp only [padd_at]; omega) r e2
      have r3 := up (st.weak fun a => by simp only [padd_at]; omega) r2
      unfold Rep
      exact ⟨p', vs', rfl, st.ext _ _ hp, r3.mono fun a => by simp only [padd_at]; omega⟩
    | _ => unfold getT at e; cases e
theorem bor_read {i j : Nat} {es : List CE} {body : List CS} (hj : j ∉ io) (hij : i ≠ j) (h : tSs R io [.bor i es j body] D σ H) : tSeq (tAsg (tPth R (tVar i) es) (gName j)) (tSs R (i :: j :: io) body) D σ H := by
  obtain ⟨Γ, f, pr, st, h⟩ := h
  simp only [exB, exS] at h
  cases e1 : Γ[i]? with
  | none => simp only [e1] at h; exact h.elim
  | some t =>
    by_cases n : t = .gone
    · subst n; simp only [e1] at h; exact h.elim
    cases q2 : evAs R.F (es.map .e) (Γ.set i .gone) with
    | none => cases t <;> first | exact absurd rfl n | (simp only [e1, q2] at h; exact h.elim)
    | some r2 =>
      cases r2 with
      | ex y Γ2 => cases t <;> first | exact absurd rfl n | (simp only [e1, q2] at h; exact h.elim)
      | ok avs Γ2 =>
        cases q3 : idxs avs with
        | none => cases t <;> first | exact absurd rfl n | (simp only [e1, q2, q3] at h; exact h.elim)
        | some ks =>
          cases q4 : getT ks t with
          | none => cases t <;> first | exact absurd rfl n | (simp only [e1, q2, q3, q4] at h; exact h.elim)
          | some x =>
            cases q5 : putP some ks t with
            | none => cases t <;> first | exact absurd rfl n | (simp only [e1, q2, q3, q4, q5] at h; exact h.elim)
            | some t5 =>
              cases q6 : exB R.F body (Γ2.set j x) with
              | none => cases t <;> first | exact absurd rfl n | (simp only [e1, q2, q3, q4, q5, q6] at h; exact h.elim)
              | some r6 =>
                obtain ⟨Γ3, rfl⟩ : ∃ Γ3, r6 = .nx Γ3 := by
                  cases r6 with
                  | nx Γ3 => exact ⟨_, rfl⟩
                  | _ => cases t <;> first | exact absurd rfl n | (simp only [e1, q2, q3, q4, q5, q6] at h; exact h.elim)
                obtain ⟨ys, t', e3, e4, q7, h⟩ : ∃ ys t', Γ3[i]? = some .gone ∧ Γ3[j]? = some (.l ys) ∧ putT (.l ys) ks t = some t' ∧ SPost R io D σ H f pr (some (.nx ((Γ3.set j .gone).set i t'))) := by
                  have h : SPost R io D σ H f pr (match (match Γ3[i]?, Γ3[j]? with
                      | some .gone, some (.l ys) => (match putT (.l ys) ks t with
                        | some t' => some (.nx ((Γ3.set j .gone).set i t'))
                        | none => none)
                      | _, _ => none : Option SR) with
                      | some (.nx Γ1) => some (.nx Γ1)
                      | r => r) := by
                    cases t <;> first | exact absurd rfl n | (simp only [e1, q2, q3, q4, q5, q6] at h; exact h)
                  split at h
                  · rename_i hh
                    split at hh
                    · rename_i ys e3 e4
                      split at hh
                      · rename_i t' q7
                        cases hh
                        exact ⟨ys, t', e3, e4, q7, h⟩
                      · cases hh
                    · cases hh
                  · rename_i hh hn
                    split at hn
                    · rename_i ys e3 e4
                      split at hn
                      · rename_i t' q7
                        exact absurd rfl (hn _)
                      · simp_all [SPost]
                    · simp_all [SPost]
                obtain ⟨v0, g, hv, r0, st3⟩ := st.takeOut e1 n
                show tPth R (tVar i) es σ H _
                rw [tPth_eq]
                refine ⟨v0, hv, walk_path st3 r0 (le_padd' _ _) q2 q3 q5 fun o H2 f2 s2 st4 nd => ?_⟩
                have r2 := r0.stp s2 (le_padd' _ _)
                obtain ⟨gs, gc, rs, lc, fin⟩ := split_node st4.le1 r2 q4 (nd H2 f2 Stp.refl)
                obtain ⟨h1, h2, gg, _, hs, _, hl⟩ := id st4
                refine ⟨Γ2.set j x, f2, padd pr gc, ⟨h1, h2, _, fun _ => 0, RepS.store hs (.mk rs), trivial, fun a => by have := hl a; have := lc a; simp only [padd_at] at *; omega⟩, ?_⟩
                rw [q6]
                intro σ' H' f' s3 pin st6
                have ji : j < σ.length := by
                  have := hs.length
                  have l2 := (List.getElem?_eq_some_iff.mp e4).1
                  have l3 := st6.2.2
                  obtain ⟨g6, _, hs6, _, _⟩ := l3
                  have := hs6.length
                  have := pin.1
                  rw [List.length_set] at this
                  omega
                have pj : σ'[j]? = some (some o) := by rw [pin.2 j (by simp)]; exact List.getElem?_set_self ji
                have pi : σ'[i]? = some (some v0) := by rw [pin.2 i (by simp), List.getElem?_set_ne (fun z => hij z.symm)]; exact hv
                obtain ⟨w, gy, hw, ry, st7⟩ := st6.takeOut e4 (by simp)
                rw [pj] at hw; cases hw
                have rf := fin (s3.weak (le_padd' _ _)) ry q7
                obtain ⟨k1, k2, gz, _, hz, _, lz⟩ := id st7
                have put := RepS.put hz (by rw [List.getElem?_set_ne (fun z => hij z.symm)]; exact e3) pi (.mk rf)
                refine h σ' H' f' ((s2.weak (le_padd _ _)).trans (s3.weak (le_padd _ _)) fun _ => Nat.le_refl _) ?_ ⟨k1, k2, _, fun _ => 0, put, trivial, fun a => by have := lz a; simp only [padd_at] at *; omega⟩
                exact (Pin.set hj).trans ⟨pin.1, fun m hm => pin.2 m (List.mem_cons_of_mem _ (List.mem_cons_of_mem _ hm))⟩
end
end Hw
set_option Elab.async false
set_option linter.all false
set_option maxRecDepth 100000
set_option maxHeartbeats 2000000
namespace Hw
open PySem PySem.Spec PyProof.Rows L2
structure MS where
  M : MC
  io : List Nat
  exs : List Str
  tr : List Str
def isCompE : Expr → Bool
  | .ListComp .. => true
  | .SetComp .. => true
  | .DictComp .. => true
  | _ => false
def isFunK : ScopeKind → Bool
  | .function => true
  | _ => false
def locS (sc : Scope) (x : Str) : Bool := match sc.names.lookup x with
  | some .local => true
  | _ => false
def lcStore (M : MC) (x : Str) (p : Pos) : Expr → Bool
  | .ListComp _ _ s pos => isFunK M.sc.kind && locS M.sc x && (p.line == pos.line) && !(s.names.any fun (n, k) => n == x && (k == .local || k == .cell))
  | _ => false
def cellS (sc : Scope) (x : Str) : Bool := match sc.names.lookup x with
  | some .cell => true
  | _ => false
def CE.isLc : CE → Bool
  | .lc .. => true
  | _ => false
def mPath (M : MC) (i : Nat) (es : List CE) (o : Expr) : Bool := match pathOf o with
  | some (x, bs) => M.vis i x && mEs M es bs
  | none => false
mutual
def mS (Z : MS) : CS → Stmt → Bool
  | .set i e, .Assign [.Name x p] v _ => Z.M.loc i x && !(Z.io.contains i) && (if e.isLc then lcStore Z.M x p v || cellS Z.M.sc x else !(isCompE v)) && mE Z.M e v
  | .setT is e, .Assign [.Tuple es _ _] v _ => mNames Z.M is es && (is.all fun i => !(Z.io.contains i)) && !(isTupE v) && !(isCompE v) && mE Z.M e v
  | .par i j a b, .Assign [.Tuple [.Name x px, .Name y py] _ _] (.Tuple [v, w] _ _) _ => decide (Z.M.N[i]? = some x) && decide (Z.M.N[j]? = some y) && locS Z.M.sc x && locS Z.M.sc y && !(x == y) && (py.line == px.line) && isFunK Z.M.sc.kind && !(Z.io.contains i) && !(Z.io.contains j) && !([v, w].all (foldedForSure 8)) && !([v, w].all (constantsAlone 8)) && (plainE v && plainE w && (mE Z.M a v && mE Z.M b w))
  | .setp i es l e, .Assign [.Subscript o ix _] v _ => mPath Z.M i es o && plainE ix && mE Z.M l ix && mE Z.M e v
  | .dput i a e, .Assign [.Subscript (.Name x _) ix _] v _ => Z.M.vis i x && (mE Z.M a ix && mE Z.M e v)
  | .app i es e, .Expr (.Call (.Attribute o m ap) [a] [] cp) _ => decide (m = "append") && mPath Z.M i es o && (ap.endLine == cp.line) && plainE a && mE Z.M e a
  | .ext i e, .Expr (.Call (.Attribute (.Name x _) m ap) [a] [] cp) _ => decide (m = "extend") && Z.M.vis i x && (ap.endLine == cp.line) && plainE a && mE Z.M e a
  | .clr i es, .Expr (.Call (.Attribute o m ap) [] [] cp) _ => decide (m = "clear") && mPath Z.M i es o && (ap.endLine == cp.line)
  | .ex e, .Expr v _ => !(isCompE v) && mE Z.M e v
  | .ret e, .Return (some v) _ => mE Z.M e v
  | .retN, .Return none _ => true
  | .ite c a b, .If t x y _ => mT Z.M c t && mB Z a x && mB Z b y
  | .for_ tg it body, .For t i b [] _ => mTg Z.M tg t && (tg.slots.all fun i => !(Z.io.contains i)) && mIt Z.M (isTupE t) it i && mB Z body b
  | .whl _ c body, .While t b [] _ => mT Z.M c t && mB Z body b
  | .brk, .Break _ => true
  | .cnt, .Continue _ => true
  | .pass, .Pass _ => true
  | .doc, .Expr (.Constant (.str _) _ _) _ => true
  | .rais x, .Raise (some (.Call (.Name y _) [.Constant (.str _) _ _] [] _)) none _ => decide (x = y) && Z.exs.contains x && Z.M.glo x
  | .tryC body c i j xs, .Try b [.ExceptHandler (some (.Name y _)) (some n) [.Assign [.Name m _] (.Name n' _) _] _] [] [] _ => decide (c = y) && Z.M.glo y && Z.M.cls.contains y && decide (n = n') && Z.M.vis i n && decide (Z.M.N[i]? = some n) && locS Z.M.sc n && Z.M.loc j m && !(Z.io.contains i) && !(Z.io.contains j) && (xs.all fun x => Z.tr.contains x) && mB Z body b
  | .pre _ s, st => mS Z s st
  | _, _ => false
def mB (Z : MS) : List CS → List Stmt → Bool
  | [], [] => true
  | s :: ss, t :: ts => (mS Z s t && mB Z ss ts) || (ss.isEmpty && mR Z s (t :: ts))
  | _, _ => false
/-- a statement that takes all that is left of a block -/
def mR (Z : MS) : CS → List Stmt → Bool
  | .bor i es j body, .Assign [.Name x _] v _ :: ts => Z.M.loc j x && !(Z.io.contains j) && !(i == j) && (mPath Z.M i es v && !(isCompE v) && mB { Z with io := i :: j :: Z.io } body ts)
  | _, _ => false
end
structure YOk (R : RC) (Z : MS) (X : Cx) : Prop extends XOk R Z.M X where
  hp : PassesOwn (model X.prog X.w) X.A X.env X.xe
  exc : ∀ x ∈ Z.exs, ∃ C bmB B newId initId, ExcBaseFacts B newId initId bmB ∧ PySem.W.excIn X.K C bmB newId = true ∧ X.mg x = some (.ref C) ∧ PySem.W.keepIn X.K (.ref C) = true ∧ Raises X (.ref C)
  tri : ∀ x ∈ Z.tr, ∃ C, Hx.XI R.K x C ∧ R.mg x = some (.ref C)
  exE : X.ex = []
  stk : X.stack = X.env :: X.outer
  frm : X.env.frame = some X.env.locals
theorem sw_no {v : Expr} {t : Option Expr} {n : Nat} {env : Env} (h : isCompE v = false) : swapsWith v t n env = pure false := by
  cases v <;> first | rfl | cases h
theorem sw_cell {v : Expr} {x : Str} {p : Pos} {n : Nat} {env : Env} (h : env.scope.names.lookup x = some .cell) : swapsWith v (some (.Name x p)) n env = pure false := by
  have kx : env.kindOf x = some .cell := h
  cases v <;> first | rfl | (unfold swapsWith; simp only [kx]; rw [show ((some NameKind.cell : Option NameKind) == some NameKind.local) = false from rfl, Bool.and_false, Bool.false_and, Bool.false_and])
theorem sws_no {v : Expr} {t : Expr} {n : Nat} {env : Env} (h : isCompE v = false) : swapsWithSole [t] v n env = pure false := sw_no h
theorem sws_sub {v o i : Expr} {p : Pos} {n : Nat} {env : Env} : swapsWithSole [.Subscript o i p] v n env = pure false := by
  cases v <;> rfl
theorem sst_no {es : List Expr} {k : Nat} {p : Pos} {v : Expr} {env : Env} (h : isTupE v = false) : swappedStores [.Tuple es k p] v env = pure none := by
  cases v <;> first | rfl | cases h
theorem sst_sub {o i : Expr} {p : Pos} {v : Expr} {env : Env} : swappedStores [.Subscript o i p] v env = pure none := by
  cases v <;> rfl
theorem isFunK_of {k : ScopeKind} (h : isFunK k = true) : k = .function := by
  cases k <;> first | rfl | cases h
theorem locS_of {sc : Scope} {x : Str} (h : locS sc x = true) : sc.names.lookup x = some .local := by
  unfold locS at h
  split at h
  · assumption
  · cases h
theorem sst_par {x y : Str} {px py pt p2 : Pos} {v w : Expr} {kt k2 : Nat} {env : Env} (hk : env.scope.kind = .function) (hx : env.scope.names.lookup x = some .local) (hy : env.scope.names.lookup y = some .local) (hxy : (x == y) = false) (hl : (py.line == px.line) = true)
    (pv : plainE v = true) (pw : plainE w = true) (h1 : ([v, w].all (foldedForSure 8)) = false) (h2 : ([v, w].all (constantsAlone 8)) = false) : swappedStores [.Tuple [.Name x px, .Name y py] kt pt] (.Tuple [v, w] k2 p2) env = pure (some [x, y]) := by
  have kx : env.kindOf x = some .local := hx
  have ky : env.kindOf y = some .local := hy
  have hb : env.blockKind = .function := by unfold Env.blockKind; rw [hk]; rfl
  have sv : ∀ e : Expr, plainE e = true → (match e with | .Starred .. => true | _ => false) = false := fun e h => by cases e <;> first | rfl | cases h
  unfold swappedStores
  have e1 : ([v, w].any fun | .Starred .. => true | _ => false) = false := by
    rw [List.any_cons, List.any_cons, List.any_nil]
    have := sv v pv; have := sv w pw
    cases v <;> first | (cases pv; done) | (cases w <;> first | rfl | cases pw)
  have e2 : (x == x) = true := beq_self_eq_true x
  have e3 : ((([Expr.Name x px, Expr.Name y py] : List Expr).filterMap fun
    | .Name id pos => if env.kindOf id == some .local && pos.line == px.line then some id else none
    | _ => none)) = [x, y] := by
    simp only [List.filterMap_cons, List.filterMap_nil, kx, ky, hl]
    simp
  have e4 : [x, y].eraseDups = [x, y] := by
    rw [List.eraseDups_cons]
    have : (y == x) = false := by
      cases q : (y == x) with
      | false => rfl
      | true => rw [eq_of_beq q] at hxy; rw [e2] at hxy; cases hxy
    simp [List.filter, this]
    rfl
  have e5 : ∀ N : List Str, N = [x, y] → (N.length != 2 || N.eraseDups.length != N.length) = false := fun N e => by subst e; rw [e4]; rfl
  simp only [hb]
  refine (if_neg ?_).trans ((if_neg ?_).trans ((if_neg ?_).trans ((if_neg ?_).trans ((if_neg ?_).trans ?_))))
  · exact Bool.false_ne_true
  · exact fun h => Bool.false_ne_true (e1.symm.trans h)
  · exact fun h => Bool.false_ne_true ((e5 _ e3).symm.trans h)
  · rw [h1]; exact Bool.false_ne_true
  · rw [h2]; exact Bool.false_ne_true
  · exact congrArg (fun z => pure (some z)) e3
theorem path_base {o : Expr} {x : Str} {bs : List Expr} {m : Str} {env : Env} (h : pathOf o = some (x, bs)) (w : Sem Value) : attributeBase o m env w = w := by
  cases o <;> first | rfl | (unfold pathOf at h; cases h; done)
theorem as_sub {o i : Expr} {pos : Pos} {env : Env} (h : plainE i = true) : ∀ v, assign (.Subscript o i pos) env v = (do
      let ov ← holding [v] (eval o env)
      let iv ← holding [v, ov] (eval i env)
      standAt pos
      holding [v, ov, iv] (setItem ov iv v)
      release [v, ov, iv] []) := by
  intro v
  cases i <;> first | rfl | cases h
theorem pst {R : RC} {io : List Nat} {X : Cx} {st : Stmt} {s : CS} {t : TS} (h : PS X st t) (i : ∀ {D : Ends} {σ : Sig} {H : Hp}, tS R io s D σ H → t D σ H) : PS X st (tS R io s) := PS.imp h fun _ _ _ q => i q
theorem notin {io : List Nat} {i : Nat} (h : (!(io.contains i)) = true) : i ∉ io := by
  intro z
  rw [Bool.not_eq_true', ← Bool.not_eq_true] at h
  exact h (List.contains_iff_mem.mpr z)
theorem notins {io is : List Nat} (h : (is.all fun i => !(io.contains i)) = true) : ∀ i ∈ is, i ∉ io := fun i hi => notin (List.all_eq_true.mp h i hi)
theorem pe_mpath {R : RC} {M : MC} {X : Cx} (ok : XOk R M X) {i : Nat} {es : List CE} {o : Expr} (h : mPath M i es o = true) : PE X o (tPth R (tVar i) es) ∧ ∀ {m : Str} {env : Env} (w : Sem Value), attributeBase o m env w = w := by
  unfold mPath at h
  split at h
  · rename_i x bs q
    rw [Bool.and_eq_true] at h
    obtain ⟨h1, h2⟩ := sEs es ok h.2
    exact ⟨pe_path ok q h.1 h1 h2, fun w => path_base q w⟩
  · cases h
theorem plain_few {a : Expr} {cp : Pos} {env : Env} (h : plainE a = true) : ((backTo cp (starEach [a] env)).all (fun x => !x.1) && (backToKw cp (keywordEach [] env)).all (fun x => x.1.isSome)
      && decide (([a] : List Expr).length + ([] : List Keyword).length + (if ([] : List Keyword).isEmpty then 0 else 1) < 30)) = true := by rw [star_of h]; rfl
section
variable {R : RC} {Z : MS} {X : Cx}
theorem s_set (ok : YOk R Z X) {i : Nat} {e : CE} {st : Stmt} (h : mS Z (.set i e) st = true) : PS X st (tS R Z.io (.set i e)) := by
  cases st <;> first | (exact absurd h (by unfold mS; exact Bool.false_ne_true)) | skip
  rename_i tgs v pos
  match tgs, h with
  | [], h => exact absurd h (by unfold mS; exact Bool.false_ne_true)
  | _ :: _ :: _, h => exact absurd h (by unfold mS; simp)
  | [tg], h =>
    cases tg <;> first | (exact absurd h (by unfold mS; exact Bool.false_ne_true)) | skip
    rename_i x p
    unfold mS at h
    simp only [Bool.and_eq_true] at h
    obtain ⟨⟨⟨hl, hio⟩, hsw⟩, he⟩ := h
    obtain ⟨h1, h2, h3⟩ := ok.lo hl
    cases hlc : e.isLc with
    | false =>
      rw [hlc] at hsw
      simp only [Bool.false_eq_true, if_false, Bool.not_eq_true'] at hsw
      exact pst (ps_set ok.ndX h1 h2 (sE e ok.toXOk he) (sw_no hsw) h3) fun q => set_read (notin hio) q
    | true =>
      rw [hlc, if_pos rfl, Bool.or_eq_true] at hsw
      rcases hsw with hsw | hsw
      rotate_left
      · have hcell : X.env.scope.names.lookup x = some .cell := by
          rw [ok.sc]
          unfold cellS at hsw
          split at hsw
          · assumption
          · cases hsw
        exact pst (ps_set ok.ndX h1 h2 (sE e ok.toXOk he) (sw_cell hcell) h3) fun q => set_read (notin hio) q
      cases e <;> first | (cases hlc; done) | skip
      rename_i own tg it cond elt
      cases v <;> first | (cases hsw; done) | skip
      rename_i ee gens s spos
      unfold lcStore at hsw
      simp only [Bool.and_eq_true, Bool.not_eq_true'] at hsw
      obtain ⟨⟨⟨k1, k2⟩, k3⟩, k4⟩ := hsw
      match gens, he with
      | [⟨t, i0, ifs, 0⟩], he =>
        unfold mE at he
        simp only [Bool.and_eq_true, List.all_eq_true, List.contains_iff_mem] at he
        obtain ⟨⟨⟨⟨hb, ht⟩, ho⟩, hi⟩, hc, he⟩ := he
        have hmap : (ownN Z.M own).map (·.2) = own := by unfold ownN; rw [List.map_map]; exact List.map_id _
        have hblk : blkC X.N X.env.scope s (ownN Z.M own) = true := by rw [ok.N, ok.sc]; exact hb
        have hpi := sIt it ok.toXOk hi
        have hloc : X.env.scope.names.lookup x = some .local := by rw [ok.sc]; exact locS_of k2
        have hkind : X.env.scope.kind = .function := by rw [ok.sc]; exact isFunK_of k1
        have := ps_setLc (spos := pos) (pos := spos) (elt := ee) (ifs := ifs) ok.calm ok.ndX h1 hloc (sw_true hkind hloc k3 k4) hpi (blkOk_by hblk) (fun s0 H C cl fp => pg_tg (ok.toXOk.blk s0 H s C cl fp) ht) (fun s0 H C cl fp => sC cond (ok.toXOk.blk s0 H s C cl fp) hc) (fun s0 H C cl fp => sE elt (ok.toXOk.blk s0 H s C cl fp) he) (it_folded hi _)
        rw [hmap] at this
        exact pst this fun q => lc_read ho (set_read (notin hio) q)
      | [], he => exact absurd he (by unfold mE; exact Bool.false_ne_true)
      | _ :: _ :: _, he => exact absurd he (by unfold mE; simp)
      | [⟨_, _, _, Nat.succ _⟩], he => exact absurd he (by unfold mE; exact Bool.false_ne_true)
theorem s_setT (ok : YOk R Z X) {is : List Nat} {e : CE} {st : Stmt} (h : mS Z (.setT is e) st = true) : PS X st (tS R Z.io (.setT is e)) := by
  cases st <;> first | (exact absurd h (by unfold mS; exact Bool.false_ne_true)) | skip
  rename_i tgs v pos
  match tgs, h with
  | [], h => exact absurd h (by unfold mS; exact Bool.false_ne_true)
  | _ :: _ :: _, h => exact absurd h (by unfold mS; simp)
  | [tg], h =>
    cases tg <;> first | (exact absurd h (by unfold mS; exact Bool.false_ne_true)) | skip
    rename_i es k p
    unfold mS at h
    simp only [Bool.and_eq_true, Bool.not_eq_true'] at h
    obtain ⟨⟨⟨⟨hn, hio⟩, ht⟩, hc⟩, he⟩ := h
    obtain ⟨h1, h2, h3⟩ := pgs_nm ok.toXOk hn
    have := ps_asg (pos := pos) (sE e ok.toXOk he) (pg_tup (k := k) (pos := p) ok.calm h1 h2 h3) (sws_no hc) (sst_no ht)
    exact pst this fun q => setT_read ok.K (fun i hi => notin (by have := List.all_eq_true.mp hio i hi; exact this)) q
theorem s_par (ok : YOk R Z X) {i j : Nat} {a b : CE} {st : Stmt} (h : mS Z (.par i j a b) st = true) : PS X st (tS R Z.io (.par i j a b)) := by
  unfold mS at h
  split at h
  all_goals first | (cases ‹CS.par i j a b = _›) | (cases h)
  rename_i x px y py kt pt v w k2 p2 pos
  simp only [Bool.and_eq_true, Bool.not_eq_true', decide_eq_true_eq] at h
  obtain ⟨⟨⟨⟨⟨⟨⟨⟨⟨⟨⟨hi, hj⟩, hx⟩, hy⟩, hxy⟩, hl⟩, hk⟩, hio⟩, hjo⟩, hf⟩, hc⟩, ⟨pv, pw⟩, ha, hb⟩ := h
  have hx' : X.env.scope.names.lookup x = some .local := by rw [ok.sc]; exact locS_of hx
  have hy' : X.env.scope.names.lookup y = some .local := by rw [ok.sc]; exact locS_of hy
  have hk' : X.env.scope.kind = .function := by rw [ok.sc]; exact isFunK_of hk
  have hij : i ≠ j := fun e => by
    subst e
    rw [hi] at hj
    have := Option.some.inj hj
    subst this
    rw [beq_self_eq_true] at hxy
    cases hxy
  have pa := PA.imp (pa_cons' pv (sE a ok.toXOk ha) (pa_cons' pw (sE b ok.toXOk hb) pa_nil)) (t' := tAs R [.e a, .e b]) fun σ H Q q => tE.mono (as_cons q) fun _ _ q => tE.mono (as_cons q) fun _ _ q => as_nil q
  have := ps_par (pos := pos) (px := px) (py := py) (pt := pt) (kt := kt) (k2 := k2) (pt2 := p2) ok.calm ok.ndX (by rw [ok.N]; exact hi) (by rw [ok.N]; exact hj) hij hx' hy' pa (sst_par hk' hx' hy' hxy hl pv pw hf hc) rfl
  exact pst this fun q => par_read (notin (by rw [hio]; rfl)) (notin (by rw [hjo]; rfl)) q
theorem s_setp (ok : YOk R Z X) {i : Nat} {es : List CE} {l e : CE} {st : Stmt} (h : mS Z (.setp i es l e) st = true) : PS X st (tS R Z.io (.setp i es l e)) := by
  unfold mS at h
  split at h
  all_goals first | (cases ‹CS.setp i es l e = _›) | (cases h)
  rename_i o ix p v pos
  simp only [Bool.and_eq_true] at h
  obtain ⟨⟨⟨hp, hx⟩, hl⟩, he⟩ := h
  obtain ⟨h1, _⟩ := pe_mpath ok.toXOk hp
  have := ps_asg (pos := pos) (sE e ok.toXOk he) (pg_sub (pos := p) h1 (sE l ok.toXOk hl) set_list (as_sub hx)) sws_sub sst_sub
  exact pst this fun q => setp_read q
theorem sw_sub {v o i : Expr} {p : Pos} {n : Nat} {env : Env} : swapsWith v (some (.Subscript o i p)) n env = pure false := by
  cases v <;> rfl
theorem s_dput (ok : YOk R Z X) {i : Nat} {a e : CE} {st : Stmt} (h : mS Z (.dput i a e) st = true) : PS X st (tS R Z.io (.dput i a e)) := by
  unfold mS at h
  split at h
  all_goals first | (cases ‹CS.dput i a e = _›) | (cases h)
  rename_i x xp ix p v pos
  simp only [Bool.and_eq_true] at h
  obtain ⟨hv, ha, he⟩ := h
  have un := ok.un
  have := ps_dput (pos := pos) (pos' := p) (by omega) (pe_slot (pos := xp) ok.toXOk hv) (sE a ok.toXOk ha) (sE e ok.toXOk he) sw_sub
  exact pst this fun q => dput_read q
theorem YOk.more (ok : YOk R Z X) (io : List Nat) : YOk R { Z with io := io } X := ⟨ok.toXOk, ok.hp, ok.exc, ok.tri, ok.exE, ok.stk, ok.frm⟩
theorem s_bor (ok : YOk R Z X) {i j : Nat} {es : List CE} {body : List CS} {x : Str} {p pos : Pos} {v : Expr} {ts : List Stmt} (hl : Z.M.loc j x = true) (hj : j ∉ Z.io) (hij : i ≠ j) (hp : mPath Z.M i es v = true) (hc : isCompE v = false)
    (hb : PSs X ts (tSs R (i :: j :: Z.io) body)) : PSs X (.Assign [.Name x p] v pos :: ts) (tSs R Z.io [.bor i es j body]) := by
  obtain ⟨h1, h2, h3⟩ := ok.lo hl
  exact PSs.imp (pss_cons (ps_set ok.ndX h1 h2 (pe_mpath ok.toXOk hp).1 (sw_no hc) h3) hb) fun _ _ _ q => bor_read hj hij q
theorem s_app (ok : YOk R Z X) {i : Nat} {es : List CE} {e : CE} {st : Stmt} (h : mS Z (.app i es e) st = true) : PS X st (tS R Z.io (.app i es e)) := by
  unfold mS at h
  split at h
  all_goals first | (cases ‹CS.app i es e = _›) | (cases h)
  rename_i o m ap a cp pos
  simp only [Bool.and_eq_true, decide_eq_true_eq] at h
  obtain ⟨⟨⟨⟨rfl, hp⟩, hl⟩, ha⟩, he⟩ := h
  obtain ⟨h1, h2⟩ := pe_mpath ok.toXOk hp
  have pa := PA.imp (pa_cons' ha (sE e ok.toXOk he) pa_nil) (t' := tAs R [.e e]) fun σ H Q q => tE.mono (as_cons q) fun _ _ q => as_nil q
  have := ps_expr (pos := pos) (pe_bm PySem.F.plainAttrs_list PySem.F.slot_list_append PySem.F.type_list_append mt_append h1 pa (h2 _) (plain_few ha) hl (star_of ha _ _) rfl) rfl
  rw [ok.K] at this
  cases es with
  | nil => exact pst this fun q => app0_read q
  | cons e0 es => exact pst this fun q => app_read q
theorem s_ext (ok : YOk R Z X) {i : Nat} {e : CE} {st : Stmt} (h : mS Z (.ext i e) st = true) : PS X st (tS R Z.io (.ext i e)) := by
  unfold mS at h
  split at h
  all_goals first | (cases ‹CS.ext i e = _›) | (cases h)
  rename_i x xp m ap a cp pos
  simp only [Bool.and_eq_true, decide_eq_true_eq] at h
  obtain ⟨⟨⟨⟨rfl, hp⟩, hl⟩, ha⟩, he⟩ := h
  have pa := PA.imp (pa_cons' ha (sE e ok.toXOk he) pa_nil) (t' := tAs R [.e e]) fun σ H Q q => tE.mono (as_cons q) fun _ _ q => as_nil q
  have := ps_expr (pos := pos) (pe_bm PySem.F.plainAttrs_list PySem.F.slot_list_extend PySem.F.type_list_extend mt_extend (pe_slot (pos := xp) ok.toXOk hp) pa rfl (plain_few ha) hl (star_of ha _ _) rfl) rfl
  rw [ok.K] at this
  exact pst this fun q => ext_read q
theorem s_clr (ok : YOk R Z X) {i : Nat} {es : List CE} {st : Stmt} (h : mS Z (.clr i es) st = true) : PS X st (tS R Z.io (.clr i es)) := by
  unfold mS at h
  split at h
  all_goals first | (cases ‹CS.clr i es = _›) | (cases h)
  rename_i o m ap cp pos
  simp only [Bool.and_eq_true, decide_eq_true_eq] at h
  obtain ⟨⟨rfl, hp⟩, hl⟩ := h
  obtain ⟨h1, h2⟩ := pe_mpath ok.toXOk hp
  have := ps_expr (pos := pos) (pe_bm0 PySem.F.plainAttrs_list PySem.F.slot_list_clear PySem.F.type_list_clear mt_clear h1 (h2 _) hl) rfl
  rw [ok.K] at this
  exact pst this fun q => clr_read q
end
theorem New.exc {K : PySem.W.Frag} {H : Hp} {f : Fp} {p C : Addr} {n : Str} (xi : Hx.XI K n C) (nn : H p = none) (h : Alc H f) : New K H f (upd H p (Hx.XO (.ref C) none p)) f (.x n) (.ref p) :=
  ⟨Ext.new nn, fun _ => 0, by unfold Rep; exact ⟨p, C, rfl, xi, mn_of (h.zero nn) upd_same⟩, fun a => by simp, fun a z => by simp at z⟩
theorem tryC_read {R : RC} {io : List Nat} {D : Ends} {σ : Sig} {H : Hp} {body : List CS} {c : Str} {i j : Nat} {xs : List Str} {cv : Value} {K : PySem.W.Frag} (io1 : i ∉ io) (io2 : j ∉ io)
    (hx : ∀ x ∈ xs, ∃ C, Hx.XI R.K x C ∧ R.mg x = some (.ref C) ∧ PySem.W.exmOne K (.ref C) cv = some (Hx.isxB x c)) (h : tS R io (.tryC body c i j xs) D σ H) :
    tSs { R with W := Hx.wKp K cv i (fun _ => tAsg (tVar i) (gName j)) R.W D } io body D σ H := by
  obtain ⟨Γ, f, pr, st, h⟩ := h
  refine ⟨Γ, f, pr, st, ?_⟩
  simp only [exS] at h
  cases e : exB R.F body Γ with
  | none => rw [e] at h; exact h
  | some r =>
    rw [e] at h
    cases r with
    | nx Γ1 => exact h
    | rt t Γ1 => exact h
    | bk Γ1 => exact h
    | ct Γ1 => exact h
    | ex x Γ1 =>
      simp only at h
      by_cases hc : xs.contains x = true ∧ i < Γ1.length
      · rw [if_pos hc] at h
        obtain ⟨C, xi, hm, he⟩ := hx x (List.contains_iff_mem.mp hc.1)
        intro C' σ' H' f' hm' s p st'
        have hm' : R.mg x = some (.ref C') := hm'
        rw [hm] at hm'
        cases hm'
        refine ⟨Hx.isxB x c, he, fun hb a ha => ?_, fun hb => ?_⟩
        · rw [if_pos hb] at h
          have hl : σ'.length = Γ1.length := by
            obtain ⟨_, _, g, ga, hs, _, _⟩ := st'
            exact hs.length
          have nw := New.exc (f := f') xi ha st'.2.1
          have st2 := (st'.new nw).store (i := j)
          have s2 := nw.stp pr
          refine ⟨.ref a, by rw [List.getElem?_set_self (by rw [hl]; exact hc.2)], ?_⟩
          refine h _ _ f' (s.trans s2 fun _ => Nat.le_refl _) ?_ ?_
          · refine p.trans ⟨by simp, fun k hk => ?_⟩
            have n1 : i ≠ k := fun z => io1 (z ▸ hk)
            have n2 : j ≠ k := fun z => io2 (z ▸ hk)
            rw [List.getElem?_set_ne n1, List.getElem?_set_ne n2, List.getElem?_set_ne n1]
          · have st3 := st2.wipeT [i]
            have : wipeT (Γ1.set j (.x x)) [i] = (Γ1.set j (.x x)).set i .gone := rfl
            rw [← this]
            exact st3.own (by simp) fun k hk => by
              have n1 : i ≠ k := fun z => hk (by rw [z]; exact List.mem_singleton_self k)
              by_cases n2 : j = k
              · subst n2
                rw [List.getElem?_set_ne n1]
                by_cases z : j < σ'.length
                · rw [List.getElem?_set_self (by simpa using z), List.getElem?_set_self z]
                · rw [List.getElem?_eq_none (by simp; omega), List.getElem?_eq_none (by simp; omega)]
              · rw [List.getElem?_set_ne n1, List.getElem?_set_ne n2, List.getElem?_set_ne n1, List.getElem?_set_ne n2]
        · rw [if_neg (by rw [hb]; exact Bool.false_ne_true)] at h
          exact h C σ' H' f' hm s p st'
      · rw [if_neg hc] at h; exact h.elim
mutual
theorem sS : ∀ (s : CS) {R : RC} {Z : MS} {X : Cx} (ok : YOk R Z X) {st : Stmt}, mS Z s st = true → PS X st (tS R Z.io s)
  | .set i e, R, Z, X, ok, st, h => s_set ok h
  | .setT is e, R, Z, X, ok, st, h => s_setT ok h
  | .par i j a b, R, Z, X, ok, st, h => s_par ok h
  | .setp i es l e, R, Z, X, ok, st, h => s_setp ok h
  | .app i es e, R, Z, X, ok, st, h => s_app ok h
  | .clr i es, R, Z, X, ok, st, h => s_clr ok h
  | .ext i e, R, Z, X, ok, st, h => s_ext ok h
  | .ex e, R, Z, X, ok, st, h => by
    unfold mS at h
    split at h
    all_goals first | (cases ‹CS.ex e = _›) | (cases h)
    rw [Bool.and_eq_true, Bool.not_eq_true'] at h
    exact pst (ps_expr (sE e ok.toXOk h.2) (sw_no h.1)) fun q => ex_read q
  | .ret e, R, Z, X, ok, st, h => by
    unfold mS at h
    split at h
    all_goals first | (cases ‹CS.ret e = _›) | (cases h)
    exact pst (ps_ret (sE e ok.toXOk h)) fun q => ret_read q
  | .retN, R, Z, X, ok, st, h => by
    unfold mS at h
    split at h
    all_goals first | (cases ‹CS.retN = _›; done) | (cases h; done) | skip
    exact pst ps_retN fun q => retN_read q
  | .ite c a b, R, Z, X, ok, st, h => by
    unfold mS at h
    split at h
    all_goals first | (cases ‹CS.ite c a b = _›) | (cases h)
    simp only [Bool.and_eq_true] at h
    exact pst (ps_if (sT c ok.toXOk h.1.1).1 (sB a ok h.1.2) (sB b ok h.2)) fun q => ite_read q
  | .for_ tg it body, R, Z, X, ok, st, h => by
    unfold mS at h
    split at h
    all_goals first | (cases ‹CS.for_ tg it body = _›) | (cases h)
    simp only [Bool.and_eq_true] at h
    obtain ⟨⟨⟨ht, hs⟩, hi⟩, hb⟩ := h
    exact pst (ps_for ok.hp ok.calm (sIt it ok.toXOk hi) (pg_tg ok.toXOk ht) (sB body ok hb) (it_folded hi _)) fun q => for_read (notins hs) q
  | .whl n c body, R, Z, X, ok, st, h => by
    unfold mS at h
    split at h
    all_goals first | (cases ‹CS.whl n c body = _›) | (cases h)
    rw [Bool.and_eq_true] at h
    exact pst (ps_while ok.hp (sT c ok.toXOk h.1).1 (sB body ok h.2)) fun q => whl_read q
  | .brk, R, Z, X, ok, st, h => by
    cases st <;> first | (exact absurd h (by unfold mS; exact Bool.false_ne_true)) | skip
    exact pst ps_break fun q => brk_read q
  | .cnt, R, Z, X, ok, st, h => by
    cases st <;> first | (exact absurd h (by unfold mS; exact Bool.false_ne_true)) | skip
    exact pst ps_continue fun q => cnt_read q
  | .pass, R, Z, X, ok, st, h => by
    cases st <;> first | (exact absurd h (by unfold mS; exact Bool.false_ne_true)) | skip
    exact pst ps_pass fun q => next_read (fun Γ => by simp only [exS]) q
  | .doc, R, Z, X, ok, st, h => by
    unfold mS at h
    split at h
    all_goals first | (cases ‹CS.doc = _›; done) | (cases h; done) | skip
    exact pst ps_doc fun q => next_read (fun Γ => by simp only [exS]) q
  | .rais x, R, Z, X, ok, st, h => by
    unfold mS at h
    split at h
    all_goals first | (cases ‹CS.rais x = _›) | (cases h)
    simp only [Bool.and_eq_true, decide_eq_true_eq, List.contains_iff_mem] at h
    obtain ⟨⟨rfl, hx⟩, hg⟩ := h
    obtain ⟨g1, g2, _⟩ := ok.gl hg
    obtain ⟨C, bmB, B, newId, initId, F, q, gC, kC, r⟩ := ok.exc _ hx
    exact pst (ps_raise ok.calm ok.tk (pmk_own F q gC kC r g1 g2)) fun z => rais_read (by rw [← ok.mg]; exact gC) z
  | .tryC body c i j xs, R, Z, X, ok, st, h => by
    unfold mS at h
    split at h
    all_goals first | (cases ‹CS.tryC body c i j xs = _›) | (cases h)
    rename_i b y np n m pm n' pn' pa ph pos
    simp only [Bool.and_eq_true, decide_eq_true_eq, Bool.not_eq_true', List.all_eq_true, List.contains_iff_mem] at h
    obtain ⟨⟨⟨⟨⟨⟨⟨⟨⟨⟨⟨rfl, hg⟩, hcl⟩, rfl⟩, hv⟩, hi⟩, hs⟩, hl⟩, hio⟩, hjo⟩, hxs⟩, hb⟩ := h
    obtain ⟨g1, g2, g3⟩ := ok.gl hg
    obtain ⟨l1, l2, l3⟩ := ok.lo hl
    obtain ⟨v1, v2, v3, v4⟩ := ok.vi hv
    obtain ⟨ce, E, e1, e2, e3, e4⟩ := ok.cl _ hcl
    have io1 : i ∉ Z.io := fun z => by rw [List.contains_iff_mem.mpr z] at hio; cases hio
    have io2 : j ∉ Z.io := fun z => by rw [List.contains_iff_mem.mpr z] at hjo; cases hjo
    have hN : X.N.Nodup := ok.ndX
    have hiX : X.N[i]? = some n := by rw [ok.N]; exact hi
    have hln : X.env.kindOf n = some .local := by
      have := locS_of hs
      rw [← ok.sc] at this
      exact this
    have q := Hx.ps_try_kp (X := X) (x := c) (n := n) (c := .ref E) (i := i) (np := np) (pos := pos) (pos' := ph) (body := b) (suite := []) (b₀ := .Assign [.Name m pm] (.Name n pn') pa) (Wout := R.W) (tb := fun W => tSs { R with W := W } Z.io body) (ts := fun _ => tAsg (tVar i) (gName j)) ok.exE ok.stk ok.frm hN hiX hln ⟨g1, g2, .inl (by rw [ok.mg]; exact e2)⟩ ok.tk
      (fun W pn xe tk hp => sB body (R := { R with W := W }) (Z := Z) (X := X.tr pn xe) ⟨⟨ok.K, ok.mg, ok.N, ok.sc, ok.fnc, ok.nd, ok.calm, tk, ok.un, ok.gd, ok.fns, ok.gls, ok.blt, ok.cl⟩, hp, ok.exc, ok.tri, ok.exE, ok.stk, ok.frm⟩ hb)
      (fun a pn => pss_one (ps_set (X := X.suite a pn) hN l1 l2 (pe_var (X := X.suite a pn) v1 v2 v3 v4) rfl l3))
    have hxs' : ∀ x ∈ xs, ∃ C, Hx.XI R.K x C ∧ R.mg x = some (.ref C) ∧ PySem.W.exmOne X.K (.ref C) (.ref E) = some (Hx.isxB x c) := by
      intro x hx
      obtain ⟨C, xi, hm⟩ := ok.tri x (hxs x hx)
      refine ⟨C, xi, hm, ?_⟩
      rw [ok.K]
      exact xi.exm _ ce E e1
    exact pst q fun z => tryC_read io1 io2 hxs' z
  | .dput i a e, R, Z, X, ok, st, h => s_dput ok h
  | .bor i es j body, R, Z, X, ok, st, h => by
    unfold mS at h
    cases h
  | .pre i s, R, Z, X, ok, st, h => by
    have h : mS Z s st = true := by unfold mS at h; exact h
    exact pst (sS s ok h) fun q => pre_read q
theorem sB : ∀ (ss : List CS) {R : RC} {Z : MS} {X : Cx} (ok : YOk R Z X) {sts : List Stmt}, mB Z ss sts = true → PSs X sts (tSs R Z.io ss)
  | [], R, Z, X, ok, sts, h => by
    cases sts with
    | nil => exact PSs.imp pss_nil fun _ _ _ q => nil_read q
    | cons _ _ => unfold mB at h; cases h
  | s :: ss, R, Z, X, ok, sts, h => by
    cases sts with
    | nil => unfold mB at h; cases h
    | cons t ts =>
      unfold mB at h
      rw [Bool.or_eq_true, Bool.and_eq_true, Bool.and_eq_true] at h
      rcases h with h | h
      · exact PSs.imp (pss_cons (sS s ok h.1) (sB ss ok h.2)) fun _ _ _ q => cons_read q
      · have e := List.isEmpty_iff.mp h.1
        subst e
        exact sR s ok h.2
theorem sR : ∀ (s : CS) {R : RC} {Z : MS} {X : Cx} (ok : YOk R Z X) {sts : List Stmt}, mR Z s sts = true → PSs X sts (tSs R Z.io [s])
  | .bor i es j body, R, Z, X, ok, sts, h => by
    unfold mR at h
    split at h
    all_goals first | (cases ‹CS.bor i es j body = _›) | (cases h)
    simp only [Bool.and_eq_true, Bool.not_eq_true'] at h
    obtain ⟨⟨⟨hl, hj⟩, hij⟩, ⟨hp, hc⟩, hb⟩ := h
    exact s_bor ok hl (fun z => by rw [List.contains_iff_mem.mpr z] at hj; cases hj) (fun z => by subst z; simp at hij) hp hc (sB body (ok.more _) hb)
  | .set _ _, _, _, _, _, _, h => by unfold mR at h; cases h
  | .setT _ _, _, _, _, _, _, h => by unfold mR at h; cases h
  | .par _ _ _ _, _, _, _, _, _, h => by unfold mR at h; cases h
  | .setp _ _ _ _, _, _, _, _, _, h => by unfold mR at h; cases h
  | .app _ _ _, _, _, _, _, _, h => by unfold mR at h; cases h
  | .clr _ _, _, _, _, _, _, h => by unfold mR at h; cases h
  | .ext _ _, _, _, _, _, _, h => by unfold mR at h; cases h
  | .ex _, _, _, _, _, _, h => by unfold mR at h; cases h
  | .ret _, _, _, _, _, _, h => by unfold mR at h; cases h
  | .retN, _, _, _, _, _, h => by unfold mR at h; cases h
  | .ite _ _ _, _, _, _, _, _, h => by unfold mR at h; cases h
  | .for_ _ _ _, _, _, _, _, _, h => by unfold mR at h; cases h
  | .whl _ _ _, _, _, _, _, _, h => by unfold mR at h; cases h
  | .brk, _, _, _, _, _, h => by unfold mR at h; cases h
  | .cnt, _, _, _, _, _, h => by unfold mR at h; cases h
  | .pass, _, _, _, _, _, h => by unfold mR at h; cases h
  | .doc, _, _, _, _, _, h => by unfold mR at h; cases h
  | .rais _, _, _, _, _, _, h => by unfold mR at h; cases h
  | .tryC _ _ _ _ _, _, _, _, _, _, h => by unfold mR at h; cases h
  | .dput _ _ _, _, _, _, _, _, h => by unfold mR at h; cases h
  | .pre _ _, _, _, _, _, _, h => by unfold mR at h; cases h
end
end Hw
set_option Elab.async false
set_option linter.all false
set_option maxRecDepth 100000
set_option maxHeartbeats 1000000
namespace Hw
open PySem PySem.Spec PyProof.Rows L2
structure DD where
  x : Str
  N : List Str
  pn : List Str
  ps : List Bool
  body : List CS
  st : Stmt
def genv (gl : Str → Option PyData) : List DD → Genv
  | [] => ⟨fun _ => none, gl⟩
  | d :: ds => ⟨fun y => if y = d.x then some (runDef (genv gl ds) d.N.length d.ps d.body) else (genv gl ds).fn y, gl⟩
def iosOf : Nat → List Bool → List Nat
  | _, [] => []
  | i, true :: ps => i :: iosOf (i + 1) ps
  | i, false :: ps => iosOf (i + 1) ps
def scopeC (N P : List Str) (sc : Scope) : Bool := isFunK sc.kind && !sc.isCoroutine && !sc.isGenerator && decide N.Nodup && decide (N.take P.length = P) && (P.all fun x => match sc.names.lookup x with | some .local => true | some .cell => true | _ => false) && (sc.names.all fun y => !(y.2 == .free))
theorem scope_of {N P : List Str} {sc : Scope} (h : scopeC N P sc = true) : FnScope N P sc := by
  unfold scopeC at h
  simp only [Bool.and_eq_true, Bool.not_eq_true', decide_eq_true_eq, List.all_eq_true] at h
  obtain ⟨⟨⟨⟨⟨⟨h1, h2⟩, h3⟩, h4⟩, h5⟩, h6⟩, h7⟩ := h
  refine ⟨isFunK_of h1, h2, h3, h4, h5, fun x hx => ?_, fun y hy e => ?_⟩
  · have := h6 x hx
    split at this <;> first | exact .inl (by assumption) | exact .inr (by assumption) | cases this
  · have := h7 y hy
    rw [e] at this
    cases this
structure XC where
  exs : List Str
  cls : List Str
  tr : List Str
def dOk (xc : XC) (d : DD) : Bool := scopeC d.N d.pn (defScope d.st) && decide (d.ps.length = d.pn.length) && mB ⟨⟨d.N, defScope d.st, fun _ => true, xc.cls⟩, iosOf 0 d.ps, xc.exs, xc.tr⟩ d.body (defBody d.st)
def DefIn (K : PySem.W.Frag) (d : DD) : Prop := ∃ f fd, PySem.W.nsIn K mainGlobals d.x = some (some (.ref f)) ∧ Fun K d.x d.x d.st f fd ∧ ∀ us : List Value, us.length = d.pn.length → bindArgs fd ⟨us, []⟩ = pure (d.pn.zip us)
def DefsIn (K : PySem.W.Frag) : List DD → Prop
  | [] => True
  | d :: ds => DefIn K d ∧ DefsIn K ds
def BltsIn (K : PySem.W.Frag) : List Str → Prop
  | [] => True
  | x :: xs => PySem.W.nsIn K mainGlobals x = some none ∧ BltsIn K xs
theorem BltsIn.at {K : PySem.W.Frag} : ∀ {xs : List Str}, BltsIn K xs → ∀ x ∈ xs, PySem.W.nsIn K mainGlobals x = some none
  | [], _, _, h => by cases h
  | y :: xs, h, x, hx => by
    cases hx with
    | head => exact h.1
    | tail _ z => exact BltsIn.at h.2 x z
theorem defIn {K : PySem.W.Frag} {d : DD} {f : Addr} {oc : Value} {od an : Option Addr} {osl : Array (Option Value)} {kV doc pm cdv ct : Value} (a : PySem.W.nsIn K mainGlobals d.x = some (some (.ref f)))
    (l : K.lookup f = some ⟨oc, od, .func (PySem.W.fnOf d.x d.x (defArgs d.st) (defBody d.st) (defScope d.st) .none kV doc pm an cdv ct), osl⟩) (c : PySem.W.codeIn K cdv d.x = true) (k : PySem.W.keepIn K (.ref f) = true)
    (b : ∀ (kV doc pm : Value) (an : Option Addr) (cdv ct : Value) (us : List Value), us.length = d.pn.length → bindArgs (PySem.W.fnOf d.x d.x (defArgs d.st) (defBody d.st) (defScope d.st) .none kV doc pm an cdv ct) ⟨us, []⟩ = pure (d.pn.zip us)) : DefIn K d :=
  ⟨f, _, a, fun_mk l c k, b kV doc pm an cdv ct⟩
section
variable {K : PySem.W.Frag} {H : Hp} {f : Fp}
theorem outs_rep : ∀ {ps : List Bool} {Γ : List Tr} {σ : Sig} {vs : List V} {g : Fp} , RepS K H f Γ σ g → vs.length = ps.length → ps.length ≤ Γ.length → (∀ (i : Nat) (v : V), ps[i]? = some true → vs[i]? = some v → σ[i]? = some (some v)) → RepL K H f (outsOf ps Γ) vs g
  | [], Γ, σ, vs, g, h, hl, _, _ => by
    cases vs with
    | nil => unfold outsOf RepL; rfl
    | cons _ _ => simp at hl
  | p :: ps, [], _, _, _, _, _, hl, _ => by simp at hl
  | p :: ps, x :: Γ, σ, vs, g, h, hl, hl2, hp => by
    cases vs with
    | nil => simp at hl
    | cons v vs =>
      obtain ⟨o, r, g1, g2, rfl, h1, h2, h3⟩ := h
      have rest := outs_rep (ps := ps) (vs := vs) h2 (by simpa using hl) (by simpa using hl2) fun i w e1 e2 => by have := hp (i + 1) w (by simpa using e1) (by simpa using e2); simpa using this
      cases p with
      | false =>
        unfold outsOf RepL
        exact ⟨v, vs, fun _ => 0, g2, rfl, by unfold Rep; trivial, rest, fun a => by have := h3 a; show 0 + g2 a ≤ g a; omega⟩
      | true =>
        unfold outsOf RepL
        have e := hp 0 v rfl rfl
        simp at e
        subst e
        refine ⟨v, vs, g1, g2, rfl, ?_, rest, h3⟩
        by_cases n : x = .gone
        · subst n; unfold Rep; trivial
        · obtain ⟨w, e, r⟩ := h1.get n
          cases e
          exact r
theorem start_rep {n : Nat} : ∀ {ts : List Tr} {vs : List V} {g : Fp}, RepL K H f ts vs g → RepS K H f (ts ++ List.replicate n .gone) (vs.map some ++ List.replicate n none) g
  | [], _, g, h => by
    unfold RepL at h
    subst h
    simp only [List.nil_append, List.map_nil]
    induction n generalizing g with
    | zero => unfold List.replicate RepS; rfl
    | succ n ih =>
      rw [List.replicate_succ, List.replicate_succ]
      exact ⟨none, _, fun _ => 0, g, rfl, trivial, ih g, fun a => by show 0 + g a ≤ g a; omega⟩
  | t :: ts, _, g, h => by
    obtain ⟨v, r, g1, g2, rfl, h1, h2, h3⟩ := h
    exact ⟨some v, _, g1, g2, rfl, .mk h1, start_rep h2, h3⟩
theorem iosOf_mem : ∀ {ps : List Bool} {k i : Nat}, ps[i]? = some true → k + i ∈ iosOf k ps
  | [], _, _, h => by simp at h
  | true :: ps, k, 0, h => by unfold iosOf; exact List.mem_cons_self ..
  | false :: ps, k, 0, h => by simp at h
  | true :: ps, k, i + 1, h => by
    unfold iosOf
    have := iosOf_mem (k := k + 1) (by simpa using h : ps[i]? = some true)
    exact List.mem_cons_of_mem _ (by rw [show k + (i + 1) = k + 1 + i by omega]; exact this)
  | false :: ps, k, i + 1, h => by
    unfold iosOf
    have := iosOf_mem (k := k + 1) (by simpa using h : ps[i]? = some true)
    rw [show k + (i + 1) = k + 1 + i by omega]; exact this
end
theorem body_sound {R : RC} {d : DD} {F : Genv} {X : Cx} {exs : List Str} {M : MC} (hF : R.F = F) (hps : d.ps.length = d.pn.length) (hpn : d.pn.length ≤ d.N.length) {H : Hp} {vs : List V} {Q : VK} {E : XK} (hW : R.W = fun cls dd _ H => E cls dd H)
    (h : spF R.K R.mg d.pn.length (runDef F d.N.length d.ps d.body) vs H Q E) : tSs R (iosOf 0 d.ps) d.body { nx := fun _ H' => Q .non H', rt := Q } (L2.start d.N vs) H := by
  subst hF
  obtain ⟨hl, ts, f, pr, ga, rl, h1, al, hb, h⟩ := h
  have lt : ts.length = vs.length := rl.length.symm
  unfold runDef at h
  rw [if_pos ⟨by omega, by omega⟩] at h
  have hs : RepS R.K H f (ts ++ List.replicate (d.N.length - ts.length) .gone) (L2.start d.N vs) ga := by
    unfold L2.start
    rw [lt]
    exact start_rep rl
  refine ⟨_, f, pr, ⟨h1, al, ga, fun _ => 0, hs, trivial, fun a => by have := hb a; show 0 + _ ≤ _; omega⟩, ?_⟩
  have outs : ∀ {Γ : List Tr} {σ' : Sig} {H' : Hp} {f' : Fp} {g : Fp}, Pin (iosOf 0 d.ps) (L2.start d.N vs) σ' → RepS R.K H' f' Γ σ' g → RepL R.K H' f' (outsOf d.ps Γ) vs g := by
    intro Γ σ' H' f' g pin rs
    have ll : σ'.length = d.N.length := by rw [pin.1]; unfold L2.start; simp; omega
    refine outs_rep rs (by omega) (by rw [← rs.length, ll]; omega) fun i v e1 e2 => ?_
    have := pin.2 i (by have := iosOf_mem (k := 0) e1; rwa [Nat.zero_add] at this)
    rw [this]
    unfold L2.start
    have hi : i < vs.length := (List.getElem?_eq_some_iff.mp e2).1
    rw [List.getElem?_append_left (by simpa using hi), List.getElem?_map, e2]
    rfl
  cases q : exB R.F d.body (ts ++ List.replicate (d.N.length - ts.length) .gone) with
  | none => rw [q] at h; exact h
  | some r =>
    rw [q] at h
    cases r with
    | nx Γ =>
      intro σ' H' f' s pin st
      obtain ⟨k1, k2, g, gx, rs, _, kl⟩ := st
      exact h .non H' f' s k1 k2 ⟨fun _ => 0, g, by unfold Rep Dr; rfl, outs pin rs, fun a => by have := kl a; show 0 + (g a + pr a) ≤ _; omega⟩
    | rt t Γ =>
      intro v σ' H' f' s pin st
      obtain ⟨k1, k2, g, gx, rs, rv, kl⟩ := st
      exact h v H' f' s k1 k2 ⟨gx, g, rv, outs pin rs, fun a => kl a⟩
    | bk Γ => exact h.elim
    | ct Γ => exact h.elim
    | ex x Γ =>
      intro C σ' H' f' hm s pin st
      obtain ⟨k1, k2, g, gx, rs, _, kl⟩ := st
      rw [hW]
      exact h C H' f' hm s k1 k2 fun a => by have := kl a; omega
structure TopOk (P : Program) (w : World) (K : PySem.W.Frag) (mg : Str → Option Value) (base : Heap) (gl : Str → Option PyData) (xc : XC) : Prop where
  gls : ∀ x d, gl x = some d → ∃ v u, mg x = some u ∧ RelV v u ∧ ∀ K H, Dr K H d v
  blt : ∀ x ∈ bltNames, mg x = none
  exc : ∀ x ∈ xc.exs, ∃ C bmB B newId initId, ExcBaseFacts B newId initId bmB ∧ PySem.W.excIn K C bmB newId = true ∧ mg x = some (.ref C) ∧ PySem.W.keepIn K (.ref C) = true ∧ PySem.W.subIn K (.ref C) (.type "BaseException") = some true ∧ PySem.W.typeIn K (.ref C) = some (.type "type")
  cl : ∀ c ∈ xc.cls, c ∈ Hx.excNames ∧ ∃ D, PySem.W.nsIn K mainGlobals c = some (some (.ref D)) ∧ mg c = some (.ref D) ∧ PySem.W.keepIn K (.ref D) = true ∧ PySem.W.kitOne K (.type "NoneType") (.ref D) = some false
  tri : ∀ x ∈ xc.tr, ∃ C, Hx.XI K x C ∧ mg x = some (.ref C)
theorem fn_gl {gl : Str → Option PyData} : ∀ ds : List DD, (genv gl ds).gl = gl
  | [] => rfl
  | d :: ds => rfl
theorem run_len {F : Genv} {n : Nat} {ps : List Bool} {body : List CS} {ts : List Tr} {r : FR} (h : runDef F n ps body ts = some r) : ts.length = ps.length := by
  unfold runDef at h
  split at h
  · rename_i z; exact z.1
  · cases h
theorem def_ok {P : Program} {w : World} {K : PySem.W.Frag} {mg : Str → Option Value} {base : Heap} {gl : Str → Option PyData} {xc : XC} (T : TopOk P w K mg base gl xc) {d : DD} {ds : List DD} (hd : dOk xc d = true) {f : Addr} {fd : FuncData} (fu : Fun K d.x d.x d.st f fd)
    (ih : ∀ y run, (genv gl ds).fn y = some run → ∃ n f fd ps, Hq.FnG P w K mg base ds.length f fd ps (spF K mg n run) ∧ mg y = some (.ref f) ∧ PySem.W.keepIn K (.ref f) = true ∧ Binds K fd ps [] ∧ ∀ ts r, run ts = some r → ts.length = n) :
    Hq.FnG P w K mg base (ds.length + 1) f fd d.pn (spF K mg d.pn.length (runDef (genv gl ds) d.N.length d.ps d.body)) := by
  unfold dOk at hd
  simp only [Bool.and_eq_true, decide_eq_true_eq] at hd
  obtain ⟨⟨hsc, hlen⟩, hm⟩ := hd
  have S := scope_of hsc
  refine Hq.okG fu S (fun vs H Q E h => h.1) fun cdv A outer s H vs Q E gd hr hsp => ?_
  have hpl : d.pn.length ≤ d.N.length := by have := congrArg List.length S.pre; rw [List.length_take] at this; omega
  refine ⟨tSs ⟨K, mg, genv gl ds, fun cls dd _ H => E cls dd H⟩ (iosOf 0 d.ps) d.body, sB d.body (Z := ⟨⟨d.N, defScope d.st, fun _ => true, xc.cls⟩, iosOf 0 d.ps, xc.exs, xc.tr⟩) ⟨⟨rfl, rfl, rfl, rfl, rfl, S.nd, rfl, ?tk, ?un, gd.deeper _, ?fns, ?gls, T.blt, T.cl⟩, ?hp, ?exc, T.tri, rfl, rfl, rfl⟩ hm,
    body_sound (R := ⟨K, mg, genv gl ds, fun cls dd _ H => E cls dd H⟩) (X := cxOf (L2.CX P w) P w K mg base d.N d.x (defScope d.st) f cdv A outer s H E) (exs := xc.exs) (M := ⟨d.N, defScope d.st, fun _ => true, xc.cls⟩) rfl hlen hpl rfl hsp⟩
  case tk => exact takes_of rfl rfl rfl rfl
  case un => have := hr.un; show (A.deeper _).units + 65 < _; omega
  case fns =>
    intro x run hx
    obtain ⟨n, f', fd', ps', F', m', k', b', l'⟩ := ih x run hx
    exact ⟨n, f', fd', ps', ds.length, F', m', k', b', hr, l'⟩
  case gls => rw [fn_gl]; exact T.gls
  case hp => exact passes_of rfl
  case exc =>
    intro x hx
    obtain ⟨C, bmB, B, newId, initId, e1, e2, e3, e4, e5, e6⟩ := T.exc x hx
    exact ⟨C, bmB, B, newId, initId, e1, e2, e3, e4, raises_own e5 e6⟩
theorem defs_ok {P : Program} {w : World} {K : PySem.W.Frag} {mg : Str → Option Value} {base : Heap} {gl : Str → Option PyData} {xc : XC} (T : TopOk P w K mg base gl xc) (hmg : ∀ x v, PySem.W.nsIn K mainGlobals x = some (some v) → mg x = some v) :
    ∀ ds : List DD, (∀ d ∈ ds, dOk xc d = true) → DefsIn K ds →
      ∀ y run, (genv gl ds).fn y = some run → ∃ n f fd ps, Hq.FnG P w K mg base ds.length f fd ps (spF K mg n run) ∧ mg y = some (.ref f) ∧ PySem.W.keepIn K (.ref f) = true ∧ Binds K fd ps [] ∧ ∀ ts r, run ts = some r → ts.length = n
  | [], _, _, y, run, h => by cases h
  | d :: ds, ho, hi, y, run, h => by
    have ih := defs_ok T hmg ds (fun e he => ho e (List.mem_cons_of_mem _ he)) hi.2
    unfold genv at h
    dsimp only at h
    split at h
    · rename_i e
      subst e
      cases h
      have hd := ho d (List.mem_cons_self ..)
      obtain ⟨⟨f, fd, ns, fu, bd⟩, _⟩ := hi
      refine ⟨d.pn.length, f, fd, d.pn, def_ok T hd fu ih, hmg _ _ ns, fu.kp, .all bd, fun ts r hr => ?_⟩
      unfold dOk at hd
      simp only [Bool.and_eq_true, decide_eq_true_eq] at hd
      rw [run_len hr, hd.1.2]
    · obtain ⟨n, f', fd', ps', F', m', k', b', l'⟩ := ih y run h
      exact ⟨n, f', fd', ps', F'.mono (Nat.le_succ _), m', k', b', l'⟩
end Hw
set_option Elab.async false
set_option linter.all false
set_option maxRecDepth 100000
set_option maxHeartbeats 1000000
namespace Hw
open PySem PySem.Spec PyProof.Rows L2
def spLaw (K : PySem.W.Frag) : Sp := fun vs H Q E => ∃ (a : Addr) (ns : List Int), vs = [.ref a] ∧ SqL K H a (ns.map V.int) ∧ ns.length ≤ 63 ∧ (∀ z ∈ ns, Builtin.Int.intBits z ≤ 1048576) ∧ ∀ H', Q (.bl true) H'
theorem mn_zero (H : Hp) : mn H (fun _ => 0) = H := by
  funext a
  unfold mn
  simp
theorem law_sp {K : PySem.W.Frag} {mg : Str → Option Value} {run : List Tr → Option FR} (hrun : ∀ ns : List Int, ns.length ≤ 63 → (∀ z ∈ ns, Builtin.Int.intBits z ≤ 1048576) → ∃ os, run [.s ns] = some (.ok (bT true) os)) {vs : List V} {H : Hp} {Q : VK} {E : XK} (h : spLaw K vs H Q E) : spF K mg 1 run vs H Q E := by
  obtain ⟨a, ns, rfl, hS, hl, hb, q⟩ := h
  refine ⟨rfl, [.s ns], fun _ => 0, fun _ => 0, fun _ => 0, ?_, fun _ => Nat.zero_le _, fun a ha => absurd ha (by show ¬ (1 ≤ 0); decide), fun _ => Nat.le_refl _, ?_⟩
  · unfold RepL
    refine ⟨_, [], fun _ => 0, fun _ => 0, rfl, ?_, by unfold RepL; rfl, fun _ => Nat.le_refl _⟩
    unfold Rep
    exact ⟨a, rfl, by rw [mn_zero]; exact hS⟩
  · obtain ⟨os, e⟩ := hrun ns hl hb
    rw [e]
    intro v H' f' s h1 h2 ⟨g, go, rv, ro, l⟩
    rw [bT_val rv]
    exact q H'
structure ExIn (K : PySem.W.Frag) (x : Str) : Prop where
  ex : ∃ C bmB B newId initId, ExcBaseFacts B newId initId bmB ∧ PySem.W.excIn K C bmB newId = true ∧ PySem.W.nsIn K mainGlobals x = some (some (.ref C)) ∧ PySem.W.keepIn K (.ref C) = true ∧ PySem.W.subIn K (.ref C) (.type "BaseException") = some true ∧ PySem.W.typeIn K (.ref C) = some (.type "type")
structure ClIn (K : PySem.W.Frag) (x : Str) : Prop where
  nm : x ∈ Hx.excNames
  ex : ∃ C, PySem.W.nsIn K mainGlobals x = some (some (.ref C)) ∧ PySem.W.keepIn K (.ref C) = true ∧ PySem.W.kitOne K (.type "NoneType") (.ref C) = some false
structure XiIn (K : PySem.W.Frag) (x : Str) : Prop where
  ex : ∃ C, PySem.W.nsIn K mainGlobals x = some (some (.ref C)) ∧ Hx.XI K x C
theorem law_mk {l : PySem.W.OpenLaw} {w : World} {K : PySem.W.Frag} {h : Heap} {mg : Str → Option Value} {fa : Addr} (X : K.In h) (G : h.Ns mainGlobals mg) (hfa : mg "law" = some (.ref fa)) (gl : Str → Option PyData) (xc : XC) (d : DD) (ds : List DD)
    (hgl : ∀ x y, gl x = some y → ∃ v u, PySem.W.nsIn K mainGlobals x = some (some u) ∧ RelV v u ∧ ∀ K H, Dr K H y v)
    (hok : ∀ e ∈ d :: ds, dOk xc e = true) (hx : d.x = "law") (hpn : d.pn = [("script" : Str)])
    (hrun : ∀ ns : List Int, ns.length ≤ 63 → (∀ z ∈ ns, Builtin.Int.intBits z ≤ 1048576) → ∃ os, runDef (genv gl ds) d.N.length d.ps d.body [.s ns] = some (.ok (bT true) os))
    (D : DefsIn K (d :: ds)) (B : BltsIn K bltNames) (E : ∀ x ∈ xc.exs, ExIn K x) (CL : ∀ x ∈ xc.cls, ClIn K x) (XI : ∀ x ∈ xc.tr, XiIn K x) :
    ∃ fd : FuncData, (∀ (s : Shared) (v : Value), BindsTo s fd ⟨[v], []⟩ [("script", v)]) ∧ ∀ base : Heap, K.In base → base.Ns mainGlobals mg → Hq.FnG l.prog w K mg base (ds.length + 1) fa fd ["script"] (spLaw K) := by
  have mgo : ∀ x v, PySem.W.nsIn K mainGlobals x = some (some v) → mg x = some v := fun x v e => PySem.W.mg_of X G e
  have T : ∀ base, TopOk l.prog w K mg base gl xc := fun base => ⟨fun x y e => by
    obtain ⟨v, u, e1, e2, e3⟩ := hgl x y e
    exact ⟨v, u, mgo _ _ e1, e2, e3⟩, fun x hx => PySem.W.mg_none_of X G (B.at x hx), fun x hx => by
    obtain ⟨C, bmB, B, newId, initId, e1, e2, e3, e4, e5, e6⟩ := (E x hx).ex
    exact ⟨C, bmB, B, newId, initId, e1, e2, mgo _ _ e3, e4, e5, e6⟩, fun x hx => by
    obtain ⟨C, e1, e2, e3⟩ := (CL x hx).ex
    exact ⟨(CL x hx).nm, C, e1, mgo _ _ e1, e2, e3⟩, fun x hx => by
    obtain ⟨C, e1, e2⟩ := (XI x hx).ex
    exact ⟨C, e2, mgo _ _ e1⟩⟩
  obtain ⟨f, fd, ns, fu, bd⟩ := id D.1
  have ff : f = fa := by
    have := mgo _ _ ns
    rw [hx, hfa] at this
    cases this
    rfl
  subst ff
  refine ⟨fd, fun s v => .of_eq (by have := bd [v] (by rw [hpn]; rfl); rw [hpn] at this; exact this), fun base hb hn => ?_⟩
  have F := def_ok (T base) (hok d (List.mem_cons_self ..)) fu (defs_ok (T base) mgo ds (fun e he => hok e (List.mem_cons_of_mem _ he)) D.2)
  rw [hpn] at F
  exact F.imp fun vs H Q E q => law_sp hrun q
end Hw
set_option Elab.async false
set_option linter.all false
set_option maxRecDepth 100000
set_option maxHeartbeats 400000
namespace Hw
open PySem PySem.Spec PyProof.Rows L2
theorem exB_nx {F : Genv} {s : CS} {ss : List CS} {Γ Γ1 : List Tr} (h : exS F s Γ = some (.nx Γ1)) : exB F (s :: ss) Γ = exB F ss Γ1 := by
  rw [exB, h]
theorem exB_rt {F : Genv} {s : CS} {ss : List CS} {Γ Γ1 : List Tr} {t : Tr} (h : exS F s Γ = some (.rt t Γ1)) : exB F (s :: ss) Γ = some (.rt t Γ1) := by
  rw [exB, h]
theorem run_rt {F : Genv} {n : Nat} {ps : List Bool} {body : List CS} {ts : List Tr} {t : Tr} {Γ : List Tr} (hl : ts.length = ps.length) (hn : ps.length ≤ n) (h : exB F body (ts ++ List.replicate (n - ts.length) .gone) = some (.rt t Γ)) : runDef F n ps body ts = some (.ok t (outsOf ps Γ)) := by
  unfold runDef
  rw [if_pos ⟨hl, hn⟩, h]
theorem lg_lt {n k : Nat} (h : n < 2 ^ k) (hk : 0 < k) : n.log2 < k := by
  by_cases z : n = 0
  · subst z; exact hk
  · exact (Nat.log2_lt z).mpr h
theorem exS_for {F : Genv} {tg : CTg} {it : CIt} {body : List CS} {Γ Γ1 : List Tr} {ds : List PyData} (h : evIt F it Γ = some (.ok ds Γ1)) : exS F (.for_ tg it body) Γ = forL (fun Γ => exB F body Γ) (fun Γ d => bindTg Γ tg d) ds Γ1 := by
  simp only [exS, h]
end Hw
set_option Elab.async false
set_option linter.all false
set_option maxRecDepth 100000
namespace Hw
open PySem PySem.Spec PyProof.Rows L2
def ExsIn (K : PySem.W.Frag) : List Str → Prop
  | [] => True
  | x :: xs => ExIn K x ∧ ExsIn K xs
theorem ExsIn.at {K : PySem.W.Frag} : ∀ {xs : List Str}, ExsIn K xs → ∀ x ∈ xs, ExIn K x
  | [], _, _, h => by cases h
  | y :: xs, h, x, hx => by
    cases hx with
    | head => exact h.1
    | tail _ z => exact ExsIn.at h.2 x z
theorem exIn {K : PySem.W.Frag} {x : Str} {C : Addr} (g : PySem.W.nsIn K mainGlobals x = some (some (.ref C))) (q : PySem.W.excIn K C [.type "ValueError", .type "Exception", .type "BaseException", .type "object"] "ValueError.__new__" = true) (k : PySem.W.keepIn K (.ref C) = true)
    (b : PySem.W.subIn K (.ref C) (.type "BaseException") = some true) (t : PySem.W.typeIn K (.ref C) = some (.type "type")) : ExIn K x :=
  ⟨C, _, _, _, _, PySem.F.excBase_ValueError, q, g, k, b, t⟩
def ClsIn (K : PySem.W.Frag) : List Str → Prop
  | [] => True
  | x :: xs => ClIn K x ∧ ClsIn K xs
theorem ClsIn.at {K : PySem.W.Frag} : ∀ {xs : List Str}, ClsIn K xs → ∀ x ∈ xs, ClIn K x
  | [], _, _, h => by cases h
  | y :: xs, h, x, hx => by
    cases hx with
    | head => exact h.1
    | tail _ z => exact ClsIn.at h.2 x z
def XisIn (K : PySem.W.Frag) : List Str → Prop
  | [] => True
  | x :: xs => XiIn K x ∧ XisIn K xs
theorem XisIn.at {K : PySem.W.Frag} : ∀ {xs : List Str}, XisIn K xs → ∀ x ∈ xs, XiIn K x
  | [], _, _, h => by cases h
  | y :: xs, h, x, hx => by
    cases hx with
    | head => exact h.1
    | tail _ z => exact XisIn.at h.2 x z
def GlsIn (K : PySem.W.Frag) : List (Str × Int) → Prop
  | [] => True
  | (x, i) :: xs => (∃ t, PySem.W.nsIn K mainGlobals x = some (some (.int i t))) ∧ GlsIn K xs
def glI : List (Str × Int) → Str → Option PyData
  | [], _ => none
  | (y, i) :: xs, x => if x = y then some (.int i) else glI xs x
theorem gls_of {K : PySem.W.Frag} : ∀ {l : List (Str × Int)}, GlsIn K l → ∀ x y, glI l x = some y → ∃ v u, PySem.W.nsIn K mainGlobals x = some (some u) ∧ RelV v u ∧ ∀ K H, Dr K H y v
  | [], _, x, y, h => by cases h
  | (z, i) :: l, g, x, y, h => by
    unfold glI at h
    split at h
    · rename_i e
      subst e
      cases h
      obtain ⟨t, ht⟩ := g.1
      exact ⟨.int i, .int i t, ht, ⟨t, rfl⟩, fun K H => by unfold Dr; rfl⟩
    · exact gls_of g.2 x y h
end Hw
set_option Elab.async false
set_option linter.all false
set_option maxRecDepth 100000
set_option maxHeartbeats 400000
namespace Hw
open PySem PySem.Spec PyProof.Rows L2
@[simp] theorem iT_is (i : Int) : iT i = .c (.int i) := rfl
@[simp] theorem bT_is (b : Bool) : bT b = .c (.bool b) := rfl
@[simp] theorem asInt_c (i : Int) : asInt (.c (.int i)) = some i := rfl
@[simp] theorem asBool_c (b : Bool) : asBool (.c (.bool b)) = some b := rfl
@[simp] theorem asTup_c (ds : List PyData) : asTup (.c (.tuple ds)) = some ds := rfl
@[simp] theorem asList_t (ds : List PyData) : asList (.c (.tuple ds)) = none := rfl
@[simp] theorem asList_c (ds : List PyData) : asList (.c (.list ds)) = some ds := rfl
@[simp] theorem asList_l (xs : List Tr) : asList (.l xs) = stl xs := rfl
@[simp] theorem asSeq_c (ds : List PyData) : asSeq (.c (.tuple ds)) = some ds := rfl
@[simp] theorem asSeq_cl (ds : List PyData) : asSeq (.c (.list ds)) = some ds := rfl
theorem stl_map {α : Type} (h : α → PyData) : ∀ xs : List α, stl (xs.map fun x => .c (h x)) = some (xs.map h)
  | [] => rfl
  | x :: xs => by simp [stl, stl_map h xs]
theorem stl_c : ∀ ds : List PyData, stl (ds.map .c) = some ds
  | [] => rfl
  | d :: ds => by simp [stl, stl_c ds]
theorem frzL_map {α : Type} (h : α → PyData) : ∀ xs : List α, frzL (xs.map fun x => .c (h x)) = some (xs.map h)
  | [] => by simp [frzL]
  | x :: xs => by simp [frzL, frz, frzL_map h xs]
@[simp] theorem frz_c (d : PyData) : frz (.c d) = some d := by simp [frz]
@[simp] theorem see_c (d : PyData) : see (.c d) = some d := by simp [see]
@[simp] theorem settle_c (d : PyData) : settle (.c d) = some (.c d) := by simp [Hw.settle]
@[simp] theorem settle_s (ns : List Int) : settle (.s ns) = some (.s ns) := by simp [Hw.settle]
theorem asSeq_l {xs : List Tr} {ds : List PyData} (h : stl xs = some ds) : asSeq (.l xs) = some ds := by unfold asSeq; rw [asList_l, h]
theorem intsOf_map {α : Type} (h : α → Int) : ∀ xs : List α, intsOf (xs.map fun x => .int (h x)) = some (xs.map h)
  | [] => rfl
  | x :: xs => by simp [intsOf, intsOf_map h xs]
theorem boolsOf_map {α : Type} (h : α → Bool) : ∀ xs : List α, boolsOf (xs.map fun x => .bool (h x)) = some (xs.map h)
  | [] => rfl
  | x :: xs => by simp [boolsOf, boolsOf_map h xs]
def mpT {α : Type} (h : α → PyData) (xs : List α) : Tr := .l (xs.map fun x => .c (h x))
@[simp] theorem mpT_stl {α : Type} (h : α → PyData) (xs : List α) : asList (mpT h xs) = some (xs.map h) := stl_map h xs
@[simp] theorem mpT_seq {α : Type} (h : α → PyData) (xs : List α) : asSeq (mpT h xs) = some (xs.map h) := asSeq_l (stl_map h xs)
@[simp] theorem mpT_frz {α : Type} (h : α → PyData) (xs : List α) : frz (mpT h xs) = some (.list (xs.map h)) := by simp [mpT, frz, frzL_map]
@[simp] theorem mpT_see {α : Type} (h : α → PyData) (xs : List α) : see (mpT h xs) = some (.list (xs.map h)) := by
  have := mpT_frz h xs
  simpa [mpT, see] using this
theorem rg0 (n : Nat) : rgD 0 (n : Nat) = (List.range n).map fun i => PyData.int (i : Nat) := by
  unfold rgD
  simp
theorem rgz (n : Int) : rgD 0 n = (List.range n.toNat).map fun i => PyData.int (i : Nat) := by
  unfold rgD
  simp
@[simp] theorem atI_n {α : Type} (xs : List α) (n : Nat) : atI xs (n : Int) = xs[n]? := by
  unfold atI
  by_cases h : n < xs.length
  · have : ixN xs.length (n : Int) = some n := by unfold ixN; rw [if_pos (by omega), if_pos (by omega)]; rfl
    rw [this]; rfl
  · have : ixN xs.length (n : Int) = none := by
      unfold ixN
      rw [if_pos (by omega), if_neg (by omega)]
    rw [this, List.getElem?_eq_none (by omega)]; rfl
def Run (F : Genv) (ss : List CS) (Γ : List Tr) (Q : SR → Prop) : Prop := ∃ r, exB F ss Γ = some r ∧ Q r
section
variable {F : Genv} {s : CS} {ss : List CS} {Γ Γ1 : List Tr} {Q Q' : SR → Prop} {t : Tr} {x : Str}
theorem Run.nx (h : exS F s Γ = some (.nx Γ1)) (k : Run F ss Γ1 Q) : Run F (s :: ss) Γ Q := by
  obtain ⟨r, e, q⟩ := k
  exact ⟨r, by rw [exB_nx h]; exact e, q⟩
theorem Run.rt (h : exS F s Γ = some (.rt t Γ1)) (k : Q (.rt t Γ1)) : Run F (s :: ss) Γ Q := ⟨_, exB_rt h, k⟩
theorem Run.ex (h : exS F s Γ = some (.ex x Γ1)) (k : Q (.ex x Γ1)) : Run F (s :: ss) Γ Q := ⟨_, by rw [exB, h], k⟩
theorem Run.bk (h : exS F s Γ = some (.bk Γ1)) (k : Q (.bk Γ1)) : Run F (s :: ss) Γ Q := ⟨_, by rw [exB, h], k⟩
theorem Run.nil (k : Q (.nx Γ)) : Run F [] Γ Q := ⟨_, by rw [exB], k⟩
theorem Run.imp (h : Run F ss Γ Q) (k : ∀ r, Q r → Q' r) : Run F ss Γ Q' := let ⟨r, e, q⟩ := h; ⟨r, e, k r q⟩
def Aft (F : Genv) (ss : List CS) (Q : SR → Prop) : SR → Prop
  | .nx Γ => Run F ss Γ Q
  | r => Q r
theorem Run.ite {c : CT} {a b : List CS} {k : Bool} (h : evT F c Γ = some (.ok k Γ1)) (h1 : k = true → Run F a Γ1 (Aft F ss Q)) (h2 : k = false → Run F b Γ1 (Aft F ss Q)) : Run F (.ite c a b :: ss) Γ Q := by
  have go : ∀ d, exS F (.ite c a b) Γ = exB F d Γ1 → Run F d Γ1 (Aft F ss Q) → Run F (.ite c a b :: ss) Γ Q := by
    intro d e ⟨r, e1, q⟩
    rw [e1] at e
    cases r with
    | nx Γ2 =>
      obtain ⟨r2, e2, q2⟩ := (show Run F ss Γ2 Q from q)
      exact ⟨r2, by rw [exB_nx e]; exact e2, q2⟩
    | rt t Γ2 => exact ⟨_, exB_rt e, q⟩
    | bk Γ2 => exact ⟨_, by rw [exB, e], q⟩
    | ct Γ2 => exact ⟨_, by rw [exB, e], q⟩
    | ex x Γ2 => exact ⟨_, by rw [exB, e], q⟩
  cases k with
  | true => exact go a (by simp only [exS, h]) (h1 rfl)
  | false => exact go b (by simp only [exS, h]) (h2 rfl)
theorem Run.iteF {c : CT} {a b : List CS} (h : evT F c Γ = some (.ok false Γ1)) (k : Run F b Γ1 (Aft F ss Q)) : Run F (.ite c a b :: ss) Γ Q := Run.ite h (fun z => by cases z) fun _ => k
theorem Run.iteT {c : CT} {a b : List CS} (h : evT F c Γ = some (.ok true Γ1)) (k : Run F a Γ1 (Aft F ss Q)) : Run F (.ite c a b :: ss) Γ Q := Run.ite h (fun _ => k) fun z => by cases z
theorem Run.skip {c : CT} {a : List CS} (h : evT F c Γ = some (.ok false Γ1)) (k : Run F ss Γ1 Q) : Run F (.ite c a [] :: ss) Γ Q := Run.iteF h (Run.nil k)
def Turn (P : List Tr → Prop) (B : List Tr → Prop) (Q : SR → Prop) : SR → Prop
  | .nx Γ => P Γ
  | .ct Γ => P Γ
  | .bk Γ => B Γ
  | r => Q r
theorem forL_run {body : List CS} {bind : List Tr → PyData → Option (List Tr)} (P : Nat → List Tr → Prop) (B : List Tr → Prop) : ∀ {ds : List PyData} {n : Nat} {Γ : List Tr},
    (∀ i d Γ, ds[i]? = some d → P (n + i) Γ → ∃ Γ1, bind Γ d = some Γ1 ∧ Run F body Γ1 (Turn (P (n + i + 1)) B Q)) → P n Γ → (∀ Γ, P (n + ds.length) Γ → Run F ss Γ Q) → (∀ Γ, B Γ → Run F ss Γ Q) →
      ∃ r, forL (fun Γ => exB F body Γ) bind ds Γ = some r ∧ Aft F ss Q r
  | [], n, Γ, _, p, k, _ => ⟨_, rfl, k Γ p⟩
  | d :: ds, n, Γ, h, p, k, kb => by
    obtain ⟨Γ1, e1, r, e2, q⟩ := h 0 d Γ rfl p
    have more := fun Γ2 (p2 : P (n + 0 + 1) Γ2) => forL_run P B (ds := ds) (n := n + 1) (Γ := Γ2) (fun i d Γ e pi => by
      have := h (i + 1) d Γ (by simpa using e) (by rw [show n + (i + 1) = n + 1 + i by omega]; exact pi)
      rw [show n + (i + 1) + 1 = n + 1 + i + 1 by omega] at this
      exact this) p2 (fun Γ p => k Γ (by rw [List.length_cons, show n + (ds.length + 1) = n + 1 + ds.length by omega]; exact p)) kb
    rw [forL, e1]
    cases r with
    | nx Γ2 => simp only [e2]; exact more Γ2 q
    | ct Γ2 => simp only [e2]; exact more Γ2 q
    | bk Γ2 => simp only [e2]; exact ⟨_, rfl, kb Γ2 q⟩
    | rt t Γ2 => simp only [e2]; exact ⟨_, rfl, q⟩
    | ex x Γ2 => simp only [e2]; exact ⟨_, rfl, q⟩
theorem Run.forB {tg : CTg} {it : CIt} {body : List CS} {ds : List PyData} (P : Nat → List Tr → Prop) (B : List Tr → Prop) (hit : evIt F it Γ = some (.ok ds Γ1)) (h0 : P 0 Γ1)
    (step : ∀ i d Γ, ds[i]? = some d → P i Γ → ∃ Γ1, bindTg Γ tg d = some Γ1 ∧ Run F body Γ1 (Turn (P (i + 1)) B Q)) (k : ∀ Γ, P ds.length Γ → Run F ss Γ Q) (kb : ∀ Γ, B Γ → Run F ss Γ Q) : Run F (.for_ tg it body :: ss) Γ Q := by
  obtain ⟨r, e, q⟩ := forL_run (F := F) (ss := ss) (Q := Q) (body := body) (bind := fun Γ d => bindTg Γ tg d) P B (ds := ds) (n := 0) (Γ := Γ1) (fun i d Γ e p => by
    have := step i d Γ e (by rw [Nat.zero_add] at p; exact p)
    rw [Nat.zero_add]; exact this) h0 (fun Γ p => k Γ (by rw [Nat.zero_add] at p; exact p)) kb
  have e' := (exS_for (F := F) (tg := tg) (body := body) hit).trans e
  cases r with
  | nx Γ2 =>
    obtain ⟨r2, e2, q2⟩ := (show Run F ss Γ2 Q from q)
    exact ⟨r2, by rw [exB_nx e']; exact e2, q2⟩
  | rt t Γ2 => exact ⟨_, exB_rt e', q⟩
  | bk Γ2 => exact ⟨_, by rw [exB, e'], q⟩
  | ct Γ2 => exact ⟨_, by rw [exB, e'], q⟩
  | ex x Γ2 => exact ⟨_, by rw [exB, e'], q⟩
theorem Run.for {tg : CTg} {it : CIt} {body : List CS} {ds : List PyData} (P : Nat → List Tr → Prop) (hit : evIt F it Γ = some (.ok ds Γ1)) (h0 : P 0 Γ1)
    (step : ∀ i d Γ, ds[i]? = some d → P i Γ → ∃ Γ1, bindTg Γ tg d = some Γ1 ∧ Run F body Γ1 (Turn (P (i + 1)) (fun _ => False) Q)) (k : ∀ Γ, P ds.length Γ → Run F ss Γ Q) : Run F (.for_ tg it body :: ss) Γ Q :=
  Run.forB P (fun _ => False) hit h0 step k fun _ z => z.elim
theorem Run.forM {α : Type} {c : α → PyData} {xs : List α} {tg : CTg} {it : CIt} {body : List CS} (P : Nat → List Tr → Prop) (hit : evIt F it Γ = some (.ok (xs.map c) Γ1)) (h0 : P 0 Γ1)
    (step : ∀ i x Γ, xs[i]? = some x → P i Γ → ∃ Γ1, bindTg Γ tg (c x) = some Γ1 ∧ Run F body Γ1 (Turn (P (i + 1)) (fun _ => False) Q)) (k : ∀ Γ, P xs.length Γ → Run F ss Γ Q) : Run F (.for_ tg it body :: ss) Γ Q :=
  Run.for P hit h0 (fun i d Γ e p => by
    rw [List.getElem?_map] at e
    obtain ⟨x, e1, rfl⟩ := Option.map_eq_some_iff.mp e
    exact step i x Γ e1 p) fun Γ p => k Γ (by rw [List.length_map] at p; exact p)
end
theorem run_of {F : Genv} {n : Nat} {ps : List Bool} {body : List CS} {ts : List Tr} {Q : FR → Prop} (hl : ts.length = ps.length) (hn : ps.length ≤ n)
    (h : Run F body (ts ++ List.replicate (n - ts.length) .gone) (fun r => match r with
      | .nx Γ => Q (.ok (.c .none) (outsOf ps Γ))
      | .rt t Γ => Q (.ok t (outsOf ps Γ))
      | .ex x _ => Q (.ex x)
      | _ => False)) : ∃ r, runDef F n ps body ts = some r ∧ Q r := by
  obtain ⟨r, e, q⟩ := h
  unfold runDef
  rw [if_pos ⟨hl, hn⟩, e]
  cases r with
  | nx Γ => exact ⟨_, rfl, q⟩
  | rt t Γ => exact ⟨_, rfl, q⟩
  | ex x Γ => exact ⟨_, rfl, q⟩
  | bk Γ => exact q.elim
  | ct Γ => exact q.elim
theorem run_ret {F : Genv} {n : Nat} {ps : List Bool} {body : List CS} {ts : List Tr} {t : Tr} {os : List Tr} (hl : ts.length = ps.length) (hn : ps.length ≤ n)
    (h : Run F body (ts ++ List.replicate (n - ts.length) .gone) (fun r => ∃ Γ, r = .rt t Γ ∧ outsOf ps Γ = os)) : runDef F n ps body ts = some (.ok t os) := by
  obtain ⟨r, e, q⟩ := run_of (Q := fun r => r = .ok t os) hl hn (h.imp fun r q => by obtain ⟨Γ, rfl, rfl⟩ := q; rfl)
  rw [e, q]
theorem run_none {F : Genv} {n : Nat} {ps : List Bool} {body : List CS} {ts : List Tr} {os : List Tr} (hl : ts.length = ps.length) (hn : ps.length ≤ n)
    (h : Run F body (ts ++ List.replicate (n - ts.length) .gone) (fun r => ∃ Γ, r = .nx Γ ∧ outsOf ps Γ = os)) : runDef F n ps body ts = some (.ok (.c .none) os) := by
  obtain ⟨r, e, q⟩ := run_of (Q := fun r => r = .ok (.c .none) os) hl hn (h.imp fun r q => by obtain ⟨Γ, rfl, rfl⟩ := q; rfl)
  rw [e, q]
def Fn (F : Genv) (x : Str) (S : (List Tr → Option FR) → Prop) : Prop := ∃ run, F.fn x = some run ∧ S run
section
variable {F : Genv} {own : List Nat} {tg : CTg} {it : CIt} {elt : CE} {cond : List CT} {Γ Γ0 Γ1 : List Tr}
theorem lcL_map {α : Type} {c : α → PyData} {g : α → Tr} : ∀ {xs : List α} {acc : List Tr}, (∀ x ∈ xs, ∃ Γ1 Γ2, bindTg Γ0 tg (c x) = some Γ1 ∧ ev F elt Γ1 = some (.ok (g x) Γ2) ∧ wipeT Γ2 own = Γ0) → acc.length + xs.length ≤ sizeLine →
    lcL (fun _ Γ => ev F elt Γ) (fun Γ => evC F [] Γ) own (fun Γ d => bindTg Γ tg d) (xs.map c) Γ0 acc = some (.ok (.l (acc ++ xs.map g)) Γ0)
  | [], acc, _, _ => by simp [lcL]
  | x :: xs, acc, h, l => by
    obtain ⟨Γ1, Γ2, h1, h2, h3⟩ := h x List.mem_cons_self
    rw [List.length_cons] at l
    rw [List.map_cons, lcL, h1]
    have hc : evC F [] Γ1 = some (.ok true Γ1) := by rw [evC]
    simp only [hc, h2, h3, show acc.length < sizeLine by omega, if_true]
    rw [lcL_map (g := g) (fun y hy => h y (List.mem_cons_of_mem _ hy)) (by rw [List.length_append]; simp; omega)]
    simp
theorem lc_map {α : Type} {c : α → PyData} {xs : List α} (g : α → Tr) (hit : evIt F it Γ = some (.ok (xs.map c) Γ1)) (hw : wipeT Γ1 own = Γ0)
    (h : ∀ x ∈ xs, ∃ Γ1 Γ2, bindTg Γ0 tg (c x) = some Γ1 ∧ ev F elt Γ1 = some (.ok (g x) Γ2) ∧ wipeT Γ2 own = Γ0) (hl : xs.length ≤ sizeLine) : ev F (.lc own tg it [] elt) Γ = some (.ok (.l (xs.map g)) Γ0) := by
  simp only [ev, hit, hw]
  rw [lcL_map (g := g) h (by simpa using hl)]
  simp
theorem lcL_fil {α : Type} {c : α → PyData} {p : α → Bool} {t : CT} {g : α → Tr} : ∀ {xs : List α} {acc : List Tr}, (∀ x ∈ xs, ∃ Γ1 Γ2, bindTg Γ0 tg (c x) = some Γ1 ∧ evT F t Γ1 = some (.ok (p x) Γ2) ∧ wipeT Γ2 own = Γ0 ∧ (p x = true → ∃ Γ3, ev F elt Γ2 = some (.ok (g x) Γ3) ∧ wipeT Γ3 own = Γ0)) → acc.length + xs.length ≤ sizeLine →
    lcL (fun _ Γ => ev F elt Γ) (fun Γ => evC F [t] Γ) own (fun Γ d => bindTg Γ tg d) (xs.map c) Γ0 acc = some (.ok (.l (acc ++ (xs.filter p).map g)) Γ0)
  | [], acc, _, _ => by simp [lcL]
  | x :: xs, acc, h, l => by
    obtain ⟨Γ1, Γ2, h1, h2, h3, h4⟩ := h x List.mem_cons_self
    rw [List.length_cons] at l
    rw [List.map_cons, lcL, h1]
    cases q : p x with
    | true =>
      obtain ⟨Γ3, h5, h6⟩ := h4 q
      rw [q] at h2
      have hc : evC F [t] Γ1 = some (.ok true Γ2) := by rw [evC]; exact h2
      simp only [hc, h5, h6, show acc.length < sizeLine by omega, if_true]
      rw [lcL_fil (p := p) (g := g) (fun y hy => h y (List.mem_cons_of_mem _ hy)) (by rw [List.length_append]; simp; omega)]
      simp [List.filter_cons, q]
    | false =>
      rw [q] at h2
      have hc : evC F [t] Γ1 = some (.ok false Γ2) := by rw [evC]; exact h2
      simp only [hc, h3]
      rw [lcL_fil (p := p) (g := g) (fun y hy => h y (List.mem_cons_of_mem _ hy)) (by omega)]
      simp [List.filter_cons, q]
theorem lc_fil {α : Type} {c : α → PyData} {xs : List α} {t : CT} (p : α → Bool) (g : α → Tr) (hit : evIt F it Γ = some (.ok (xs.map c) Γ1)) (hw : wipeT Γ1 own = Γ0)
    (h : ∀ x ∈ xs, ∃ Γ1 Γ2, bindTg Γ0 tg (c x) = some Γ1 ∧ evT F t Γ1 = some (.ok (p x) Γ2) ∧ wipeT Γ2 own = Γ0 ∧ (p x = true → ∃ Γ3, ev F elt Γ2 = some (.ok (g x) Γ3) ∧ wipeT Γ3 own = Γ0)) (hl : xs.length ≤ sizeLine) :
    ev F (.lc own tg it [t] elt) Γ = some (.ok (.l ((xs.filter p).map g)) Γ0) := by
  simp only [ev, hit, hw]
  rw [lcL_fil (p := p) (g := g) h (by simpa using hl)]
  simp
theorem lcL_inv {c : List Tr → Option TR} (P : Nat → List Tr → List Tr → Prop) : ∀ {ds : List PyData} {n : Nat} {Γ : List Tr} {acc : List Tr}, (∀ i d Γ acc, ds[i]? = some d → P (n + i) Γ acc → ∃ Γ1, bindTg Γ tg d = some Γ1 ∧
      ((∃ Γ2 Γ3 t, c Γ1 = some (.ok true Γ2) ∧ ev F elt Γ2 = some (.ok t Γ3) ∧ P (n + i + 1) (wipeT Γ3 own) (acc ++ [t])) ∨ ∃ Γ2, c Γ1 = some (.ok false Γ2) ∧ P (n + i + 1) (wipeT Γ2 own) acc)) →
    P n Γ acc → acc.length + ds.length ≤ sizeLine → ∃ Γ' r, lcL (fun _ Γ => ev F elt Γ) c own (fun Γ d => bindTg Γ tg d) ds Γ acc = some (.ok (.l r) Γ') ∧ P (n + ds.length) Γ' r
  | [], n, Γ, acc, _, p, _ => ⟨Γ, acc, rfl, p⟩
  | d :: ds, n, Γ, acc, h, p, l => by
    obtain ⟨Γ1, h1, h2⟩ := h 0 d Γ acc rfl p
    rw [List.length_cons] at l
    have more := fun Γ2 acc2 (p2 : P (n + 0 + 1) Γ2 acc2) (l2 : acc2.length + ds.length ≤ sizeLine) => lcL_inv (c := c) P (ds := ds) (n := n + 1) (Γ := Γ2) (acc := acc2) (fun i d Γ acc e pi => by
      have := h (i + 1) d Γ acc (by simpa using e) (by rw [show n + (i + 1) = n + 1 + i by omega]; exact pi)
      rw [show n + (i + 1) + 1 = n + 1 + i + 1 by omega] at this
      exact this) p2 l2
    rw [show n + (d :: ds).length = n + 1 + ds.length by rw [List.length_cons]; omega]
    rw [lcL, h1]
    rcases h2 with ⟨Γ2, Γ3, t, h2, h3, h4⟩ | ⟨Γ2, h2, h4⟩
    · simp only [h2, h3, show acc.length < sizeLine by omega, if_true]
      exact more _ _ h4 (by rw [List.length_append]; simp; omega)
    · simp only [h2]
      exact more _ _ h4 (by omega)
theorem lc_inv {ds : List PyData} (P : Nat → List Tr → List Tr → Prop) (hit : evIt F it Γ = some (.ok ds Γ1)) (h0 : P 0 (wipeT Γ1 own) [])
    (step : ∀ i d Γ acc, ds[i]? = some d → P i Γ acc → ∃ Γ1, bindTg Γ tg d = some Γ1 ∧ ((∃ Γ2 Γ3 t, evC F cond Γ1 = some (.ok true Γ2) ∧ ev F elt Γ2 = some (.ok t Γ3) ∧ P (i + 1) (wipeT Γ3 own) (acc ++ [t])) ∨ ∃ Γ2, evC F cond Γ1 = some (.ok false Γ2) ∧ P (i + 1) (wipeT Γ2 own) acc))
    (hl : ds.length ≤ sizeLine) : ∃ Γ' r, ev F (.lc own tg it cond elt) Γ = some (.ok (.l r) Γ') ∧ P ds.length Γ' r := by
  obtain ⟨Γ', r, e, p⟩ := lcL_inv (F := F) (own := own) (tg := tg) (elt := elt) (c := fun Γ => evC F cond Γ) P (ds := ds) (n := 0) (Γ := wipeT Γ1 own) (acc := []) (fun i d Γ acc e p => by
    have := step i d Γ acc e (by rw [Nat.zero_add] at p; exact p)
    rw [Nat.zero_add]; exact this) h0 (by simpa using hl)
  refine ⟨Γ', r, ?_, by rw [Nat.zero_add] at p; exact p⟩
  simp only [ev, hit]
  exact e
end
end Hw
set_option Elab.async false
set_option linter.all false
set_option maxRecDepth 100000
namespace Hp
open PySem PySem.Spec PyProof.Rows L2 Hw
def b_is_number : List CS :=
  [.ret (.and_ (.prim (.isi "int") [.pk 0]) (.and_ (.not_ (.prim (.isi "bool") [.pk 0])) (.chain .LtE .LtE [.pk 1, .pk 0] (.var 2))))]
def r_is_number (F : Genv) : List Tr → Option FR := runDef F 3 [false, false, false] b_is_number
def b_is_tie : List CS :=
  [.ite (.or_ (.not_ (.e (.prim (.isi "tuple") [.pk 1]))) (.e (.prim (.cmp .NotEq) [.e (.prim (.bi .len) [.pk 1]), .e (.lit (.int 3))])))
    [.ret (.lit (.bool false))]
    [],
  .ite (.or_ (.not_ (.e (.call ("is_number" : Str) [.e (.pth 1 [.lit (.int 0)]), .e (.lit (.int 0)), .e (.prim .sub [.pk 0, .e (.lit (.int 1))])]))) (.not_ (.e (.call ("is_number" : Str) [.e (.pth 1 [.lit (.int 1)]), .e (.lit (.int 0)), .e (.prim .sub [.pk 0, .e (.lit (.int 1))])]))))
    [.ret (.lit (.bool false))]
    [],
  .ret (.and_ (.prim (.cmp .NotEq) [.e (.pth 1 [.lit (.int 0)]), .e (.pth 1 [.lit (.int 1)])]) (.call ("is_number" : Str) [.e (.pth 1 [.lit (.int 2)]), .e (.lit (.int 1)), .e (.glb ("MOST_OVER" : Str))]))]
def r_is_tie (F : Genv) : List Tr → Option FR := runDef F 2 [false, false] b_is_tie
def b_are_ends : List CS :=
  [.ite (.or_ (.not_ (.e (.prim (.isi "tuple") [.pk 1]))) (.not_ (.e (.chain .LtE .LtE [.e (.lit (.int 1)), .e (.prim (.bi .len) [.pk 1])] (.glb ("MOST_KINDS" : Str))))))
    [.ret (.lit (.bool false))]
    [],
  .ret (.prim (.bi .all) [.e (.lc [2] (.nm 2) (.sq (.var 1)) [] (.call ("is_number" : Str) [.e (.var 2), .e (.lit (.int 0)), .e (.prim .sub [.pk 0, .e (.lit (.int 1))])]))])]
def r_are_ends (F : Genv) : List Tr → Option FR := runDef F 3 [false, false] b_are_ends
def b_are_ties : List CS :=
  [.ite (.or_ (.not_ (.e (.prim (.isi "tuple") [.pk 1]))) (.not_ (.e (.prim (.bi .all) [.e (.lc [3] (.nm 3) (.sq (.var 1)) [] (.call ("is_tie" : Str) [.e (.var 0), .e (.var 3)]))]))))
    [.ret (.lit (.bool false))]
    [],
  .ret (.prim (.bi .all) [.e (.lc [2] (.nm 2) (.rng1 (.prim .sub [.e (.prim (.bi .len) [.pk 1]), .e (.lit (.int 1))])) [] (.prim (.cmp .Lt) [.e (.prim (.sl false true) [.e (.pth 1 [.var 2]), .e (.lit (.int 2))]), .e (.prim (.sl false true) [.e (.pth 1 [.prim .add [.pk 2, .e (.lit (.int 1))]]), .e (.lit (.int 2))])]))])]
def r_are_ties (F : Genv) : List Tr → Option FR := runDef F 4 [false, false] b_are_ties
def b_is_net : List CS :=
  [.ite (.or_ (.not_ (.e (.prim (.isi "tuple") [.pk 0]))) (.or_ (.e (.prim (.cmp .NotEq) [.e (.prim (.bi .len) [.pk 0]), .e (.lit (.int 3))])) (.not_ (.e (.call ("is_number" : Str) [.e (.pth 0 [.lit (.int 0)]), .e (.lit (.int 1)), .e (.glb ("MOST_PLACES" : Str))])))))
    [.ret (.lit (.bool false))]
    [],
  .ret (.and_ (.call ("are_ends" : Str) [.e (.pth 0 [.lit (.int 0)]), .e (.pth 0 [.lit (.int 1)])]) (.call ("are_ties" : Str) [.e (.pth 0 [.lit (.int 0)]), .e (.pth 0 [.lit (.int 2)])]))]
def r_is_net (F : Genv) : List Tr → Option FR := runDef F 1 [false] b_is_net
def b_need_net : List CS :=
  [.ite (.not_ (.e (.call ("is_net" : Str) [.e (.var 0)])))
    [.rais ("NoNet" : Str)]
    []]
def r_need_net (F : Genv) : List Tr → Option FR := runDef F 1 [false] b_need_net
def b_is_line : List CS :=
  [.ite (.or_ (.not_ (.e (.prim (.isi "tuple") [.pk 2]))) (.or_ (.e (.prim (.cmp .NotEq) [.e (.prim (.bi .len) [.pk 2]), .pk 0])) (.not_ (.e (.prim (.bi .all) [.e (.lc [4] (.nm 4) (.sq (.var 2)) [] (.call ("is_number" : Str) [.e (.var 4), .e (.lit (.int 0)), .e (.var 3)]))])))))
    [.ret (.lit (.bool false))]
    [],
  .ret (.prim (.cmp .Eq) [.e (.pth 2 [.var 1]), .e (.lit (.int 0))])]
def r_is_line (F : Genv) : List Tr → Option FR := runDef F 5 [false, false, false, false] b_is_line
def b_are_lines : List CS :=
  [.ite (.or_ (.not_ (.e (.prim (.isi "tuple") [.pk 1]))) (.e (.prim (.cmp .NotEq) [.e (.prim (.bi .len) [.pk 1]), .e (.prim (.bi .len) [.e (.pth 0 [.lit (.int 1)])])])))
    [.ret (.lit (.bool false))]
    [],
  .ret (.prim (.bi .all) [.e (.lc [3, 4] (.tp [3, 4]) (.zip [.e (.pth 0 [.lit (.int 1)]), .e (.var 1)]) [] (.call ("is_line" : Str) [.e (.pth 0 [.lit (.int 0)]), .e (.var 3), .e (.var 4), .e (.var 2)]))])]
def r_are_lines (F : Genv) : List Tr → Option FR := runDef F 5 [false, false, false] b_are_lines
def b_need_heaps : List CS :=
  [.ite (.not_ (.e (.call ("are_lines" : Str) [.e (.var 0), .e (.var 1), .e (.glb ("MOST_HEAP" : Str))])))
    [.rais ("NoHeaps" : Str)]
    []]
def r_need_heaps (F : Genv) : List Tr → Option FR := runDef F 2 [false, false] b_need_heaps
def b_fall_along : List CS :=
  [.ret (.prim .sub [.e (.pth 0 [.var 1, .pth 2 [.lit (.int 0)]]), .e (.pth 0 [.var 1, .pth 2 [.lit (.int 1)]])])]
def r_fall_along (F : Genv) : List Tr → Option FR := runDef F 3 [false, false, false] b_fall_along
def b_offer_along : List CS :=
  [.set 2 (.lit .none),
  .for_ (.nm 3) (.rng1 (.prim (.bi .len) [.pk 0]))
    [.set 4 (.call ("fall_along" : Str) [.e (.var 0), .e (.var 3), .e (.var 1)]),
    .ite (.and_ (.e (.prim (.cmp .Gt) [.pk 4, .e (.lit (.int 0))])) (.or_ (.e (.prim (.cmp .Is) [.pk 2, .e (.lit .none)])) (.e (.prim (.cmp .Gt) [.pk 4, .e (.call ("fall_along" : Str) [.e (.var 0), .e (.var 2), .e (.var 1)])]))))
      [.set 2 (.var 3)]
      []],
  .ret (.mv 2)]
def r_offer_along (F : Genv) : List Tr → Option FR := runDef F 5 [false, false] b_offer_along
def b_all_ties : List CS :=
  [.ret (.prim (.trg false) [.e (.prim (.bi .len) [.e (.pth 0 [.lit (.int 2)])])])]
def r_all_ties (F : Genv) : List Tr → Option FR := runDef F 1 [false] b_all_ties
def b_offer_over : List CS :=
  [.set 3 (.lst []),
  .for_ (.tp [4, 5]) (.enm (.pth 0 [.lit (.int 2)]))
    [.ite (.e (.prim (.cmp .In) [.pk 4, .pk 2]))
      [.app 3 [] (.call ("offer_along" : Str) [.e (.var 1), .e (.var 5)])]
      [.app 3 [] (.lit .none)]],
  .ret (.mv 3)]
def r_offer_over (F : Genv) : List Tr → Option FR := runDef F 6 [false, false, false] b_offer_over
def b_offer : List CS :=
  [.ex (.call ("need_net" : Str) [.e (.var 0)]),
  .ex (.call ("need_heaps" : Str) [.e (.var 0), .e (.var 1)]),
  .ret (.call ("offer_over" : Str) [.e (.var 0), .e (.var 1), .e (.call ("all_ties" : Str) [.e (.var 0)])])]
def r_offer (F : Genv) : List Tr → Option FR := runDef F 2 [false, false] b_offer
def b_law_b_mixed : List CS :=
  [.ite (.e (.prim (.cmp .GtE) [.pk 0, .e (.prim .pow [.e (.lit (.int 10)), .e (.lit (.int 18))])]))
    [.ret (.mv 0)]
    [],
  .set 2 (.prim .mod [.e (.prim .add [.e (.prim .add [.e (.prim .mul [.e (.prim .mod [.pk 0, .e (.lit (.int 2147483543))]), .e (.lit (.int 40961))]), .e (.prim .mul [.pk 1, .e (.lit (.int 9013))])]), .e (.lit (.int 577))]), .e (.lit (.int 2147483497))]),
  .set 3 (.prim .mod [.e (.prim .add [.e (.prim .add [.e (.prim .mul [.pk 2, .pk 2]), .e (.prim .mul [.e (.lit (.int 911)), .pk 1])]), .e (.lit (.int 67))]), .e (.lit (.int 2147483489))]),
  .set 4 (.prim .mod [.e (.prim .add [.e (.prim .add [.e (.prim .mul [.pk 3, .pk 3]), .e (.prim .mul [.e (.lit (.int 733)), .pk 2])]), .pk 1]), .e (.lit (.int 2147483477))]),
  .ret (.prim .add [.e (.prim .mul [.pk 3, .e (.lit (.int 2147483477))]), .pk 4])]
def r_law_b_mixed (F : Genv) : List Tr → Option FR := runDef F 5 [false, false] b_law_b_mixed
def b_law_b_take : List CS :=
  [.ite (.e (.prim (.cmp .Lt) [.e (.pth 0 [.lit (.int 2)]), .pk 1]))
    [.set 3 (.pth 0 [.lit (.int 1)]),
    .set 4 (.prim .add [.e (.prim .mul [.e (.lit (.int 19)), .pk 3]), .e (.lit (.int 8))]),
    .ite (.e (.prim (.cmp .Lt) [.pk 3, .e (.prim (.bi .len) [.e (.pth 0 [.lit (.int 0)])])]))
      [.set 4 (.pth 0 [.lit (.int 0), .var 3])]
      [.ite (.e (.prim (.cmp .NotEq) [.e (.pth 0 [.lit (.int 0)]), .e (.lst [])]))
        [.set 4 (.prim .add [.e (.prim .mod [.e (.pth 0 [.lit (.int 0), .prim .mod [.e (.prim .mul [.pk 3, .e (.lit (.int 13))]), .e (.prim (.bi .len) [.e (.pth 0 [.lit (.int 0)])])]]), .e (.lit (.int 1000037))]), .e (.prim .mul [.pk 3, .e (.lit (.int 1000117))])])]
        []],
    .setp 0 [] (.lit (.int 1)) (.prim .add [.pk 3, .e (.lit (.int 1))]),
    .setp 0 [] (.lit (.int 2)) (.call ("_law_b_mixed" : Str) [.e (.var 4), .e (.var 3)])]
    [],
  .set 2 (.prim .mod [.e (.pth 0 [.lit (.int 2)]), .pk 1]),
  .setp 0 [] (.lit (.int 2)) (.prim .fdiv [.e (.pth 0 [.lit (.int 2)]), .pk 1]),
  .ret (.mv 2)]
def r_law_b_take (F : Genv) : List Tr → Option FR := runDef F 5 [true, false] b_law_b_take
def b_law_b_net : List CS :=
  [.set 3 (.prim .add [.e (.lit (.int 1)), .e (.call ("_law_b_take" : Str) [.io 0, .e (.var 1)])]),
  .set 4 (.prim (.bi .tuple) [.e (.lc [10] (.nm 10) (.rng1 (.prim .add [.e (.lit (.int 1)), .e (.call ("_law_b_take" : Str) [.io 0, .e (.var 2)])])) [] (.call ("_law_b_take" : Str) [.io 0, .e (.var 3)]))]),
  .set 5 (.prim .add [.e (.lit (.int 1)), .e (.call ("_law_b_take" : Str) [.io 0, .e (.lit (.int 5))])]),
  .set 6 (.call ("_law_b_take" : Str) [.io 0, .e (.lit (.int 3))]),
  .set 7 (.lst []),
  .for_ (.nm 8) (.rng1 (.var 3))
    [.for_ (.nm 9) (.sq (.lc [11] (.nm 11) (.rng1 (.var 3)) [.and_ (.e (.prim (.cmp .NotEq) [.pk 11, .pk 8])) (.e (.prim (.cmp .Lt) [.e (.call ("_law_b_take" : Str) [.io 0, .e (.lit (.int 5))]), .pk 5]))] (.var 11)))
      [.app 7 [] (.tup [.e (.var 8), .e (.var 9), .e (.prim .ix [.e (.lst [.e (.lit (.int 1)), .e (.lit (.int 9)), .e (.prim .add [.e (.lit (.int 1)), .e (.call ("_law_b_take" : Str) [.io 0, .e (.lit (.int 9))])])]), .pk 6])])]],
  .ret (.tup [.e (.var 3), .e (.var 4), .e (.prim (.bi .tuple) [.pk 7])])]
def r_law_b_net (F : Genv) : List Tr → Option FR := runDef F 12 [true, false, false] b_law_b_net
def b_law_b_lines : List CS :=
  [.set 3 (.lst []),
  .for_ (.nm 4) (.sq (.pth 1 [.lit (.int 1)]))
    [.app 3 [] (.prim (.bi .tuple) [.e (.lc [5] (.nm 5) (.rng1 (.pth 1 [.lit (.int 0)])) [] (.prim .mul [.e (.call ("_law_b_take" : Str) [.io 0, .e (.var 2)]), .e (.prim (.bi .int) [.e (.prim (.cmp .NotEq) [.pk 5, .pk 4])])]))])],
  .ret (.prim (.bi .tuple) [.pk 3])]
def r_law_b_lines (F : Genv) : List Tr → Option FR := runDef F 6 [true, false, false] b_law_b_lines
def b_law_b_heaps : List CS :=
  [.ret (.call ("_law_b_lines" : Str) [.io 0, .e (.var 1), .e (.prim .ix [.e (.lst [.e (.lit (.int 2)), .e (.lit (.int 4)), .e (.lit (.int 12)), .e (.lit (.int 60)), .e (.prim .add [.e (.prim .pow [.e (.lit (.int 10)), .e (.lit (.int 9))]), .e (.lit (.int 1))])]), .e (.call ("_law_b_take" : Str) [.io 0, .e (.lit (.int 5))])])])]
def r_law_b_heaps (F : Genv) : List Tr → Option FR := runDef F 2 [true, false] b_law_b_heaps
def b_law_b_comers : List CS :=
  [.ret (.call ("_law_b_lines" : Str) [.io 0, .e (.var 1), .e (.prim .ix [.e (.lst [.e (.lit (.int 1)), .e (.lit (.int 2)), .e (.lit (.int 4)), .e (.lit (.int 10))]), .e (.call ("_law_b_take" : Str) [.io 0, .e (.lit (.int 4))])])])]
def r_law_b_comers (F : Genv) : List Tr → Option FR := runDef F 2 [true, false] b_law_b_comers
def b_squares_of : List CS :=
  [.ret (.prim (.bi .sum) [.e (.lc [1] (.nm 1) (.sq (.var 0)) [] (.prim (.bi .sum) [.e (.lc [2] (.nm 2) (.sq (.var 1)) [] (.prim .mul [.pk 2, .pk 2]))]))])]
def r_squares_of (F : Genv) : List Tr → Option FR := runDef F 3 [false] b_squares_of
def b_squares : List CS :=
  [.ex (.call ("need_net" : Str) [.e (.var 0)]),
  .ex (.call ("need_heaps" : Str) [.e (.var 0), .e (.var 1)]),
  .ret (.call ("squares_of" : Str) [.e (.var 1)])]
def r_squares (F : Genv) : List Tr → Option FR := runDef F 2 [false, false] b_squares
def b_is_offer : List CS :=
  [.ite (.or_ (.not_ (.e (.prim (.isi "list") [.pk 1]))) (.e (.prim (.cmp .NotEq) [.e (.prim (.bi .len) [.pk 1]), .e (.prim (.bi .len) [.e (.pth 0 [.lit (.int 2)])])])))
    [.ret (.lit (.bool false))]
    [],
  .ret (.prim (.bi .all) [.e (.lc [2] (.nm 2) (.sq (.var 1)) [] (.or_ (.prim (.cmp .Is) [.pk 2, .e (.lit .none)]) (.call ("is_number" : Str) [.e (.var 2), .e (.lit (.int 0)), .e (.prim .sub [.e (.prim (.bi .len) [.e (.pth 0 [.lit (.int 1)])]), .e (.lit (.int 1))])])))])]
def r_is_offer (F : Genv) : List Tr → Option FR := runDef F 3 [false, false] b_is_offer
def b_weight_of : List CS :=
  [.set 3 (.lit (.int 0)),
  .for_ (.tp [4, 5]) (.zip [.e (.pth 0 [.lit (.int 2)]), .e (.var 2)])
    [.ite (.e (.prim (.cmp .IsNot) [.pk 5, .e (.lit .none)]))
      [.set 3 (.prim .add [.pk 3, .e (.prim .mul [.e (.pth 4 [.lit (.int 2)]), .e (.call ("fall_along" : Str) [.e (.var 1), .e (.var 5), .e (.var 4)])])])]
      []],
  .ret (.mv 3)]
def r_weight_of (F : Genv) : List Tr → Option FR := runDef F 6 [false, false, false] b_weight_of
def b_weight : List CS :=
  [.ex (.call ("need_net" : Str) [.e (.var 0)]),
  .ex (.call ("need_heaps" : Str) [.e (.var 0), .e (.var 1)]),
  .ite (.not_ (.e (.call ("is_offer" : Str) [.e (.var 0), .e (.var 2)])))
    [.rais ("NoOffer" : Str)]
    [],
  .ret (.call ("weight_of" : Str) [.e (.var 0), .e (.var 1), .e (.var 2)])]
def r_weight (F : Genv) : List Tr → Option FR := runDef F 3 [false, false, false] b_weight
def b_need_comers : List CS :=
  [.ite (.not_ (.e (.call ("are_lines" : Str) [.e (.var 0), .e (.var 1), .e (.glb ("MOST_COMING" : Str))])))
    [.rais ("NoComers" : Str)]
    []]
def r_need_comers (F : Genv) : List Tr → Option FR := runDef F 2 [false, false] b_need_comers
def b_offered_at : List CS :=
  [.ret (.prim (.bi .sum) [.e (.lc [5, 6] (.tp [5, 6]) (.zip [.e (.pth 0 [.lit (.int 2)]), .e (.var 1)]) [.and_ (.e (.prim (.cmp .Eq) [.e (.pth 5 [.var 4]), .pk 3])) (.e (.prim (.cmp .Eq) [.pk 6, .pk 2]))] (.pth 5 [.lit (.int 2)]))])]
def r_offered_at (F : Genv) : List Tr → Option FR := runDef F 7 [false, false, false, false, false] b_offered_at
def b_much_of : List CS :=
  [.set 3 (.lit (.int 0)),
  .for_ (.tp [4, 5]) (.enm (.pth 0 [.lit (.int 1)]))
    [.for_ (.nm 6) (.sq (.lc [9] (.nm 9) (.rng1 (.pth 0 [.lit (.int 0)])) [.e (.prim (.cmp .NotEq) [.pk 9, .pk 5])] (.var 9)))
      [.set 7 (.call ("offered_at" : Str) [.e (.var 0), .e (.var 2), .e (.var 4), .e (.var 6), .e (.lit (.int 0))]),
      .set 8 (.prim .add [.e (.call ("offered_at" : Str) [.e (.var 0), .e (.var 2), .e (.var 4), .e (.var 6), .e (.lit (.int 1))]), .e (.pth 1 [.var 4, .var 6])]),
      .set 3 (.prim .add [.e (.prim .add [.pk 3, .e (.prim .mul [.pk 7, .pk 7])]), .e (.prim .mul [.pk 8, .pk 8])])]],
  .ret (.mv 3)]
def r_much_of (F : Genv) : List Tr → Option FR := runDef F 10 [false, false, false] b_much_of
def b_heaped_of : List CS :=
  [.ret (.prim (.bi .sum) [.e (.lc [2, 3] (.tp [2, 3]) (.zip [.e (.var 0), .e (.var 1)]) [] (.prim (.bi .sum) [.e (.lc [4, 5] (.tp [4, 5]) (.zip [.e (.var 2), .e (.var 3)]) [] (.prim .mul [.pk 4, .pk 5]))]))])]
def r_heaped_of (F : Genv) : List Tr → Option FR := runDef F 6 [false, false] b_heaped_of
def b_rise : List CS :=
  [.ex (.call ("need_net" : Str) [.e (.var 0)]),
  .ex (.call ("need_heaps" : Str) [.e (.var 0), .e (.var 1)]),
  .ex (.call ("need_comers" : Str) [.e (.var 0), .e (.var 2)]),
  .set 3 (.call ("offer_over" : Str) [.e (.var 0), .e (.var 1), .e (.call ("all_ties" : Str) [.e (.var 0)])]),
  .ret (.tup [.e (.call ("much_of" : Str) [.e (.var 0), .e (.var 2), .e (.var 3)]), .e (.call ("heaped_of" : Str) [.e (.var 1), .e (.var 2)])])]
def r_rise (F : Genv) : List Tr → Option FR := runDef F 4 [false, false, false] b_rise
def b_greatest_in : List CS :=
  [.set 2 (.lit (.int 0)),
  .for_ (.nm 3) (.sq (.pth 0 [.lit (.int 1)]))
    [.for_ (.nm 4) (.sq (.lc [7] (.nm 7) (.rng1 (.pth 0 [.lit (.int 0)])) [.e (.prim (.cmp .NotEq) [.pk 7, .pk 3])] (.var 7)))
      [.set 5 (.prim (.bi .sum) [.e (.lc [8] (.nm 8) (.sq (.pth 0 [.lit (.int 2)])) [.e (.prim (.cmp .Eq) [.e (.pth 8 [.lit (.int 0)]), .pk 4])] (.pth 8 [.lit (.int 2)]))]),
      .set 6 (.prim .add [.e (.prim (.bi .sum) [.e (.lc [8] (.nm 8) (.sq (.pth 0 [.lit (.int 2)])) [.e (.prim (.cmp .Eq) [.e (.pth 8 [.lit (.int 1)]), .pk 4])] (.pth 8 [.lit (.int 2)]))]), .pk 1]),
      .set 2 (.prim .add [.e (.prim .add [.pk 2, .e (.prim .mul [.pk 5, .pk 5])]), .e (.prim .mul [.pk 6, .pk 6])])]],
  .ret (.mv 2)]
def r_greatest_in (F : Genv) : List Tr → Option FR := runDef F 9 [false, false] b_greatest_in
def b_greatest : List CS :=
  [.ex (.call ("need_net" : Str) [.e (.var 0)]),
  .ite (.not_ (.e (.call ("is_number" : Str) [.e (.var 1), .e (.lit (.int 0)), .e (.glb ("MOST_COMING" : Str))])))
    [.rais ("NoNumber" : Str)]
    [],
  .ret (.call ("greatest_in" : Str) [.e (.var 0), .e (.var 1)])]
def r_greatest (F : Genv) : List Tr → Option FR := runDef F 2 [false, false] b_greatest
def b_moves_of : List CS :=
  [.set 3 (.lc [8] (.nm 8) (.sq (.var 1)) [] (.prim (.bi .list) [.pk 8])),
  .set 4 (.lst []),
  .for_ (.tp [5, 6]) (.zip [.e (.pth 0 [.lit (.int 2)]), .e (.var 2)])
    [.set 7 (.lit (.int 0)),
    .ite (.e (.prim (.cmp .IsNot) [.pk 6, .e (.lit .none)]))
      [.set 7 (.prim (.bi .min2) [.e (.pth 5 [.lit (.int 2)]), .e (.pth 3 [.var 6, .pth 5 [.lit (.int 0)]])]),
      .setp 3 [.var 6] (.pth 5 [.lit (.int 0)]) (.prim .sub [.e (.pth 3 [.var 6, .pth 5 [.lit (.int 0)]]), .pk 7])]
      [],
    .app 4 [] (.ife (.e (.prim (.cmp .Gt) [.pk 7, .e (.lit (.int 0))])) (.tup [.e (.var 6), .e (.var 7)]) (.lit .none))],
  .ret (.mv 4)]
def r_moves_of (F : Genv) : List Tr → Option FR := runDef F 9 [false, false, false] b_moves_of
def b_moves_over : List CS :=
  [.ret (.call ("moves_of" : Str) [.e (.var 0), .e (.var 1), .e (.call ("offer_over" : Str) [.e (.var 0), .e (.var 1), .e (.var 2)])])]
def r_moves_over (F : Genv) : List Tr → Option FR := runDef F 3 [false, false, false] b_moves_over
def b_gone_by : List CS :=
  [.set 3 (.lc [7] (.nm 7) (.sq (.var 1)) [] (.prim (.bi .list) [.pk 7])),
  .set 4 (.prim .mul [.e (.lst [.e (.lit (.int 0))]), .e (.prim (.bi .len) [.pk 1])]),
  .for_ (.tp [5, 6]) (.zip [.e (.pth 0 [.lit (.int 2)]), .e (.var 2)])
    [.ite (.e (.prim (.cmp .IsNot) [.pk 6, .e (.lit .none)]))
      [.setT [8, 9] (.var 6),
      .setp 3 [.var 8] (.pth 5 [.lit (.int 0)]) (.prim .sub [.e (.pth 3 [.var 8, .pth 5 [.lit (.int 0)]]), .pk 9]),
      .ite (.e (.prim (.cmp .Eq) [.e (.pth 5 [.lit (.int 1)]), .e (.pth 0 [.lit (.int 1), .var 8])]))
        [.setp 4 [] (.var 8) (.prim .add [.e (.pth 4 [.var 8]), .pk 9])]
        [.setp 3 [.var 8] (.pth 5 [.lit (.int 1)]) (.prim .add [.e (.pth 3 [.var 8, .pth 5 [.lit (.int 1)]]), .pk 9])]]
      []],
  .ret (.tup [.e (.prim (.bi .tuple) [.e (.lc [7] (.nm 7) (.sq (.var 3)) [] (.prim (.bi .tuple) [.pk 7]))]), .e (.prim (.bi .tuple) [.pk 4])])]
def r_gone_by (F : Genv) : List Tr → Option FR := runDef F 10 [false, false, false] b_gone_by
def b_with_comers : List CS :=
  [.set 2 (.lst []),
  .for_ (.tp [3, 4]) (.zip [.e (.var 0), .e (.var 1)])
    [.app 2 [] (.prim (.bi .tuple) [.e (.lc [5, 6] (.tp [5, 6]) (.zip [.e (.var 3), .e (.var 4)]) [] (.prim .add [.pk 5, .pk 6]))])],
  .ret (.prim (.bi .tuple) [.pk 2])]
def r_with_comers (F : Genv) : List Tr → Option FR := runDef F 7 [false, false] b_with_comers
def b_beat_over : List CS :=
  [.setT [4, 5] (.call ("gone_by" : Str) [.e (.var 0), .e (.var 1), .e (.call ("moves_over" : Str) [.e (.var 0), .e (.var 1), .e (.var 3)])]),
  .ret (.tup [.e (.call ("with_comers" : Str) [.e (.var 4), .e (.var 2)]), .e (.var 5)])]
def r_beat_over (F : Genv) : List Tr → Option FR := runDef F 6 [false, false, false, false] b_beat_over
def b_beat : List CS :=
  [.ex (.call ("need_net" : Str) [.e (.var 0)]),
  .ex (.call ("need_heaps" : Str) [.e (.var 0), .e (.var 1)]),
  .ex (.call ("need_comers" : Str) [.e (.var 0), .e (.var 2)]),
  .ret (.call ("beat_over" : Str) [.e (.var 0), .e (.var 1), .e (.var 2), .e (.call ("all_ties" : Str) [.e (.var 0)])])]
def r_beat (F : Genv) : List Tr → Option FR := runDef F 3 [false, false, false] b_beat
def b_run_in : List CS :=
  [.set 3 (.lst [.e (.var 1)]),
  .set 4 (.prim .mul [.e (.lst [.e (.lit (.int 0))]), .e (.prim (.bi .len) [.pk 1])]),
  .for_ (.nm 5) (.sq (.var 2))
    [.setT [6, 7] (.call ("beat_over" : Str) [.e (.var 0), .e (.pth 3 [.prim .neg [.e (.lit (.int 1))]]), .e (.var 5), .e (.call ("all_ties" : Str) [.e (.var 0)])]),
    .app 3 [] (.var 6),
    .set 4 (.lc [8, 9] (.tp [8, 9]) (.zip [.e (.var 4), .e (.var 7)]) [] (.prim .add [.pk 8, .pk 9]))],
  .ret (.tup [.e (.var 3), .e (.prim (.bi .tuple) [.pk 4])])]
def r_run_in (F : Genv) : List Tr → Option FR := runDef F 10 [false, false, false] b_run_in
def b_need_rows : List CS :=
  [.ite (.not_ (.e (.prim (.isi "list") [.pk 1])))
    [.rais ("NoComers" : Str)]
    [],
  .ite (.e (.prim (.cmp .Gt) [.e (.prim (.bi .len) [.pk 1]), .e (.glb ("MOST_BEATS" : Str))]))
    [.rais ("TooMany" : Str)]
    [],
  .for_ (.nm 2) (.sq (.var 1))
    [.ex (.call ("need_comers" : Str) [.e (.var 0), .e (.var 2)])]]
def r_need_rows (F : Genv) : List Tr → Option FR := runDef F 3 [false, false] b_need_rows
def b_run : List CS :=
  [.ex (.call ("need_net" : Str) [.e (.var 0)]),
  .ex (.call ("need_heaps" : Str) [.e (.var 0), .e (.var 1)]),
  .ex (.call ("need_rows" : Str) [.e (.var 0), .e (.var 2)]),
  .ret (.call ("run_in" : Str) [.e (.var 0), .e (.var 1), .e (.var 2)])]
def r_run (F : Genv) : List Tr → Option FR := runDef F 3 [false, false, false] b_run
def b_are_heaps : List CS :=
  [.ex (.call ("need_net" : Str) [.e (.var 0)]),
  .ret (.call ("are_lines" : Str) [.e (.var 0), .e (.var 1), .e (.glb ("MOST_HEAP" : Str))])]
def r_are_heaps (F : Genv) : List Tr → Option FR := runDef F 2 [false, false] b_are_heaps
def b_law_b_beat_right : List CS :=
  [.setT [6, 7] (.call ("rise" : Str) [.e (.var 0), .e (.var 1), .e (.var 2)]),
  .set 3 (.prim (.bi .max1) [.e (.lc [8] (.nm 8) (.sq (.var 2)) [] (.prim (.bi .max1) [.pk 8]))]),
  .ite (.or_ (.e (.prim (.cmp .Gt) [.pk 6, .e (.call ("greatest" : Str) [.e (.var 0), .e (.var 3)])])) (.or_ (.e (.prim (.cmp .Lt) [.pk 6, .e (.lit (.int 0))])) (.e (.prim (.cmp .Lt) [.pk 7, .e (.lit (.int 0))]))))
    [.ret (.lit (.bool false))]
    [],
  .set 4 (.prim .ix [.e (.call ("beat" : Str) [.e (.var 0), .e (.var 1), .e (.var 2)]), .e (.lit (.int 0))]),
  .ite (.e (.prim (.cmp .IsNot) [.e (.call ("are_heaps" : Str) [.e (.var 0), .e (.var 4)]), .e (.lit (.bool true))]))
    [.ret (.lit (.bool true))]
    [],
  .set 5 (.prim .sub [.e (.prim .add [.e (.prim .add [.e (.call ("squares" : Str) [.e (.var 0), .e (.var 1)]), .pk 6]), .e (.prim .mul [.e (.lit (.int 2)), .pk 7])]), .e (.prim .mul [.e (.lit (.int 2)), .e (.call ("weight" : Str) [.e (.var 0), .e (.var 1), .e (.call ("offer" : Str) [.e (.var 0), .e (.var 1)])])])]),
  .ret (.prim (.cmp .LtE) [.e (.call ("squares" : Str) [.e (.var 0), .e (.var 4)]), .pk 5])]
def r_law_b_beat_right (F : Genv) : List Tr → Option FR := runDef F 9 [false, false, false] b_law_b_beat_right
end Hp
set_option Elab.async false
set_option linter.all false
set_option maxRecDepth 100000
set_option maxHeartbeats 400000
namespace Hp
open PySem PySem.Spec PyProof.Rows L2 Hw
structure Tie where
  i : Nat
  j : Nat
  m : Int
structure Net where
  n : Nat
  ends : List Nat
  ties : List Tie
def tieD (t : Tie) : PyData := .tuple [.int t.i, .int t.j, .int t.m]
def nD (n : Nat) : PyData := .int n
def netD (N : Net) : PyData := .tuple [.int N.n, .tuple (N.ends.map nD), .tuple (N.ties.map tieD)]
def iD (i : Int) : PyData := .int i
def lnD (l : List Int) : PyData := .tuple (l.map iD)
def hD (h : List (List Int)) : PyData := .tuple (h.map lnD)
def kD (k : Option Nat) : PyData := match k with
  | none => .none
  | some k => .int k
def tLt (a b : Tie) : Prop := a.i < b.i ∨ (a.i = b.i ∧ a.j < b.j)
instance (a b : Tie) : Decidable (tLt a b) := by unfold tLt; infer_instance
structure OkT (n : Nat) (t : Tie) : Prop where
  i : t.i < n
  j : t.j < n
  ne : t.i ≠ t.j
  lo : 1 ≤ t.m
  hi : t.m ≤ 9
structure OkN (N : Net) : Prop where
  n1 : 1 ≤ N.n
  n8 : N.n ≤ 8
  e1 : 1 ≤ N.ends.length
  e4 : N.ends.length ≤ 4
  e : ∀ x ∈ N.ends, x < N.n
  t : ∀ x ∈ N.ties, OkT N.n x
  s : N.ties.Pairwise tLt
structure OkL (high : Int) (n e : Nat) (l : List Int) : Prop where
  len : l.length = n
  b : ∀ x ∈ l, 0 ≤ x ∧ x ≤ high
  z : l[e]? = some 0
structure OkH (high : Int) (N : Net) (h : List (List Int)) : Prop where
  len : h.length = N.ends.length
  l : ∀ (k e : Nat) (l : List Int), N.ends[k]? = some e → h[k]? = some l → OkL high N.n e l
theorem code_lt {n : Nat} {a b : Tie} (ha : OkT n a) (hb : OkT n b) (h : tLt a b) : a.i * n + a.j < b.i * n + b.j := by
  have h1 := ha.j; have h2 := hb.j
  rcases h with h | ⟨h, h'⟩
  · have : (a.i + 1) * n ≤ b.i * n := Nat.mul_le_mul_right n h
    rw [Nat.succ_mul] at this
    omega
  · rw [h]; omega
theorem ties_len' {n : Nat} : ∀ {l : List Tie}, (∀ t ∈ l, OkT n t) → l.Pairwise tLt → ∀ k, (∀ t ∈ l, k ≤ t.i * n + t.j) → l.length + k ≤ n * n ∨ l = []
  | [], _, _, _, _ => .inr rfl
  | t :: l, h, p, k, hk => by
    left
    have ht := h t List.mem_cons_self
    have hc : t.i * n + t.j < n * n := by
      have h1 := ht.i; have h2 := ht.j
      have : (t.i + 1) * n ≤ n * n := Nat.mul_le_mul_right n h1
      rw [Nat.succ_mul] at this
      omega
    have p' := List.pairwise_cons.mp p
    have k0 := hk t List.mem_cons_self
    rcases ties_len' (fun x hx => h x (List.mem_cons_of_mem _ hx)) p'.2 (k + 1) (fun x hx => by
      have := code_lt ht (h x (List.mem_cons_of_mem _ hx)) (p'.1 x hx)
      omega) with e | e
    · rw [List.length_cons]; omega
    · subst e; simp; omega
theorem OkN.tlen {N : Net} (o : OkN N) : N.ties.length ≤ 64 := by
  have h := ties_len' o.t o.s 0 (fun _ _ => Nat.zero_le _)
  have h8 := o.n8
  rcases h with h | h
  · have : N.n * N.n ≤ 8 * 8 := Nat.mul_le_mul h8 h8
    omega
  · rw [h]; simp
theorem sz {n : Nat} (h : n ≤ 1000000) : n ≤ sizeLine := Nat.le_trans h (by decide)
end Hp
set_option Elab.async false
set_option linter.all false
set_option maxRecDepth 100000
set_option maxHeartbeats 400000
namespace Hw
open PySem PySem.Spec PyProof.Rows L2
@[simp] theorem sv1 : type_of% @Hw.ev.eq_1 := @Hw.ev.eq_1
@[simp] theorem sv2 : type_of% @Hw.ev.eq_2 := @Hw.ev.eq_2
@[simp] theorem sv3 : type_of% @Hw.ev.eq_3 := @Hw.ev.eq_3
@[simp] theorem sv4 : type_of% @Hw.ev.eq_4 := @Hw.ev.eq_4
@[simp] theorem sv5 : type_of% @Hw.ev.eq_5 := @Hw.ev.eq_5
@[simp] theorem sv6 : type_of% @Hw.ev.eq_6 := @Hw.ev.eq_6
@[simp] theorem sv7 : type_of% @Hw.ev.eq_7 := @Hw.ev.eq_7
@[simp] theorem sv10 : type_of% @Hw.ev.eq_10 := @Hw.ev.eq_10
@[simp] theorem sv13 : type_of% @Hw.ev.eq_13 := @Hw.ev.eq_13
@[simp] theorem sv15 : type_of% @Hw.ev.eq_15 := @Hw.ev.eq_15
@[simp] theorem sv16 : type_of% @Hw.ev.eq_16 := @Hw.ev.eq_16
@[simp] theorem sv17 : type_of% @Hw.ev.eq_17 := @Hw.ev.eq_17
def andV (r : Option ER) (f : List Tr → Option ER) : Option ER := match r with
  | some (.ok t Γ1) => (match asBool t with
    | some true => f Γ1
    | some false => some (.ok (bT false) Γ1)
    | none => none)
  | r => r
def orV (r : Option ER) (f : List Tr → Option ER) : Option ER := match r with
  | some (.ok t Γ1) => (match asBool t with
    | some true => some (.ok (bT true) Γ1)
    | some false => f Γ1
    | none => none)
  | r => r
@[simp] theorem andV_c (k : Bool) (Γ : List Tr) (f : List Tr → Option ER) : andV (some (.ok (.c (.bool k)) Γ)) f = if k = true then f Γ else some (.ok (.c (.bool false)) Γ) := by cases k <;> rfl
@[simp] theorem orV_c (k : Bool) (Γ : List Tr) (f : List Tr → Option ER) : orV (some (.ok (.c (.bool k)) Γ)) f = if k = true then some (.ok (.c (.bool true)) Γ) else f Γ := by cases k <;> rfl
@[simp] theorem sv8 (F : Genv) (a b : CE) (Γ : List Tr) : ev F (.and_ a b) Γ = andV (ev F a Γ) (ev F b) := by rw [ev]; rfl
@[simp] theorem sv9 (F : Genv) (a b : CE) (Γ : List Tr) : ev F (.or_ a b) Γ = orV (ev F a Γ) (ev F b) := by rw [ev]; rfl
def ifeV (r : Option TR) (f g : List Tr → Option ER) : Option ER := match r with
  | some (.ok true Γ1) => f Γ1
  | some (.ok false Γ1) => g Γ1
  | some (.ex x Γ1) => some (.ex x Γ1)
  | none => none
@[simp] theorem ifeV_c (k : Bool) (Γ : List Tr) (f g : List Tr → Option ER) : ifeV (some (.ok k Γ)) f g = if k = true then f Γ else g Γ := by cases k <;> rfl
@[simp] theorem sv11 (F : Genv) (c : CT) (a b : CE) (Γ : List Tr) : ev F (.ife c a b) Γ = ifeV (evT F c Γ) (ev F a) (ev F b) := by rw [ev]; rfl
def chV2 (o1 o2 : CmpOp) (Γ1 : List Tr) (f : List Tr → Option ER) (ts : List Tr) : Option ER := match ts with
  | [ta, tb] => (cmpEv o1 ta tb).bind fun r => if r = true then ((see tb).bind fun db => if flatD db then (match f Γ1 with
      | some (.ok tc Γ2) => (cmpEv o2 (.c db) tc).map fun r => .ok (bT r) Γ2
      | r => r) else none) else some (.ok (bT false) Γ1)
  | _ => none
@[simp] theorem chV2_c (o1 o2 : CmpOp) (Γ1 : List Tr) (f : List Tr → Option ER) (ta tb : Tr) : chV2 o1 o2 Γ1 f [ta, tb] = (cmpEv o1 ta tb).bind fun r => if r = true then ((see tb).bind fun db => if flatD db then (match f Γ1 with
      | some (.ok tc Γ2) => (cmpEv o2 (.c db) tc).map fun r => .ok (bT r) Γ2
      | r => r) else none) else some (.ok (bT false) Γ1) := rfl
def chV (o1 o2 : CmpOp) (r : Option AR) (f : List Tr → Option ER) : Option ER := match r with
  | some (.ok avs Γ1) => (resolves Γ1 avs).bind (chV2 o1 o2 Γ1 f)
  | some (.ex x Γ1) => some (.ex x Γ1)
  | none => none
@[simp] theorem chV_c (o1 o2 : CmpOp) (avs : List AV) (Γ1 : List Tr) (f : List Tr → Option ER) : chV o1 o2 (some (.ok avs Γ1)) f = (resolves Γ1 avs).bind (chV2 o1 o2 Γ1 f) := rfl
@[simp] theorem sv12 (F : Genv) (o1 o2 : CmpOp) (ab : List CA) (c : CE) (Γ : List Tr) : ev F (.chain o1 o2 ab c) Γ = chV o1 o2 (evAs F ab Γ) (ev F c) := by
  rw [ev]
  unfold chV
  cases evAs F ab Γ with
  | none => rfl
  | some r =>
    cases r with
    | ex x Γ1 => rfl
    | ok avs Γ1 =>
      dsimp only
      cases resolves Γ1 avs with
      | none => rfl
      | some ts =>
        match ts with
        | [] => rfl
        | [_] => rfl
        | _ :: _ :: _ :: _ => rfl
        | [ta, tb] =>
          dsimp only [chV2, Option.bind_some]
          cases cmpEv o1 ta tb with
          | none => rfl
          | some k =>
            cases k with
            | false => rfl
            | true =>
              dsimp only [Option.bind_some]
              cases see tb with
              | none => rfl
              | some db => rfl
def andT (r : Option TR) (f : List Tr → Option TR) : Option TR := match r with
  | some (.ok true Γ1) => f Γ1
  | r => r
def orT (r : Option TR) (f : List Tr → Option TR) : Option TR := match r with
  | some (.ok false Γ1) => f Γ1
  | r => r
def notT (r : Option TR) : Option TR := match r with
  | some (.ok b Γ1) => some (.ok (!b) Γ1)
  | r => r
@[simp] theorem andT_c (k : Bool) (Γ : List Tr) (f : List Tr → Option TR) : andT (some (.ok k Γ)) f = if k = true then f Γ else some (.ok false Γ) := by cases k <;> rfl
@[simp] theorem orT_c (k : Bool) (Γ : List Tr) (f : List Tr → Option TR) : orT (some (.ok k Γ)) f = if k = true then some (.ok true Γ) else f Γ := by cases k <;> rfl
@[simp] theorem notT_c (k : Bool) (Γ : List Tr) : notT (some (.ok k Γ)) = some (.ok (!k) Γ) := rfl
def teT (r : Option ER) : Option TR := match r with
  | some (.ok t Γ1) => (truth t).map fun b => .ok b Γ1
  | some (.ex x Γ1) => some (.ex x Γ1)
  | none => none
@[simp] theorem teT_c (t : Tr) (Γ : List Tr) : teT (some (.ok t Γ)) = (truth t).map fun b => .ok b Γ := rfl
@[simp] theorem teT_ite (p : Prop) [Decidable p] (a b : Option ER) : teT (if p then a else b) = if p then teT a else teT b := apply_ite ..
@[simp] theorem andT_ite (p : Prop) [Decidable p] (a b : Option TR) (f : List Tr → Option TR) : andT (if p then a else b) f = if p then andT a f else andT b f := by split <;> rfl
@[simp] theorem orT_ite (p : Prop) [Decidable p] (a b : Option TR) (f : List Tr → Option TR) : orT (if p then a else b) f = if p then orT a f else orT b f := by split <;> rfl
@[simp] theorem notT_ite (p : Prop) [Decidable p] (a b : Option TR) : notT (if p then a else b) = if p then notT a else notT b := apply_ite ..
@[simp] theorem andV_ite (p : Prop) [Decidable p] (a b : Option ER) (f : List Tr → Option ER) : andV (if p then a else b) f = if p then andV a f else andV b f := by split <;> rfl
@[simp] theorem orV_ite (p : Prop) [Decidable p] (a b : Option ER) (f : List Tr → Option ER) : orV (if p then a else b) f = if p then orV a f else orV b f := by split <;> rfl
@[simp] theorem st5 (F : Genv) (a : CE) (Γ : List Tr) : evT F (.e a) Γ = teT (ev F a Γ) := by rw [evT]; rfl
@[simp] theorem st1 (F : Genv) (a b : CT) (Γ : List Tr) : evT F (.and_ a b) Γ = andT (evT F a Γ) (evT F b) := by rw [evT]; rfl
@[simp] theorem st2 (F : Genv) (a b : CT) (Γ : List Tr) : evT F (.or_ a b) Γ = orT (evT F a Γ) (evT F b) := by rw [evT]; rfl
@[simp] theorem sstl (F : Genv) (a : CE) (Γ : List Tr) : ev F (.stl a) Γ = stlE (ev F a Γ) := by rw [ev]
@[simp] theorem semp (F : Genv) (Γ : List Tr) : ev F .emp Γ = some (.ok (.c (.dict [])) Γ) := by rw [ev]
@[simp] theorem sdnew (F : Genv) (Γ : List Tr) : ev F .dnew Γ = some (.ok (.d []) Γ) := by rw [ev]
def sl2X (d : PyData) (i : Int) (r : Option ER) : Option ER := match r with
  | some (.ok tc Γ3) => (match asInt tc with
    | some j => (slEv (.c d) (some i) (some j)).map fun t => .ok t Γ3
    | none => none)
  | some (.ex x Γ3) => some (.ex x Γ3)
  | none => none
def sl2W (d : PyData) (r : Option ER) (g : List Tr → Option ER) : Option ER := match r with
  | some (.ok tb Γ2) => (match asInt tb with
    | some i => sl2X d i (g Γ2)
    | none => none)
  | some (.ex x Γ2) => some (.ex x Γ2)
  | none => none
def sl2V (r : Option ER) (f g : List Tr → Option ER) : Option ER := match r with
  | some (.ok (.c d) Γ1) => sl2W d (f Γ1) g
  | some (.ex x Γ1) => some (.ex x Γ1)
  | _ => none
@[simp] theorem sl2X_c (d : PyData) (i j : Int) (Γ : List Tr) : sl2X d i (some (.ok (.c (.int j)) Γ)) = (slEv (.c d) (some i) (some j)).map fun t => .ok t Γ := rfl
@[simp] theorem sl2W_c (d : PyData) (i : Int) (Γ : List Tr) (g : List Tr → Option ER) : sl2W d (some (.ok (.c (.int i)) Γ)) g = sl2X d i (g Γ) := rfl
@[simp] theorem sl2V_c (d : PyData) (Γ : List Tr) (f g : List Tr → Option ER) : sl2V (some (.ok (.c d) Γ)) f g = sl2W d (f Γ) g := rfl
@[simp] theorem ssl2 (F : Genv) (a b c : CE) (Γ : List Tr) : ev F (.sl2 a b c) Γ = sl2V (ev F a Γ) (ev F b) (ev F c) := by
  rw [ev]
  cases ev F a Γ with
  | none => rfl
  | some r =>
    cases r with
    | ex x Γ1 => rfl
    | ok t Γ1 => cases t <;> rfl
@[simp] theorem stlE_ok (t : Tr) (Γ : List Tr) : stlE (some (.ok t Γ)) = (frz t).map fun d => .ok (.c d) Γ := rfl
@[simp] theorem stlE_ex (x : Str) (Γ : List Tr) : stlE (some (.ex x Γ)) = some (.ex x Γ) := rfl
@[simp] theorem st3 (F : Genv) (a : CT) (Γ : List Tr) : evT F (.not_ a) Γ = notT (evT F a Γ) := by rw [evT]; rfl
@[simp] theorem sas1 : type_of% @Hw.evAs.eq_1 := @Hw.evAs.eq_1
@[simp] theorem sas2 : type_of% @Hw.evAs.eq_2 := @Hw.evAs.eq_2
@[simp] theorem sas3 : type_of% @Hw.evAs.eq_3 := @Hw.evAs.eq_3
@[simp] theorem sas4 : type_of% @Hw.evAs.eq_4 := @Hw.evAs.eq_4
@[simp] theorem sas5 : type_of% @Hw.evAs.eq_5 := @Hw.evAs.eq_5
@[simp] theorem st4 : type_of% @Hw.evT.eq_4 := @Hw.evT.eq_4
@[simp] theorem sc1 : type_of% @Hw.evC.eq_1 := @Hw.evC.eq_1
@[simp] theorem sc2 : type_of% @Hw.evC.eq_2 := @Hw.evC.eq_2
@[simp] theorem si1 : type_of% @Hw.evIt.eq_1 := @Hw.evIt.eq_1
theorem si2 (F : Genv) (a : CE) (Γ : List Tr) : evIt F (.rng1 a) Γ = (match ev F a Γ with
    | some (.ok t Γ1) => (asInt t).bind fun j => if okR j = true then some (.ok (rgD 0 j) Γ1) else none
    | some (.ex x Γ1) => some (.ex x Γ1)
    | none => none) := Eq.trans (Hw.evIt.eq_2 ..) (Eq.refl _)
@[simp] theorem si4 : type_of% @Hw.evIt.eq_4 := @Hw.evIt.eq_4
@[simp] theorem si5 : type_of% @Hw.evIt.eq_5 := @Hw.evIt.eq_5
@[simp] theorem si6 : type_of% @Hw.evIt.eq_6 := @Hw.evIt.eq_6
@[simp] theorem si7 : type_of% @Hw.evIt.eq_7 := @Hw.evIt.eq_7
@[simp] theorem sp1 : type_of% @Hw.evP.eq_1 := @Hw.evP.eq_1
@[simp] theorem sp2 : type_of% @Hw.evP.eq_2 := @Hw.evP.eq_2
@[simp] theorem spt1 : type_of% @Hw.evPt.eq_1 := @Hw.evPt.eq_1
@[simp] theorem spt2 : type_of% @Hw.evPt.eq_2 := @Hw.evPt.eq_2
@[simp] theorem sx1 : type_of% @Hw.exS.eq_1 := @Hw.exS.eq_1
@[simp] theorem sx2 : type_of% @Hw.exS.eq_2 := @Hw.exS.eq_2
@[simp] theorem sx3 : type_of% @Hw.exS.eq_3 := @Hw.exS.eq_3
@[simp] theorem sx4 : type_of% @Hw.exS.eq_4 := @Hw.exS.eq_4
@[simp] theorem sx5 : type_of% @Hw.exS.eq_5 := @Hw.exS.eq_5
@[simp] theorem sx6 : type_of% @Hw.exS.eq_6 := @Hw.exS.eq_6
@[simp] theorem sx7 : type_of% @Hw.exS.eq_7 := @Hw.exS.eq_7
@[simp] theorem sx8 : type_of% @Hw.exS.eq_8 := @Hw.exS.eq_8
@[simp] theorem sx9 : type_of% @Hw.exS.eq_9 := @Hw.exS.eq_9
@[simp] theorem sx10 : type_of% @Hw.exS.eq_10 := @Hw.exS.eq_10
@[simp] theorem sx11 : type_of% @Hw.exS.eq_11 := @Hw.exS.eq_11
@[simp] theorem sxb (F : Genv) (Γ : List Tr) : exS F .brk Γ = some (.bk Γ) := by rw [exS]
@[simp] theorem sxc (F : Genv) (Γ : List Tr) : exS F .cnt Γ = some (.ct Γ) := by rw [exS]
@[simp] theorem sxp (F : Genv) (Γ : List Tr) : exS F .pass Γ = some (.nx Γ) := by rw [exS]
@[simp] theorem sxd (F : Genv) (Γ : List Tr) : exS F .doc Γ = some (.nx Γ) := by rw [exS]
@[simp] theorem sxr (F : Genv) (x : Str) (Γ : List Tr) : exS F (.rais x) Γ = some (.ex x Γ) := by rw [exS]
@[simp] theorem nc_eq (a b : Nat) : ((a : Int) = (b : Int)) = (a = b) := by rw [eq_iff_iff]; omega
@[simp] theorem nc_le (a b : Nat) : ((a : Int) ≤ (b : Int)) = (a ≤ b) := by rw [eq_iff_iff]; omega
@[simp] theorem nc_lt (a b : Nat) : ((a : Int) < (b : Int)) = (a < b) := by rw [eq_iff_iff]; omega
@[simp] theorem p_add (a b : Tr) : primEv .add [a, b] = addEv a b := rfl
@[simp] theorem p_sub (a b : Tr) : primEv .sub [a, b] = int2 (fun i j => some (i - j)) a b := rfl
@[simp] theorem p_mul (a b : Tr) : primEv .mul [a, b] = mulEv a b := rfl
@[simp] theorem p_fdiv (a b : Tr) : primEv .fdiv [a, b] = int2 (fun i j => if 0 < j ∧ j.natAbs.log2 < 9000 then some (i / j) else none) a b := rfl
@[simp] theorem p_mod (a b : Tr) : primEv .mod [a, b] = int2 (fun i j => if 0 < j then some (i % j) else none) a b := rfl
@[simp] theorem p_pow (a b : Tr) : primEv .pow [a, b] = int2 (fun i j => if 0 ≤ j ∧ j ≤ 1000000 ∧ i.natAbs < 2 ^ 64 then some (i ^ j.toNat) else none) a b := rfl
@[simp] theorem p_neg (a : Tr) : primEv .neg [a] = (asInt a).map fun i => iT (-i) := rfl
@[simp] theorem p_cmp (o : CmpOp) (a b : Tr) : primEv (.cmp o) [a, b] = (cmpEv o a b).map bT := rfl
@[simp] theorem p_ix (a b : Tr) : primEv .ix [a, b] = ixEv a b := rfl
@[simp] theorem p_bi (b : Bi) (as : List Tr) : primEv (.bi b) as = biEv b as := rfl
@[simp] theorem p_rev (a : Tr) : primEv .rev [a] = (match asList a with | some xs => some (lT xs.reverse) | none => (asTup a).map fun xs => .c (.tuple xs.reverse)) := rfl
@[simp] theorem p_rpr (a : Tr) : primEv .rpr [a] = (see a).bind fun d => if plainR d = true then some (.c (.str (PyData.shown d))) else none := rfl
@[simp] theorem p_srt (a : Tr) : primEv .srt [a] = (asList a).bind srtD := rfl
@[simp] theorem p_lzp (a b : Tr) : primEv .lzp [a, b] = (asList a).bind fun xs => (asList b).bind fun ys => if min xs.length ys.length ≤ sizeLine then some (lT ((xs.zip ys).map fun p => PyData.tuple [p.1, p.2])) else none := rfl
@[simp] theorem p_srs (a : Tr) : primEv .srs [a] = srsEv a := rfl
@[simp] theorem p_sl0 (a : Tr) : primEv (.sl false false) [a] = slEv a none none := rfl
@[simp] theorem p_sl1 (a b : Tr) : primEv (.sl true false) [a, b] = (asInt b).bind fun i => slEv a (some i) none := rfl
@[simp] theorem p_sl2 (a b : Tr) : primEv (.sl false true) [a, b] = (asInt b).bind fun i => slEv a none (some i) := rfl
theorem p_trg (a : Tr) : primEv (.trg false) [a] = (asInt a).bind fun j => if rgOkB 0 j then some (.c (.tuple (rgD 0 j))) else none := Eq.trans (Eq.refl _) (Eq.refl _)
@[simp] theorem int2_c (g : Int → Int → Option Int) (i j : Int) : int2 g (.c (.int i)) (.c (.int j)) = (g i j).map iT := rfl
@[simp] theorem add_c (i j : Int) : addEv (.c (.int i)) (.c (.int j)) = some (.c (.int (i + j))) := rfl
@[simp] theorem cmpI_c (p : Int → Int → Bool) (i j : Int) : cmpI p (.c (.int i)) (.c (.int j)) = some (p i j) := rfl
@[simp] theorem lt_c (i j : Int) : cmpEv .Lt (.c (.int i)) (.c (.int j)) = some (decide (i < j)) := rfl
@[simp] theorem le_c (i j : Int) : cmpEv .LtE (.c (.int i)) (.c (.int j)) = some (decide (i ≤ j)) := rfl
@[simp] theorem gt_c (i j : Int) : cmpEv .Gt (.c (.int i)) (.c (.int j)) = some (decide (j < i)) := rfl
@[simp] theorem ge_c (i j : Int) : cmpEv .GtE (.c (.int i)) (.c (.int j)) = some (decide (j ≤ i)) := rfl
@[simp] theorem eq_c (i j : Int) : cmpEv .Eq (.c (.int i)) (.c (.int j)) = some (decide (i = j)) := rfl
@[simp] theorem ne_c (i j : Int) : cmpEv .NotEq (.c (.int i)) (.c (.int j)) = some (!decide (i = j)) := rfl
@[simp] theorem eq_cb (i j : Bool) : cmpEv .Eq (.c (.bool i)) (.c (.bool j)) = some (i == j) := rfl
@[simp] theorem ne_cb (i j : Bool) : cmpEv .NotEq (.c (.bool i)) (.c (.bool j)) = some (!(i == j)) := rfl
@[simp] theorem eq_cs (x y : Str) : cmpEv .Eq (.c (.str x)) (.c (.str y)) = some (decide (x = y)) := rfl
@[simp] theorem ne_cs (x y : Str) : cmpEv .NotEq (.c (.str x)) (.c (.str y)) = some (!decide (x = y)) := rfl
def isNon : PyData → Bool
  | .none => true
  | _ => false
@[simp] theorem isN_c (d : PyData) : cmpEv .Is (.c d) (.c .none) = some (isNon d) := by cases d <;> rfl
@[simp] theorem isnN_c (d : PyData) : cmpEv .IsNot (.c d) (.c .none) = some (!isNon d) := by cases d <;> rfl
@[simp] theorem isb_c (i j : Bool) : cmpEv .Is (.c (.bool i)) (.c (.bool j)) = some (decide (i = j)) := rfl
@[simp] theorem isnb_c (i j : Bool) : cmpEv .IsNot (.c (.bool i)) (.c (.bool j)) = some (!decide (i = j)) := rfl
@[simp] theorem isNon_i (i : Int) : isNon (.int i) = false := rfl
@[simp] theorem isNon_n : isNon .none = true := rfl
@[simp] theorem isNon_t (ds : List PyData) : isNon (.tuple ds) = false := rfl
@[simp] theorem isNon_l (ds : List PyData) : isNon (.list ds) = false := rfl
@[simp] theorem truth_b (b : Bool) : truth (.c (.bool b)) = some b := rfl
@[simp] theorem truth_i (i : Int) : truth (.c (.int i)) = some (i != 0) := rfl
@[simp] theorem len_t (ds : List PyData) : biEv .len [.c (.tuple ds)] = some (.c (.int (ds.length : Nat))) := rfl
@[simp] theorem len_cl (ds : List PyData) : biEv .len [.c (.list ds)] = some (.c (.int (ds.length : Nat))) := rfl
@[simp] theorem len_s (ns : List Int) : biEv .len [.s ns] = some (.c (.int (ns.length : Nat))) := rfl
theorem all_m {α : Type} (p : α → Bool) (xs : List α) : biEv .all [.l (xs.map fun x => .c (.bool (p x)))] = some (.c (.bool (xs.all p))) := by
  simp only [biEv, asList_l]
  rw [stl_map (fun x => PyData.bool (p x))]
  simp [boolsOf_map, List.all_map]
theorem sum_m {α : Type} (p : α → Int) (xs : List α) : biEv .sum [.l (xs.map fun x => .c (.int (p x)))] = some (.c (.int (xs.map p).sum)) := by
  simp only [biEv, asList_l]
  rw [stl_map (fun x => PyData.int (p x))]
  simp [intsOf_map]
theorem tuple_m {α : Type} (p : α → PyData) (xs : List α) : biEv .tuple [.l (xs.map fun x => .c (p x))] = some (.c (.tuple (xs.map p))) := by
  simp only [biEv]
  rw [asSeq_l (stl_map p xs)]
  rfl
@[simp] theorem tuple_ct (ds : List PyData) : biEv .tuple [.c (.tuple ds)] = some (.c (.tuple ds)) := rfl
@[simp] theorem tuple_cl (ds : List PyData) : biEv .tuple [.c (.list ds)] = some (.c (.tuple ds)) := rfl
@[simp] theorem list_ct (ds : List PyData) : biEv .list [.c (.tuple ds)] = some (lT ds) := rfl
@[simp] theorem min2_c (i j : Int) : biEv .min2 [.c (.int i), .c (.int j)] = some (.c (.int (if j < i then j else i))) := rfl
@[simp] theorem min3_c (i j k : Int) : biEv .min3 [.c (.int i), .c (.int j), .c (.int k)] = some (.c (.int (if k < (if j < i then j else i) then k else (if j < i then j else i)))) := rfl
@[simp] theorem max2_c (i j : Int) : biEv .max2 [.c (.int i), .c (.int j)] = some (.c (.int (if j > i then j else i))) := rfl
@[simp] theorem abs_c (i : Int) : biEv .abs [.c (.int i)] = some (.c (.int (if i < 0 then -i else i))) := rfl
@[simp] theorem int_cb (b : Bool) : biEv .int [.c (.bool b)] = some (.c (.int (if b then 1 else 0))) := rfl
@[simp] theorem slotOk_0 (d : PyData) (Γ : List Tr) : slotOk (.c d :: Γ) 0 = true := rfl
@[simp] theorem slotOk_0l (d : List Tr) (Γ : List Tr) : slotOk (.l d :: Γ) 0 = true := rfl
@[simp] theorem slotOk_0t (d : List Tr) (Γ : List Tr) : slotOk (.t d :: Γ) 0 = true := rfl
@[simp] theorem slotOk_0s (d : List Int) (Γ : List Tr) : slotOk (.s d :: Γ) 0 = true := rfl
@[simp] theorem slotOk_s (t : Tr) (Γ : List Tr) (i : Nat) : slotOk (t :: Γ) (i + 1) = slotOk Γ i := rfl
@[simp] theorem arc_ok (a : AV) (as : List AV) (Γ : List Tr) : AR.cons a (some (.ok as Γ)) = some (.ok (a :: as) Γ) := rfl
@[simp] theorem arc_ex (a : AV) (x : Str) (Γ : List Tr) : AR.cons a (some (.ex x Γ)) = some (.ex x Γ) := rfl
@[simp] theorem resv0 (Γ : List Tr) : resolves Γ [] = some [] := rfl
@[simp] theorem resv1 (Γ : List Tr) (t : Tr) (as : List AV) : resolves Γ (.tmp t :: as) = (resolves Γ as).map (t :: ·) := by
  simp only [resolves, resolve]; cases resolves Γ as <;> rfl
@[simp] theorem resv2 (Γ : List Tr) (i : Nat) (as : List AV) : resolves Γ (.pk i :: as) = Γ[i]?.bind fun t => (resolves Γ as).map (t :: ·) := by
  simp only [resolves, resolve]; cases Γ[i]? <;> cases resolves Γ as <;> rfl
@[simp] theorem tmps0 : tmps [] = some [] := rfl
@[simp] theorem tmps1 (t : Tr) (as : List AV) : tmps (.tmp t :: as) = (tmps as).map (t :: ·) := rfl
@[simp] theorem argsOf0 (Γ : List Tr) : argsOf Γ [] = some [] := rfl
@[simp] theorem argsOf1 (Γ : List Tr) (t : Tr) (as : List AV) : argsOf Γ (.tmp t :: as) = (Hw.settle t).bind fun t => (argsOf Γ as).map (t :: ·) := by
  simp only [argsOf, argOf]; cases Hw.settle t <;> cases argsOf Γ as <;> rfl
@[simp] theorem argsOf2 (Γ : List Tr) (i : Nat) (as : List AV) : argsOf Γ (.io i :: as) = if slotOk Γ i then Γ[i]?.bind fun t => (argsOf Γ as).map (t :: ·) else none := by
  have e : argOf Γ (.io i) = if slotOk Γ i then Γ[i]? else none := by
    cases h : Γ[i]? with
    | none => simp [argOf, slotOk, h]
    | some t => cases t <;> simp [argOf, slotOk, h]
  rw [argsOf, e]
  by_cases h : slotOk Γ i = true
  · rw [if_pos h, if_pos h]
    cases Γ[i]? <;> cases argsOf Γ as <;> rfl
  · rw [if_neg h, if_neg h]
@[simp] theorem argsOf3 (Γ : List Tr) (t : Tr) (as : List AV) : argsOf Γ (.own t :: as) = (argsOf Γ as).map (t :: ·) := by
  simp only [argsOf, argOf]; cases argsOf Γ as <;> rfl
@[simp] theorem slotsOf3 (t : Tr) (as : List AV) : slotsOf (.own t :: as) = slotsOf as := rfl
@[simp] theorem hasPk3 (t : Tr) (as : List AV) : hasPk (.own t :: as) = hasPk as := rfl
@[simp] theorem backs3 (Γ : List Tr) (t : Tr) (as : List AV) (o : Tr) (os : List Tr) : backs Γ (.own t :: as) (o :: os) = backs Γ as os := rfl
@[simp] theorem slotsOf0 : slotsOf [] = [] := rfl
@[simp] theorem slotsOf1 (t : Tr) (as : List AV) : slotsOf (.tmp t :: as) = slotsOf as := rfl
@[simp] theorem slotsOf2 (i : Nat) (as : List AV) : slotsOf (.io i :: as) = i :: slotsOf as := rfl
@[simp] theorem hasPk0 : hasPk [] = false := rfl
@[simp] theorem hasPk1 (t : Tr) (as : List AV) : hasPk (.tmp t :: as) = hasPk as := rfl
@[simp] theorem hasPk2 (i : Nat) (as : List AV) : hasPk (.io i :: as) = hasPk as := rfl
@[simp] theorem backs0 (Γ : List Tr) (os : List Tr) : backs Γ [] os = Γ := by cases os <;> rfl
@[simp] theorem backs1 (Γ : List Tr) (t : Tr) (as : List AV) (o : Tr) (os : List Tr) : backs Γ (.tmp t :: as) (o :: os) = backs Γ as os := rfl
@[simp] theorem backs2 (Γ : List Tr) (i : Nat) (as : List AV) (o : Tr) (os : List Tr) : backs Γ (.io i :: as) (o :: os) = backs (Γ.set i o) as os := rfl
@[simp] theorem flat_i (i : Int) : flatD (.int i) = true := rfl
@[simp] theorem flat_n : flatD .none = true := rfl
@[simp] theorem flat_b (b : Bool) : flatD (.bool b) = true := rfl
@[simp] theorem flat_s (b : Str) : flatD (.str b) = true := rfl
@[simp] theorem isStl_c (d : PyData) : isStl (.c d) = true := rfl
@[simp] theorem isStl_s (d : List Int) : isStl (.s d) = true := rfl
@[simp] theorem isStl_l (d : List Tr) : isStl (.l d) = false := rfl
@[simp] theorem isStl_t (d : List Tr) : isStl (.t d) = false := rfl
@[simp] theorem kid_c (d : PyData) (k : Int) : kidT (.c d) k = (kidD d k).map .c := rfl
@[simp] theorem kid_s (ns : List Int) (k : Int) : kidT (.s ns) k = (atI ns k).map iT := rfl
@[simp] theorem kid_l (xs : List Tr) (k : Int) : kidT (.l xs) k = atI xs k := rfl
@[simp] theorem kid_t (xs : List Tr) (k : Int) : kidT (.t xs) k = atI xs k := rfl
@[simp] theorem kidD_t (ds : List PyData) (k : Int) : kidD (.tuple ds) k = atI ds k := rfl
@[simp] theorem kidD_l (ds : List PyData) (k : Int) : kidD (.list ds) k = atI ds k := rfl
@[simp] theorem atI_0' {α : Type} (x : α) (xs : List α) : atI (x :: xs) 0 = some x := atI_n (x :: xs) 0
@[simp] theorem atI_1' {α : Type} (x y : α) (xs : List α) : atI (x :: y :: xs) 1 = some y := atI_n (x :: y :: xs) 1
@[simp] theorem atI_2' {α : Type} (x y z : α) (xs : List α) : atI (x :: y :: z :: xs) 2 = some z := atI_n (x :: y :: z :: xs) 2
@[simp] theorem putIn_ok (i : Nat) (t r : Tr) (Γ : List Tr) : Hw.putIn i t (some (.ok r Γ)) = (match Γ[i]? with
    | some .gone => some (.ok r (Γ.set i t))
    | _ => none) := rfl
@[simp] theorem bindTg_nm (Γ : List Tr) (i : Nat) (d : PyData) : bindTg Γ (.nm i) d = some (Γ.set i (.c d)) := rfl
@[simp] theorem bindTg_tp (Γ : List Tr) (is : List Nat) (ds : List PyData) : bindTg Γ (.tp is) (.tuple ds) = if is.length = ds.length then bindTp Γ is ds else none := rfl
@[simp] theorem bindTp0 (Γ : List Tr) : bindTp Γ [] [] = some Γ := rfl
@[simp] theorem bindTp1 (Γ : List Tr) (i : Nat) (is : List Nat) (d : PyData) (ds : List PyData) : bindTp Γ (i :: is) (d :: ds) = bindTp (Γ.set i (.c d)) is ds := rfl
@[simp] theorem wipe0 (Γ : List Tr) : wipeT Γ [] = Γ := rfl
@[simp] theorem wipe1 (Γ : List Tr) (i : Nat) (is : List Nat) : wipeT Γ (i :: is) = (wipeT Γ is).set i .gone := rfl
@[simp] theorem setAll0 (Γ : List Tr) : setAll Γ [] [] = some Γ := rfl
@[simp] theorem setAll1 (Γ : List Tr) (i : Nat) (is : List Nat) (t : Tr) (ts : List Tr) : setAll Γ (i :: is) (t :: ts) = setAll (Γ.set i t) is ts := rfl
@[simp] theorem partsOf_c (ds : List PyData) : partsOf (.c (.tuple ds)) = some (ds.map .c) := rfl
@[simp] theorem partsOf_t (xs : List Tr) : partsOf (.t xs) = some xs := rfl
@[simp] theorem tupT_0 : tupT [] = .c (.tuple []) := rfl
@[simp] theorem tupT_1 (a : PyData) : tupT [.c a] = .c (.tuple [a]) := rfl
@[simp] theorem tupT_2 (a b : PyData) : tupT [.c a, .c b] = .c (.tuple [a, b]) := rfl
@[simp] theorem tupT_3 (a b c : PyData) : tupT [.c a, .c b, .c c] = .c (.tuple [a, b, c]) := rfl
@[simp] theorem outs0 (xs : List Tr) : outsOf [] xs = [] := by cases xs <;> rfl
@[simp] theorem outs1 (ps : List Bool) (x : Tr) (xs : List Tr) : outsOf (true :: ps) (x :: xs) = x :: outsOf ps xs := rfl
@[simp] theorem outs2 (ps : List Bool) (x : Tr) (xs : List Tr) : outsOf (false :: ps) (x :: xs) = .gone :: outsOf ps xs := rfl
@[simp] theorem sz0 : 0 ≤ sizeLine := by decide
@[simp] theorem sz1 : 1 ≤ sizeLine := by decide
@[simp] theorem sz2 : 2 ≤ sizeLine := by decide
@[simp] theorem sz3 : 3 ≤ sizeLine := by decide
@[simp] theorem sz4 : 4 ≤ sizeLine := by decide
@[simp] theorem sz5 : 5 ≤ sizeLine := by decide
@[simp] theorem sz6 : 6 ≤ sizeLine := by decide
@[simp] theorem idxs0 : idxs [] = some [] := rfl
@[simp] theorem idxs1 (t : Tr) (as : List AV) : idxs (.tmp t :: as) = (asInt t).bind fun k => (idxs as).map (k :: ·) := by
  simp only [idxs]; cases asInt t <;> cases idxs as <;> rfl
@[simp] theorem putP0 (g : List Tr → Option (List Tr)) (xs : List Tr) : putP g [] (.l xs) = (g xs).map Tr.l := by rw [putP]
theorem rgOk {n : Nat} (h : n ≤ 1000000) : rgOkB 0 (n : Int) = true := by
  unfold rgOkB
  rw [Bool.and_eq_true]
  exact ⟨okR_of (by omega) (by omega), okR_of (by omega) (by omega)⟩
theorem trg_n {n : Nat} (h : n ≤ 1000000) : primEv (.trg false) [.c (.int n)] = some (.c (.tuple ((List.range n).map fun i => PyData.int (i : Nat)))) := by
  rw [p_trg, asInt_c, Option.bind_some, if_pos (rgOk h), rg0]
theorem rng1_i {F : Genv} {a : CE} {Γ Γ1 : List Tr} {j : Int} (h : ev F a Γ = some (.ok (.c (.int j)) Γ1)) (h0 : -1000000 ≤ j) (h1 : j ≤ 1000000) : evIt F (.rng1 a) Γ = some (.ok ((List.range j.toNat).map fun i => PyData.int (i : Nat)) Γ1) := by
  have p : okR j = true := okR_of h0 h1
  rw [si2, h]
  dsimp only
  rw [asInt_c, Option.bind_some, if_pos p, rgz]
theorem rng1_n {F : Genv} {a : CE} {Γ Γ1 : List Tr} {n : Nat} (h : ev F a Γ = some (.ok (.c (.int (n : Nat))) Γ1)) (h1 : n ≤ 1000000) : evIt F (.rng1 a) Γ = some (.ok ((List.range n).map fun i => PyData.int (i : Nat)) Γ1) := by
  have := rng1_i h (by omega) (by omega)
  rwa [Int.toNat_natCast] at this
end Hw
set_option Elab.async false
set_option linter.all false
set_option maxRecDepth 100000
set_option maxHeartbeats 400000
namespace Hp
open PySem PySem.Spec PyProof.Rows L2 Hw
def isTup : PyData → Bool
  | .tuple _ => true
  | _ => false
def isLst : PyData → Bool
  | .list _ => true
  | _ => false
def isInt0 : PyData → Bool
  | .int _ => true
  | .bool _ => true
  | _ => false
def isBol : PyData → Bool
  | .bool _ => true
  | _ => false
@[simp] theorem isi_tuple (d : PyData) : primEv (.isi "tuple") [.c d] = some (.c (.bool (isTup d))) := by cases d <;> rfl
@[simp] theorem isi_list (d : PyData) : primEv (.isi "list") [.c d] = some (.c (.bool (isLst d))) := by cases d <;> rfl
@[simp] theorem isi_int (d : PyData) : primEv (.isi "int") [.c d] = some (.c (.bool (isInt0 d))) := by cases d <;> rfl
@[simp] theorem isi_bool (d : PyData) : primEv (.isi "bool") [.c d] = some (.c (.bool (isBol d))) := by cases d <;> rfl
@[simp] theorem isTup_t (ds : List PyData) : isTup (.tuple ds) = true := rfl
theorem isTup_iff {d : PyData} : isTup d = true ↔ ∃ ds, d = .tuple ds := by cases d <;> simp [isTup]
def isNum (d : PyData) (lo hi : Int) : Bool := match d with
  | .int i => decide (lo ≤ i) && decide (i ≤ hi)
  | _ => false
theorem isNum_iff {d : PyData} {lo hi : Int} : isNum d lo hi = true ↔ ∃ i, d = .int i ∧ lo ≤ i ∧ i ≤ hi := by
  cases d <;> simp [isNum]
@[simp] theorem isNum_i {i lo hi : Int} : isNum (.int i) lo hi = (decide (lo ≤ i) && decide (i ≤ hi)) := rfl
def S_is_number (run : List Tr → Option FR) : Prop := ∀ d lo hi, run [.c d, .c (.int lo), .c (.int hi)] = some (.ok (.c (.bool (isNum d lo hi))) [.gone, .gone, .gone])
theorem w_is_number (F : Genv) : S_is_number (r_is_number F) := by
  intro d lo hi
  refine run_ret rfl (by decide) ?_
  refine Run.rt (t := .c (.bool (isNum d lo hi))) (Γ1 := [.c d, .c (.int lo), .c (.int hi)]) ?_ ⟨_, rfl, rfl⟩
  cases d with
  | int i => by_cases h : lo ≤ i <;> simp [isInt0, isBol, h]
  | _ => simp [isInt0, isBol, isNum]
def isTieB (n : Nat) (d : PyData) : Bool := match d with
  | .tuple [a, b, c] => isNum a 0 ((n : Int) - 1) && isNum b 0 ((n : Int) - 1) && !(PyData.eqv a b) && isNum c 1 9
  | _ => false
theorem isTieB_iff {n : Nat} {d : PyData} : isTieB n d = true ↔ ∃ t, d = tieD t ∧ OkT n t := by
  constructor
  · intro h
    unfold isTieB at h
    split at h
    · rename_i a b c
      simp only [Bool.and_eq_true, Bool.not_eq_true'] at h
      obtain ⟨⟨⟨h1, h2⟩, h3⟩, h4⟩ := h
      obtain ⟨i, rfl, i0, i1⟩ := isNum_iff.mp h1
      obtain ⟨j, rfl, j0, j1⟩ := isNum_iff.mp h2
      obtain ⟨m, rfl, m0, m1⟩ := isNum_iff.mp h4
      have h3 : decide (i = j) = false := h3
      have h3 := of_decide_eq_false h3
      refine ⟨⟨i.toNat, j.toNat, m⟩, ?_, ?_⟩
      · simp [tieD, Int.toNat_of_nonneg i0, Int.toNat_of_nonneg j0]
      · exact ⟨by show i.toNat < n; omega, by show j.toNat < n; omega, by show i.toNat ≠ j.toNat; omega, m0, m1⟩
    · cases h
  · rintro ⟨t, rfl, o⟩
    have h1 := o.i; have h2 := o.j; have h3 := o.ne; have h4 := o.lo; have h5 := o.hi
    have e : PyData.eqv (.int (t.i : Nat)) (.int (t.j : Nat)) = false := by
      show decide ((t.i : Int) = t.j) = false
      exact decide_eq_false (by omega)
    simp only [isTieB, tieD, isNum_i, e]
    simp [h4, h5]
    omega
def S_is_tie (run : List Tr → Option FR) : Prop := ∀ (n : Nat) d, run [.c (.int n), .c d] = some (.ok (.c (.bool (isTieB n d))) [.gone, .gone])
theorem w_is_tie {F : Genv} (h1 : Fn F "is_number" S_is_number) (g : F.gl "MOST_OVER" = some (.int 9)) : S_is_tie (r_is_tie F) := by
  obtain ⟨rn, fn, hn⟩ := h1
  intro n d
  refine run_ret rfl (by decide) ?_
  by_cases ht : isTup d = true
  · obtain ⟨ds, rfl⟩ := isTup_iff.mp ht
    by_cases hl : ds.length = 3
    · match ds, hl with
      | [a, b, c], _ =>
        refine Run.skip (Γ1 := [.c (.int n), .c (.tuple [a, b, c])]) (by simp) ?_
        refine Run.ite (k := !(isNum a 0 ((n : Int) - 1) && isNum b 0 ((n : Int) - 1))) (Γ1 := [.c (.int n), .c (.tuple [a, b, c])]) ?_ (fun h => ?_) (fun h => ?_)
        · cases ha : isNum a 0 ((n : Int) - 1) <;> simp [fn, hn _ _ _, ha]
        · have : isTieB n (.tuple [a, b, c]) = false := by
            simp only [Bool.not_eq_true'] at h
            simp only [isTieB, h, Bool.false_and]
          exact Run.rt (t := .c (.bool false)) (Γ1 := [.c (.int n), .c (.tuple [a, b, c])]) (by simp) ⟨_, by rw [this], rfl⟩
        · refine Run.nil ?_
          simp only [Bool.not_eq_false', Bool.and_eq_true] at h
          obtain ⟨i, rfl, i0, i1⟩ := isNum_iff.mp h.1
          obtain ⟨j, rfl, j0, j1⟩ := isNum_iff.mp h.2
          refine Run.rt (t := .c (.bool (isTieB n (.tuple [.int i, .int j, c])))) (Γ1 := [.c (.int n), .c (.tuple [.int i, .int j, c])]) ?_ ⟨_, rfl, rfl⟩
          have e : PyData.eqv (.int i) (.int j) = decide (i = j) := rfl
          have e1 := hn c 1 9
          simp only [isTieB, isNum_i, e, i0, i1, j0, j1, decide_true, Bool.true_and]
          by_cases hij : i = j <;> simp [fn, e1, g, hij]
    · refine Run.iteT (Γ1 := [.c (.int n), .c (.tuple ds)]) (by simp; omega) ?_
      have : isTieB n (.tuple ds) = false := by
        unfold isTieB; split
        · rename_i e; cases e; simp at hl
        · rfl
      exact Run.rt (t := .c (.bool false)) (Γ1 := [.c (.int n), .c (.tuple ds)]) (by simp) ⟨_, by rw [this], rfl⟩
  · refine Run.iteT (Γ1 := [.c (.int n), .c d]) (by simp [ht]) ?_
    have : isTieB n d = false := by
      unfold isTieB; split
      · simp at ht
      · rfl
    exact Run.rt (t := .c (.bool false)) (Γ1 := [.c (.int n), .c d]) (by simp) ⟨_, by rw [this], rfl⟩
def areEndsB (n : Nat) (d : PyData) : Bool := match d with
  | .tuple ds => decide (1 ≤ ds.length) && decide (ds.length ≤ 4) && ds.all fun d => isNum d 0 ((n : Int) - 1)
  | _ => false
theorem ends_of {n : Nat} : ∀ {ds : List PyData}, (ds.all fun d => isNum d 0 ((n : Int) - 1)) = true → ∃ es : List Nat, ds = es.map nD ∧ ∀ e ∈ es, e < n
  | [], _ => ⟨[], rfl, fun _ h => nomatch h⟩
  | d :: ds, h => by
    rw [List.all_cons, Bool.and_eq_true] at h
    obtain ⟨i, rfl, i0, i1⟩ := isNum_iff.mp h.1
    obtain ⟨es, rfl, he⟩ := ends_of h.2
    refine ⟨i.toNat :: es, by simp [nD, Int.toNat_of_nonneg i0], fun e m => ?_⟩
    rcases List.mem_cons.mp m with rfl | m
    · omega
    · exact he e m
theorem areEndsB_iff {n : Nat} {d : PyData} : areEndsB n d = true ↔ ∃ es : List Nat, d = .tuple (es.map nD) ∧ 1 ≤ es.length ∧ es.length ≤ 4 ∧ ∀ e ∈ es, e < n := by
  constructor
  · intro h
    unfold areEndsB at h
    split at h
    · simp only [Bool.and_eq_true, decide_eq_true_eq] at h
      obtain ⟨es, rfl, he⟩ := ends_of h.2
      exact ⟨es, rfl, by simpa using h.1.1, by simpa using h.1.2, he⟩
    · cases h
  · rintro ⟨es, rfl, h1, h2, h3⟩
    simp only [areEndsB, List.length_map, h1, h2, decide_true, Bool.true_and, List.all_eq_true, List.mem_map]
    rintro _ ⟨e, he, rfl⟩
    have := h3 e he
    simp [nD]
    omega
def S_are_ends (run : List Tr → Option FR) : Prop := ∀ (n : Nat) d, run [.c (.int n), .c d] = some (.ok (.c (.bool (areEndsB n d))) [.gone, .gone])
theorem w_are_ends {F : Genv} (h1 : Fn F "is_number" S_is_number) (g : F.gl "MOST_KINDS" = some (.int 4)) : S_are_ends (r_are_ends F) := by
  obtain ⟨rn, fn, hn⟩ := h1
  intro n d
  refine run_ret rfl (by decide) ?_
  have no : areEndsB n d = false → Run F [.ret (.lit (.bool false))] [.c (.int n), .c d, .gone] (Aft F [.ret (.prim (.bi .all) [.e (.lc [2] (.nm 2) (.sq (.var 1)) [] (.call ("is_number" : Str) [.e (.var 2), .e (.lit (.int 0)), .e (.prim .sub [.pk 0, .e (.lit (.int 1))])]))])] (fun r => ∃ Γ, r = .rt (.c (.bool (areEndsB n d))) Γ ∧ outsOf [false, false] Γ = [.gone, .gone])) := fun h =>
    Run.rt (t := .c (.bool false)) (Γ1 := [.c (.int n), .c d, .gone]) (by simp) ⟨_, by rw [h], rfl⟩
  by_cases ht : isTup d = true
  · obtain ⟨ds, rfl⟩ := isTup_iff.mp ht
    by_cases hl : 1 ≤ ds.length ∧ ds.length ≤ 4
    · refine Run.skip (Γ1 := [.c (.int n), .c (.tuple ds), .gone]) (by simp [g]; split <;> simp <;> omega) ?_
      have hlc : ev F (.lc [2] (.nm 2) (.sq (.var 1)) [] (.call ("is_number" : Str) [.e (.var 2), .e (.lit (.int 0)), .e (.prim .sub [.pk 0, .e (.lit (.int 1))])])) [.c (.int n), .c (.tuple ds), .gone]
          = some (.ok (.l (ds.map fun d => .c (.bool (isNum d 0 ((n : Int) - 1))))) [.c (.int n), .c (.tuple ds), .gone]) := by
        refine lc_map (c := id) (Γ1 := [.c (.int n), .c (.tuple ds), .gone]) _ (by simp) (by simp) (fun x hx => ?_) (sz (by omega))
        exact ⟨[.c (.int n), .c (.tuple ds), .c x], [.c (.int n), .c (.tuple ds), .c x], by simp, by simp [fn, hn _ _ _], by simp⟩
      refine Run.rt (t := .c (.bool (areEndsB n (.tuple ds)))) (Γ1 := [.c (.int n), .c (.tuple ds), .gone]) ?_ ⟨_, rfl, rfl⟩
      simp [hlc, all_m, areEndsB, hl.1, hl.2]
    · refine Run.iteT (Γ1 := [.c (.int n), .c (.tuple ds), .gone]) ?_ (no ?_)
      · by_cases h1 : 1 ≤ ds.length
        · simp [g]; omega
        · simp [g]; omega
      · simp only [areEndsB]
        by_cases h1 : 1 ≤ ds.length
        · have : ¬ ds.length ≤ 4 := fun z => hl ⟨h1, z⟩
          simp [this]
        · simp [h1]
  · refine Run.iteT (Γ1 := [.c (.int n), .c d, .gone]) (by simp [ht]) (no ?_)
    unfold areEndsB; split
    · simp at ht
    · rfl
end Hp
set_option Elab.async false
set_option linter.all false
set_option maxRecDepth 100000
set_option maxHeartbeats 400000
namespace Hp
open PySem PySem.Spec PyProof.Rows L2 Hw
noncomputable def tr (p : Prop) : Bool := @decide p (Classical.propDecidable p)
theorem tr_t {p : Prop} (h : p) : tr p = true := @decide_eq_true p (Classical.propDecidable p) h
theorem tr_f {p : Prop} (h : ¬ p) : tr p = false := @decide_eq_false p (Classical.propDecidable p) h
theorem tr_iff {p : Prop} : tr p = true ↔ p := ⟨fun h => @of_decide_eq_true p (Classical.propDecidable p) h, tr_t⟩
theorem tr_eq {p : Prop} {b : Bool} (h : b = true ↔ p) : tr p = b := by
  cases b with
  | true => exact tr_t (h.mp rfl)
  | false => exact tr_f fun q => by cases h.mpr q
theorem pair_of {α : Type} {R : α → α → Prop} (tr : ∀ a b c, R a b → R b c → R a c) : ∀ {l : List α}, (∀ (k : Nat) a b, l[k]? = some a → l[k + 1]? = some b → R a b) → l.Pairwise R
  | [], _ => .nil
  | [a], _ => by simp
  | a :: b :: l, h => by
    have ih := pair_of tr (l := b :: l) fun k x y hx hy => h (k + 1) x y (by simpa using hx) (by simpa using hy)
    have hab := h 0 a b rfl rfl
    refine List.pairwise_cons.mpr ⟨fun x hx => ?_, ih⟩
    rcases List.mem_cons.mp hx with rfl | hx
    · exact hab
    · exact tr _ _ _ hab ((List.pairwise_cons.mp ih).1 x hx)
theorem tLt_trans (a b c : Tie) (h1 : tLt a b) (h2 : tLt b c) : tLt a c := by unfold tLt at *; omega
theorem sl2_tie (t : Tie) : slEv (.c (tieD t)) none (some 2) = some (.c (.tuple [.int t.i, .int t.j])) := rfl
theorem lt_pair (a b c d : Nat) : cmpEv .Lt (.c (.tuple [.int a, .int b])) (.c (.tuple [.int c, .int d])) = some (decide (a < c ∨ (a = c ∧ b < d))) := by
  have e : HT.lexLt [(a : Int), b] [(c : Int), d] = decide (a < c ∨ (a = c ∧ b < d)) := by
    rw [Bool.eq_iff_iff]
    by_cases h : a = c
    · subst h; simp [HT.lexLt]; try omega
    · have h2 : ¬ ((a : Int) = c) := by omega
      simp [HT.lexLt, h, h2]
  show some (HT.lexLt [(a : Int), b] [(c : Int), d]) = _
  rw [e]
def TiesP (n : Nat) (d : PyData) : Prop := ∃ ts : List Tie, d = .tuple (ts.map tieD) ∧ (∀ t ∈ ts, OkT n t) ∧ ts.Pairwise tLt
theorem ties_of {n : Nat} : ∀ {ds : List PyData}, ds.all (isTieB n) = true → ∃ ts : List Tie, ds = ts.map tieD ∧ ∀ t ∈ ts, OkT n t
  | [], _ => ⟨[], rfl, fun _ h => nomatch h⟩
  | d :: ds, h => by
    rw [List.all_cons, Bool.and_eq_true] at h
    obtain ⟨t, rfl, ht⟩ := isTieB_iff.mp h.1
    obtain ⟨ts, rfl, hs⟩ := ties_of h.2
    exact ⟨t :: ts, rfl, fun x hx => by
      rcases List.mem_cons.mp hx with rfl | hx
      · exact ht
      · exact hs x hx⟩
def szT : PyData → Prop
  | .tuple ds => ds.length ≤ 1000000
  | _ => True
theorem tieD_inj {a b : Tie} (h : tieD a = tieD b) : a = b := by
  cases a; cases b
  simp only [tieD, PyData.tuple.injEq, List.cons.injEq, PyData.int.injEq, Int.natCast_inj, and_true] at h
  obtain ⟨h1, h2, h3⟩ := h
  subst h1 h2 h3; rfl
theorem map_inj {α β : Type} {f : α → β} (hf : ∀ a b, f a = f b → a = b) : ∀ {xs ys : List α}, xs.map f = ys.map f → xs = ys
  | [], [], _ => rfl
  | [], _ :: _, h => by simp at h
  | _ :: _, [], h => by simp at h
  | x :: xs, y :: ys, h => by
    simp only [List.map_cons, List.cons.injEq] at h
    rw [hf _ _ h.1, map_inj hf h.2]
def S_are_ties (run : List Tr → Option FR) : Prop := ∀ (n : Nat) d, szT d → run [.c (.int n), .c d] = some (.ok (.c (.bool (tr (TiesP n d)))) [.gone, .gone])
theorem w_are_ties {F : Genv} (h1 : Fn F "is_tie" S_is_tie) : S_are_ties (r_are_ties F) := by
  obtain ⟨rn, fn, hn⟩ := h1
  intro n d hz
  refine run_ret rfl (by decide) ?_
  by_cases ht : isTup d = true
  · obtain ⟨ds, rfl⟩ := isTup_iff.mp ht
    have hz : ds.length ≤ 1000000 := hz
    have hlc : ev F (.lc [3] (.nm 3) (.sq (.var 1)) [] (.call ("is_tie" : Str) [.e (.var 0), .e (.var 3)])) [.c (.int n), .c (.tuple ds), .gone, .gone]
        = some (.ok (.l (ds.map fun d => .c (.bool (isTieB n d)))) [.c (.int n), .c (.tuple ds), .gone, .gone]) := by
      refine lc_map (c := id) (Γ1 := [.c (.int n), .c (.tuple ds), .gone, .gone]) _ (by simp) (by simp) (fun x hx => ?_) (sz hz)
      exact ⟨[.c (.int n), .c (.tuple ds), .gone, .c x], [.c (.int n), .c (.tuple ds), .gone, .c x], by simp, by simp [fn, hn _ _], by simp⟩
    refine Run.ite (k := !ds.all (isTieB n)) (Γ1 := [.c (.int n), .c (.tuple ds), .gone, .gone]) (by simp [hlc, all_m]) (fun h => ?_) (fun h => Run.nil ?_)
    · have : tr (TiesP n (.tuple ds)) = false := tr_f fun ⟨ts, e, o, _⟩ => by
        cases e
        have : (ts.map tieD).all (isTieB n) = true := by
          rw [List.all_eq_true]
          intro x hx
          obtain ⟨t, ht, rfl⟩ := List.mem_map.mp hx
          exact isTieB_iff.mpr ⟨t, rfl, o t ht⟩
        rw [this] at h; cases h
      exact Run.rt (t := .c (.bool false)) (Γ1 := [.c (.int n), .c (.tuple ds), .gone, .gone]) (by simp) ⟨_, by rw [this], rfl⟩
    · simp only [Bool.not_eq_false'] at h
      obtain ⟨ts, rfl, ho⟩ := ties_of h
      rw [List.length_map] at hz
      let q : Nat → Bool := fun k => match ts[k]?, ts[k + 1]? with
        | some a, some b => decide (tLt a b)
        | _, _ => true
      have hl2 : ev F (.lc [2] (.nm 2) (.rng1 (.prim .sub [.e (.prim (.bi .len) [.pk 1]), .e (.lit (.int 1))])) [] (.prim (.cmp .Lt) [.e (.prim (.sl false true) [.e (.pth 1 [.var 2]), .e (.lit (.int 2))]), .e (.prim (.sl false true) [.e (.pth 1 [.prim .add [.pk 2, .e (.lit (.int 1))]]), .e (.lit (.int 2))])]))
            [.c (.int n), .c (.tuple (ts.map tieD)), .gone, .gone] = some (.ok (.l ((List.range (ts.length - 1)).map fun k => .c (.bool (q k)))) [.c (.int n), .c (.tuple (ts.map tieD)), .gone, .gone]) := by
        refine lc_map (c := fun k : Nat => PyData.int (k : Nat)) (Γ1 := [.c (.int n), .c (.tuple (ts.map tieD)), .gone, .gone]) _ ?_ (by simp) (fun k hk => ?_) (sz (by simp; omega))
        · have e : ((ts.length : Int) - 1).toNat = ts.length - 1 := by omega
          have := rng1_i (F := F) (a := .prim .sub [.e (.prim (.bi .len) [.pk 1]), .e (.lit (.int 1))]) (Γ := [.c (.int n), .c (.tuple (ts.map tieD)), .gone, .gone]) (Γ1 := [.c (.int n), .c (.tuple (ts.map tieD)), .gone, .gone]) (j := (ts.length : Int) - 1) (by simp) (by omega) (by omega)
          rw [e] at this
          exact this
        · have hk := List.mem_range.mp hk
          have h1 : ts[k]? = some ts[k] := List.getElem?_eq_getElem (by omega)
          have h2 : ts[k + 1]? = some ts[k + 1] := List.getElem?_eq_getElem (by omega)
          have e1 : ((k : Int) + 1) = ((k + 1 : Nat) : Int) := by omega
          refine ⟨[.c (.int n), .c (.tuple (ts.map tieD)), .c (.int k), .gone], [.c (.int n), .c (.tuple (ts.map tieD)), .c (.int k), .gone], by simp, ?_, by simp⟩
          have eq : q k = decide (ts[k].i < ts[k + 1].i ∨ (ts[k].i = ts[k + 1].i ∧ ts[k].j < ts[k + 1].j)) := by
            show (match ts[k]?, ts[k + 1]? with
              | some a, some b => decide (tLt a b)
              | _, _ => true) = _
            rw [h1, h2]
            rfl
          simp [h1, h2, e1, sl2_tie, lt_pair, eq, -Int.natCast_add]
      refine Run.rt (t := .c (.bool ((List.range (ts.length - 1)).all q))) (Γ1 := [.c (.int n), .c (.tuple (ts.map tieD)), .gone, .gone]) (by simp [hl2, all_m]) ⟨_, congrArg (fun b => SR.rt (.c (.bool b)) _) (Eq.symm (?_ : tr (TiesP n (.tuple (ts.map tieD))) = (List.range (ts.length - 1)).all q)), rfl⟩
      refine tr_eq ⟨fun h => ⟨ts, rfl, ho, pair_of tLt_trans fun k a b ha hb => ?_⟩, fun ⟨ts', e, _, p⟩ => ?_⟩
      · rw [List.all_eq_true] at h
        have hb' := (List.getElem?_eq_some_iff.mp hb).1
        have := h k (List.mem_range.mpr (by omega))
        simp only [q, ha, hb] at this
        exact of_decide_eq_true this
      · simp only [PyData.tuple.injEq] at e
        have := map_inj (fun a b => tieD_inj) e
        subst this
        rw [List.all_eq_true]
        intro k hk
        have hk := List.mem_range.mp hk
        have h1 : ts[k]? = some ts[k] := List.getElem?_eq_getElem (by omega)
        have h2 : ts[k + 1]? = some ts[k + 1] := List.getElem?_eq_getElem (by omega)
        simp only [q, h1, h2]
        exact decide_eq_true (List.pairwise_iff_getElem.mp p k (k + 1) (by omega) (by omega) (by omega))
  · have : tr (TiesP n d) = false := tr_f fun ⟨ts, e, _⟩ => by subst e; simp at ht
    refine Run.iteT (Γ1 := [.c (.int n), .c d, .gone, .gone]) (by simp [ht]) ?_
    exact Run.rt (t := .c (.bool false)) (Γ1 := [.c (.int n), .c d, .gone, .gone]) (by simp) ⟨_, by rw [this], rfl⟩
def NetP (d : PyData) : Prop := ∃ N, d = netD N ∧ OkN N
def szN : PyData → Prop
  | .tuple [_, _, d] => szT d
  | _ => True
def S_is_net (run : List Tr → Option FR) : Prop := ∀ d, szN d → run [.c d] = some (.ok (.c (.bool (tr (NetP d)))) [.gone])
theorem w_is_net {F : Genv} (h1 : Fn F "is_number" S_is_number) (h2 : Fn F "are_ends" S_are_ends) (h3 : Fn F "are_ties" S_are_ties) (g : F.gl "MOST_PLACES" = some (.int 8)) : S_is_net (r_is_net F) := by
  obtain ⟨rn, fn, hn⟩ := h1
  obtain ⟨re, fe, he⟩ := h2
  obtain ⟨rt, ft, ht⟩ := h3
  intro d hz
  refine run_ret rfl (by decide) ?_
  have no : tr (NetP d) = false → ∀ ss, Run F [.ret (.lit (.bool false))] [.c d] (Aft F ss (fun r => ∃ Γ, r = .rt (.c (.bool (tr (NetP d)))) Γ ∧ outsOf [false] Γ = [.gone])) := fun h ss =>
    Run.rt (t := .c (.bool false)) (Γ1 := [.c d]) (by simp) ⟨_, by rw [h], rfl⟩
  by_cases hT : isTup d = true
  · obtain ⟨ds, rfl⟩ := isTup_iff.mp hT
    by_cases hl : ds.length = 3
    · match ds, hl with
      | [a, b, c], _ =>
        cases ha : isNum a 1 8 with
        | false =>
          refine Run.iteT (Γ1 := [.c (.tuple [a, b, c])]) (by simp [fn, hn _ _ _, g, ha]) (no (tr_f fun ⟨N, e, o⟩ => ?_) _)
          simp only [netD, PyData.tuple.injEq, List.cons.injEq] at e
          obtain ⟨rfl, _⟩ := e
          have := o.n1; have := o.n8
          simp only [isNum_i, Bool.and_eq_false_iff, decide_eq_false_iff_not] at ha
          omega
        | true =>
          refine Run.skip (Γ1 := [.c (.tuple [a, b, c])]) (by simp [fn, hn _ _ _, g, ha]) ?_
          obtain ⟨i, rfl, i0, i1⟩ := isNum_iff.mp ha
          obtain ⟨n, rfl⟩ : ∃ n : Nat, i = n := ⟨i.toNat, by omega⟩
          have : tr (NetP (.tuple [.int n, b, c])) = (areEndsB n b && tr (TiesP n c)) := by
            refine tr_eq ⟨fun h => ?_, fun ⟨N, e, o⟩ => ?_⟩
            · rw [Bool.and_eq_true] at h
              obtain ⟨es, rfl, e1, e4, ee⟩ := areEndsB_iff.mp h.1
              obtain ⟨ts, rfl, t1, t2⟩ := tr_iff.mp h.2
              exact ⟨⟨n, es, ts⟩, rfl, ⟨by show 1 ≤ n; omega, by show n ≤ 8; omega, e1, e4, ee, t1, t2⟩⟩
            · simp only [netD, PyData.tuple.injEq, List.cons.injEq, PyData.int.injEq, Int.natCast_inj, and_true] at e
              obtain ⟨rfl, rfl, rfl⟩ := e
              rw [Bool.and_eq_true]
              exact ⟨areEndsB_iff.mpr ⟨_, rfl, o.e1, o.e4, o.e⟩, tr_t ⟨_, rfl, o.t, o.s⟩⟩
          have q := ht n c hz
          refine Run.rt (t := .c (.bool (areEndsB n b && tr (TiesP n c)))) (Γ1 := [.c (.tuple [.int n, b, c])]) ?_ ⟨_, by rw [this], rfl⟩
          cases hb : areEndsB n b <;> simp [fe, he _ _, ft, q, hb]
    · refine Run.iteT (Γ1 := [.c (.tuple ds)]) (by simp; omega) (no (tr_f fun ⟨N, e, o⟩ => ?_) _)
      simp only [netD, PyData.tuple.injEq] at e
      subst e; simp at hl
  · exact Run.iteT (Γ1 := [.c d]) (by simp [hT]) (no (tr_f fun ⟨N, e, o⟩ => by subst e; simp [netD] at hT) _)
theorem OkN.szN {N : Net} (o : OkN N) : szN (netD N) := by
  show (N.ties.map tieD).length ≤ 1000000
  have := o.tlen
  rw [List.length_map]; omega
def S_need_net (run : List Tr → Option FR) : Prop := (∀ N, OkN N → run [.c (netD N)] = some (.ok (.c .none) [.gone])) ∧ ∀ d, szN d → ¬ NetP d → run [.c d] = some (.ex "NoNet")
theorem w_need_net {F : Genv} (h1 : Fn F "is_net" S_is_net) : S_need_net (r_need_net F) := by
  obtain ⟨rn, fn, hn⟩ := h1
  refine ⟨fun N o => run_none rfl (by decide) ?_, fun d hz np => ?_⟩
  · have q := hn _ o.szN
    rw [tr_t ⟨N, rfl, o⟩] at q
    exact Run.skip (Γ1 := [.c (netD N)]) (by simp [fn, q]) (Run.nil ⟨_, rfl, rfl⟩)
  · have q := hn _ hz
    rw [tr_f np] at q
    obtain ⟨r, e, h⟩ := run_of (F := F) (n := 1) (ps := [false]) (body := b_need_net) (ts := [.c d]) (Q := fun r => r = .ex "NoNet") rfl (by decide) (Run.iteT (Γ1 := [.c d]) (by simp [fn, q]) (Run.ex (x := "NoNet") (Γ1 := [.c d]) (by simp) rfl))
    rw [h] at e
    exact e
end Hp
set_option Elab.async false
set_option linter.all false
set_option maxRecDepth 100000
set_option maxHeartbeats 400000
namespace Hp
open PySem PySem.Spec PyProof.Rows L2 Hw
def LineP (n e : Nat) (high : Int) (d : PyData) : Prop := ∃ l, d = lnD l ∧ OkL high n e l
theorem line_of {high : Int} : ∀ {ds : List PyData}, (ds.all fun d => isNum d 0 high) = true → ∃ l : List Int, ds = l.map iD ∧ ∀ x ∈ l, 0 ≤ x ∧ x ≤ high
  | [], _ => ⟨[], rfl, fun _ h => nomatch h⟩
  | d :: ds, h => by
    rw [List.all_cons, Bool.and_eq_true] at h
    obtain ⟨i, rfl, i0, i1⟩ := isNum_iff.mp h.1
    obtain ⟨l, rfl, hl⟩ := line_of h.2
    exact ⟨i :: l, rfl, fun x m => by
      rcases List.mem_cons.mp m with rfl | m
      · exact ⟨i0, i1⟩
      · exact hl x m⟩
theorem iD_inj {a b : Int} (h : iD a = iD b) : a = b := by simpa [iD] using h
theorem lnD_inj {a b : List Int} (h : lnD a = lnD b) : a = b := by
  simp only [lnD, PyData.tuple.injEq] at h
  exact map_inj (fun a b => iD_inj) h
def S_is_line (run : List Tr → Option FR) : Prop := ∀ (n e : Nat) d (high : Int), n ≤ 8 → e < n → run [.c (.int n), .c (.int e), .c d, .c (.int high)] = some (.ok (.c (.bool (tr (LineP n e high d)))) [.gone, .gone, .gone, .gone])
theorem w_is_line {F : Genv} (h1 : Fn F "is_number" S_is_number) : S_is_line (r_is_line F) := by
  obtain ⟨rn, fn, hn⟩ := h1
  intro n e d high hn8 he
  refine run_ret rfl (by decide) ?_
  have no : tr (LineP n e high d) = false → ∀ ss, Run F [.ret (.lit (.bool false))] [.c (.int n), .c (.int e), .c d, .c (.int high), .gone] (Aft F ss (fun r => ∃ Γ, r = .rt (.c (.bool (tr (LineP n e high d)))) Γ ∧ outsOf [false, false, false, false] Γ = [.gone, .gone, .gone, .gone])) := fun h ss =>
    Run.rt (t := .c (.bool false)) (Γ1 := [.c (.int n), .c (.int e), .c d, .c (.int high), .gone]) (by simp) ⟨_, by rw [h], rfl⟩
  by_cases hT : isTup d = true
  · obtain ⟨ds, rfl⟩ := isTup_iff.mp hT
    by_cases hl : ds.length = n
    · have hlc : ev F (.lc [4] (.nm 4) (.sq (.var 2)) [] (.call ("is_number" : Str) [.e (.var 4), .e (.lit (.int 0)), .e (.var 3)])) [.c (.int n), .c (.int e), .c (.tuple ds), .c (.int high), .gone]
          = some (.ok (.l (ds.map fun d => .c (.bool (isNum d 0 high)))) [.c (.int n), .c (.int e), .c (.tuple ds), .c (.int high), .gone]) := by
        refine lc_map (c := id) (Γ1 := [.c (.int n), .c (.int e), .c (.tuple ds), .c (.int high), .gone]) _ (by simp) (by simp) (fun x hx => ?_) (sz (by omega))
        exact ⟨[.c (.int n), .c (.int e), .c (.tuple ds), .c (.int high), .c x], [.c (.int n), .c (.int e), .c (.tuple ds), .c (.int high), .c x], by simp, by simp [fn, hn _ _ _], by simp⟩
      cases ha : ds.all fun d => isNum d 0 high with
      | false =>
        refine Run.iteT (Γ1 := [.c (.int n), .c (.int e), .c (.tuple ds), .c (.int high), .gone]) (by simp [hl, hlc, all_m, ha]) (no (tr_f fun ⟨l, e1, o⟩ => ?_) _)
        simp only [lnD, PyData.tuple.injEq] at e1
        subst e1
        rw [List.all_eq_false] at ha
        obtain ⟨x, hx, hx2⟩ := ha
        obtain ⟨i, hi, rfl⟩ := List.mem_map.mp hx
        have := o.b i hi
        simp [iD] at hx2
        omega
      | true =>
        refine Run.skip (Γ1 := [.c (.int n), .c (.int e), .c (.tuple ds), .c (.int high), .gone]) (by simp [hl, hlc, all_m, ha]) ?_
        obtain ⟨l, rfl, hb⟩ := line_of ha
        rw [List.length_map] at hl
        have h1 : l[e]? = some l[e] := List.getElem?_eq_getElem (by omega)
        have : tr (LineP n e high (.tuple (l.map iD))) = decide (l[e] = 0) := tr_eq ⟨fun h => ⟨l, rfl, hl, hb, by rw [h1, of_decide_eq_true h]⟩, fun ⟨l', e', o⟩ => by
          have := lnD_inj (a := l) (b := l') e'
          subst this
          have := o.z
          rw [h1] at this
          exact decide_eq_true (by simpa using this)⟩
        exact Run.rt (t := .c (.bool (decide (l[e] = 0)))) (Γ1 := [.c (.int n), .c (.int e), .c (.tuple (l.map iD)), .c (.int high), .gone]) (by simp [h1, iD]) ⟨_, by rw [this], rfl⟩
    · refine Run.iteT (Γ1 := [.c (.int n), .c (.int e), .c (.tuple ds), .c (.int high), .gone]) (by simp [hl]) (no (tr_f fun ⟨l, e1, o⟩ => ?_) _)
      simp only [lnD, PyData.tuple.injEq] at e1
      subst e1
      have := o.len
      simp at hl; omega
  · exact Run.iteT (Γ1 := [.c (.int n), .c (.int e), .c d, .c (.int high), .gone]) (by simp [hT]) (no (tr_f fun ⟨l, e1, o⟩ => by subst e1; simp [lnD] at hT) _)
def LinesP (N : Net) (high : Int) (d : PyData) : Prop := ∃ h, d = hD h ∧ OkH high N h
theorem zip_all {N : Net} {high : Int} : ∀ {es : List Nat} {ds : List PyData}, ds.length = es.length → (((es.map nD).zip ds).all fun p => match p.1 with | .int e => tr (LineP N.n e.toNat high p.2) | _ => false) = true →
    ∃ h : List (List Int), ds = h.map lnD ∧ ∀ (k e : Nat) l, es[k]? = some e → h[k]? = some l → OkL high N.n e l
  | [], [], _, _ => ⟨[], rfl, fun k e l h => by simp at h⟩
  | [], _ :: _, h, _ => by simp at h
  | _ :: _, [], h, _ => by simp at h
  | e :: es, d :: ds, hl, h => by
    simp only [List.map_cons, List.zip_cons_cons, List.all_cons, Bool.and_eq_true, nD, Int.toNat_natCast] at h
    obtain ⟨l, rfl, o⟩ := tr_iff.mp h.1
    obtain ⟨h', rfl, q⟩ := zip_all (N := N) (high := high) (es := es) (ds := ds) (by simpa using hl) h.2
    refine ⟨l :: h', rfl, fun k e' l' h1 h2 => ?_⟩
    cases k with
    | zero => simp at h1 h2; subst h1 h2; exact o
    | succ k => exact q k e' l' (by simpa using h1) (by simpa using h2)
def S_are_lines (run : List Tr → Option FR) : Prop := ∀ N d (high : Int), OkN N → run [.c (netD N), .c d, .c (.int high)] = some (.ok (.c (.bool (tr (LinesP N high d)))) [.gone, .gone, .gone])
theorem w_are_lines {F : Genv} (h1 : Fn F "is_line" S_is_line) : S_are_lines (r_are_lines F) := by
  obtain ⟨rn, fn, hn⟩ := h1
  intro N d high o
  refine run_ret rfl (by decide) ?_
  have no : tr (LinesP N high d) = false → ∀ ss, Run F [.ret (.lit (.bool false))] [.c (netD N), .c d, .c (.int high), .gone, .gone] (Aft F ss (fun r => ∃ Γ, r = .rt (.c (.bool (tr (LinesP N high d)))) Γ ∧ outsOf [false, false, false] Γ = [.gone, .gone, .gone])) := fun h ss =>
    Run.rt (t := .c (.bool false)) (Γ1 := [.c (netD N), .c d, .c (.int high), .gone, .gone]) (by simp) ⟨_, by rw [h], rfl⟩
  by_cases hT : isTup d = true
  · obtain ⟨ds, rfl⟩ := isTup_iff.mp hT
    by_cases hl : ds.length = N.ends.length
    · refine Run.skip (Γ1 := [.c (netD N), .c (.tuple ds), .c (.int high), .gone, .gone]) (by simp [netD, hl]) ?_
      let q : PyData × PyData → Bool := fun p => match p.1 with | .int e => tr (LineP N.n e.toNat high p.2) | _ => false
      have hlc : ev F (.lc [3, 4] (.tp [3, 4]) (.zip [.e (.pth 0 [.lit (.int 1)]), .e (.var 1)]) [] (.call ("is_line" : Str) [.e (.pth 0 [.lit (.int 0)]), .e (.var 3), .e (.var 4), .e (.var 2)])) [.c (netD N), .c (.tuple ds), .c (.int high), .gone, .gone]
          = some (.ok (.l (((N.ends.map nD).zip ds).map fun p => .c (.bool (q p)))) [.c (netD N), .c (.tuple ds), .c (.int high), .gone, .gone]) := by
        refine lc_map (c := fun p : PyData × PyData => .tuple [p.1, p.2]) (Γ1 := [.c (netD N), .c (.tuple ds), .c (.int high), .gone, .gone]) _ (by simp [netD, seqD]) (by simp) (fun p hp => ?_) (sz (by
          have := o.e4
          rw [List.length_zip, List.length_map]; omega))
        have hp1 := (List.of_mem_zip (a := p.1) (b := p.2) hp).1
        obtain ⟨e, he, hp1⟩ := List.mem_map.mp hp1
        refine ⟨[.c (netD N), .c (.tuple ds), .c (.int high), .c p.1, .c p.2], [.c (netD N), .c (.tuple ds), .c (.int high), .c p.1, .c p.2], by simp, ?_, by simp⟩
        have := hn N.n e p.2 high o.n8 (o.e e he)
        have eq : q p = tr (LineP N.n e high p.2) := by
          simp only [q, ← hp1, nD, Int.toNat_natCast]
        rw [eq, ← hp1]
        simp [netD, nD, fn, this]
      have : tr (LinesP N high (.tuple ds)) = ((N.ends.map nD).zip ds).all q := tr_eq ⟨fun h => ?_, fun ⟨h, e, oh⟩ => ?_⟩
      · refine Run.rt (t := .c (.bool (((N.ends.map nD).zip ds).all q))) (Γ1 := [.c (netD N), .c (.tuple ds), .c (.int high), .gone, .gone]) ?_ ⟨_, by rw [this], rfl⟩
        simp [hlc, all_m]
      · obtain ⟨h', e, p⟩ := zip_all hl h
        subst e
        exact ⟨h', rfl, by simpa using hl, p⟩
      · simp only [hD, PyData.tuple.injEq] at e
        subst e
        rw [List.all_eq_true]
        intro p hp
        obtain ⟨k, hk⟩ := List.mem_iff_getElem?.mp hp
        rw [List.getElem?_zip_eq_some, List.getElem?_map, List.getElem?_map] at hk
        obtain ⟨e, h1, h2⟩ := Option.map_eq_some_iff.mp hk.1
        obtain ⟨l, h3, h4⟩ := Option.map_eq_some_iff.mp hk.2
        simp only [q, ← h2, ← h4, nD, Int.toNat_natCast]
        exact tr_t ⟨l, rfl, oh.l k e l h1 h3⟩
    · refine Run.iteT (Γ1 := [.c (netD N), .c (.tuple ds), .c (.int high), .gone, .gone]) (by simp [netD, hl]) (no (tr_f fun ⟨h, e, oh⟩ => ?_) _)
      simp only [hD, PyData.tuple.injEq] at e
      subst e
      have := oh.len
      simp at hl; omega
  · exact Run.iteT (Γ1 := [.c (netD N), .c d, .c (.int high), .gone, .gone]) (by simp [hT]) (no (tr_f fun ⟨l, e1, o⟩ => by subst e1; simp [hD] at hT) _)
def S_need_lines (high : Int) (x : Str) (run : List Tr → Option FR) : Prop := (∀ N h, OkN N → OkH high N h → run [.c (netD N), .c (hD h)] = some (.ok (.c .none) [.gone, .gone])) ∧ ∀ N d, OkN N → ¬ LinesP N high d → run [.c (netD N), .c d] = some (.ex x)
theorem w_need_heaps {F : Genv} (h1 : Fn F "are_lines" S_are_lines) (g : F.gl "MOST_HEAP" = some (.int 1000000000)) : S_need_lines 1000000000 "NoHeaps" (r_need_heaps F) := by
  obtain ⟨rn, fn, hn⟩ := h1
  refine ⟨fun N h o oh => run_none rfl (by decide) ?_, fun N d o np => ?_⟩
  · have q := hn N (hD h) 1000000000 o
    rw [tr_t ⟨h, rfl, oh⟩] at q
    exact Run.skip (Γ1 := [.c (netD N), .c (hD h)]) (by simp [fn, q, g]) (Run.nil ⟨_, rfl, rfl⟩)
  · have q := hn N d 1000000000 o
    rw [tr_f np] at q
    obtain ⟨r, e, h⟩ := run_of (F := F) (n := 2) (ps := [false, false]) (body := b_need_heaps) (ts := [.c (netD N), .c d]) (Q := fun r => r = .ex "NoHeaps") rfl (by decide) (Run.iteT (Γ1 := [.c (netD N), .c d]) (by simp [fn, q, g]) (Run.ex (x := "NoHeaps") (Γ1 := [.c (netD N), .c d]) (by simp) rfl))
    rw [h] at e
    exact e
theorem w_need_comers {F : Genv} (h1 : Fn F "are_lines" S_are_lines) (g : F.gl "MOST_COMING" = some (.int 9)) : S_need_lines 9 "NoComers" (r_need_comers F) := by
  obtain ⟨rn, fn, hn⟩ := h1
  refine ⟨fun N h o oh => run_none rfl (by decide) ?_, fun N d o np => ?_⟩
  · have q := hn N (hD h) 9 o
    rw [tr_t ⟨h, rfl, oh⟩] at q
    exact Run.skip (Γ1 := [.c (netD N), .c (hD h)]) (by simp [fn, q, g]) (Run.nil ⟨_, rfl, rfl⟩)
  · have q := hn N d 9 o
    rw [tr_f np] at q
    obtain ⟨r, e, h⟩ := run_of (F := F) (n := 2) (ps := [false, false]) (body := b_need_comers) (ts := [.c (netD N), .c d]) (Q := fun r => r = .ex "NoComers") rfl (by decide) (Run.iteT (Γ1 := [.c (netD N), .c d]) (by simp [fn, q, g]) (Run.ex (x := "NoComers") (Γ1 := [.c (netD N), .c d]) (by simp) rfl))
    rw [h] at e
    exact e
end Hp
set_option Elab.async false
set_option linter.all false
set_option maxRecDepth 100000
set_option maxHeartbeats 400000
namespace Hp
open PySem PySem.Spec PyProof.Rows L2 Hw
def sm (i : Int) : Prop := i.natAbs < 2 ^ 200
theorem sm64 {i : Int} (h : i.natAbs < 2 ^ 64) : sm i := Nat.lt_of_lt_of_le h (by decide)
theorem mul_sm {i j : Int} (h : sm i) (k : sm j) : mulEv (.c (.int i)) (.c (.int j)) = some (.c (.int (i * j))) := by
  have a : i.natAbs.log2 < 200 := lg_lt h (by decide)
  have b : j.natAbs.log2 < 200 := lg_lt k (by decide)
  simp only [mulEv, asInt_c]
  rw [if_pos (by omega)]
  rfl
theorem take_snoc {α : Type} {xs : List α} {i : Nat} {x : α} (h : xs[i]? = some x) : xs.take (i + 1) = xs.take i ++ [x] := by
  rw [List.take_add_one, h]; rfl
theorem take_sum {α : Type} {f : α → Int} {xs : List α} {i : Nat} {x : α} (h : xs[i]? = some x) : ((xs.take (i + 1)).map f).sum = ((xs.take i).map f).sum + f x := by
  rw [take_snoc h]; simp
theorem take_map {α β : Type} {f : α → β} {xs : List α} {i : Nat} {x : α} (h : xs[i]? = some x) : (xs.take (i + 1)).map f = (xs.take i).map f ++ [f x] := by
  rw [take_snoc h]; simp
structure Sh (N : Net) (h : List (List Int)) : Prop where
  len : h.length = N.ends.length
  l : ∀ l ∈ h, l.length = N.n
theorem OkH.sh {high : Int} {N : Net} {h : List (List Int)} (o : OkH high N h) : Sh N h := ⟨o.len, fun l hl => by
  obtain ⟨k, hk⟩ := List.mem_iff_getElem?.mp hl
  have h1 := (List.getElem?_eq_some_iff.mp hk).1
  have := o.len
  exact (o.l k _ l (List.getElem?_eq_getElem (by omega)) hk).len⟩
theorem OkH.b {high : Int} {N : Net} {h : List (List Int)} (o : OkH high N h) : ∀ l ∈ h, ∀ x ∈ l, 0 ≤ x ∧ x ≤ high := fun l hl => by
  obtain ⟨k, hk⟩ := List.mem_iff_getElem?.mp hl
  have h1 := (List.getElem?_eq_some_iff.mp hk).1
  have := o.len
  exact (o.l k _ l (List.getElem?_eq_getElem (by omega)) hk).b
def cell (h : List (List Int)) (k p : Nat) : Int := ((h[k]?.getD [])[p]?).getD 0
theorem Sh.get {N : Net} {h : List (List Int)} (s : Sh N h) {k p : Nat} (hk : k < N.ends.length) (hp : p < N.n) : ∃ l, h[k]? = some l ∧ l[p]? = some (cell h k p) ∧ l ∈ h := by
  have h1 : k < h.length := by rw [s.len]; exact hk
  have e : h[k]? = some h[k] := List.getElem?_eq_getElem h1
  have h2 := s.l _ (List.getElem_mem h1)
  have h3 : h[k][p]? = some h[k][p] := List.getElem?_eq_getElem (by omega)
  refine ⟨_, e, ?_, List.getElem_mem h1⟩
  unfold cell
  rw [e]
  show h[k][p]? = some ((h[k][p]?).getD 0)
  rw [h3]; rfl
def fallA (h : List (List Int)) (k : Nat) (t : Tie) : Int := cell h k t.i - cell h k t.j
@[simp] theorem kD_s (k : Nat) : kD (some k) = .int (k : Nat) := rfl
@[simp] theorem kD_n : kD none = .none := rfl
def S_fall_along (run : List Tr → Option FR) : Prop := ∀ N h (k : Nat) t, Sh N h → k < N.ends.length → OkT N.n t → run [.c (hD h), .c (.int k), .c (tieD t)] = some (.ok (.c (.int (fallA h k t))) [.gone, .gone, .gone])
theorem w_fall_along (F : Genv) : S_fall_along (r_fall_along F) := by
  intro N h k t s hk o
  refine run_ret rfl (by decide) ?_
  obtain ⟨l, e1, e2, _⟩ := s.get hk o.i
  obtain ⟨l', e3, e4, _⟩ := s.get hk o.j
  rw [e1] at e3; cases e3
  exact Run.rt (t := .c (.int (fallA h k t))) (Γ1 := [.c (hD h), .c (.int k), .c (tieD t)]) (by simp [hD, tieD, lnD, iD, e1, e2, e4, fallA]) ⟨_, rfl, rfl⟩
def betterB (h : List (List Int)) (t : Tie) (best : Option Nat) (k : Nat) : Bool := decide (0 < fallA h k t) && (match best with
  | none => true
  | some b => decide (fallA h b t < fallA h k t))
def stepO (h : List (List Int)) (t : Tie) (best : Option Nat) (k : Nat) : Option Nat := if betterB h t best k = true then some k else best
def offerA (h : List (List Int)) (t : Tie) : Option Nat := (List.range h.length).foldl (stepO h t) none
def S_offer_along (run : List Tr → Option FR) : Prop := ∀ N h t, OkN N → Sh N h → OkT N.n t → run [.c (hD h), .c (tieD t)] = some (.ok (.c (kD (offerA h t))) [.gone, .gone])
theorem w_offer_along {F : Genv} (h1 : Fn F "fall_along" S_fall_along) : S_offer_along (r_offer_along F) := by
  obtain ⟨rf, ff, hf⟩ := h1
  intro N h t o s ot
  refine run_ret rfl (by decide) ?_
  refine Run.nx (Γ1 := [.c (hD h), .c (tieD t), .c .none, .gone, .gone]) (by simp) ?_
  have l4 := o.e4
  have hl := s.len
  refine Run.forM (c := fun k : Nat => PyData.int (k : Nat)) (xs := List.range h.length) (Γ1 := [.c (hD h), .c (tieD t), .c .none, .gone, .gone])
    (fun i Γ => ∃ b j1 j2, Γ = [.c (hD h), .c (tieD t), .c (kD b), j1, j2] ∧ b = ((List.range h.length).take i).foldl (stepO h t) none ∧ ∀ k, b = some k → k < N.ends.length) ?_ ⟨none, _, _, rfl, rfl, fun _ z => nomatch z⟩ ?_ ?_
  · exact rng1_n (by simp [hD]) (by omega)
  · rintro i k Γ hi ⟨b, j1, j2, rfl, eb, hb⟩
    have hk : k < N.ends.length := by have := List.mem_range.mp (List.mem_of_getElem? hi); omega
    refine ⟨[.c (hD h), .c (tieD t), .c (kD b), .c (.int k), j2], by simp, ?_⟩
    refine Run.nx (Γ1 := [.c (hD h), .c (tieD t), .c (kD b), .c (.int k), .c (.int (fallA h k t))]) (by simp [ff, hf N h k t s hk ot]) ?_
    refine Run.ite (k := betterB h t b k) (Γ1 := [.c (hD h), .c (tieD t), .c (kD b), .c (.int k), .c (.int (fallA h k t))]) ?_ (fun z => ?_) (fun z => ?_)
    · cases b with
      | none => by_cases q : 0 < fallA h k t <;> simp [q, betterB]
      | some b =>
        have hb' := hb b rfl
        by_cases q : 0 < fallA h k t <;> simp [q, ff, hf N h b t s hb' ot, betterB]
    · refine Run.nx (Γ1 := [.c (hD h), .c (tieD t), .c (.int k), .c (.int k), .c (.int (fallA h k t))]) (by simp) (Run.nil (Run.nil ⟨some k, _, _, rfl, ?_, fun _ e => by cases e; exact hk⟩))
      rw [take_snoc hi, List.foldl_append, ← eb]
      show some k = stepO h t b k
      unfold stepO
      rw [if_pos z]
    · refine Run.nil (Run.nil ⟨b, _, _, rfl, ?_, hb⟩)
      rw [take_snoc hi, List.foldl_append, ← eb]
      show b = stepO h t b k
      unfold stepO
      rw [if_neg (by rw [z]; exact Bool.false_ne_true)]
  · rintro Γ ⟨b, j1, j2, rfl, eb, hb⟩
    rw [List.take_length] at eb
    have : b = offerA h t := eb
    subst this
    exact Run.rt (t := .c (kD (offerA h t))) (Γ1 := [.c (hD h), .c (tieD t), .gone, j1, j2]) (by simp) ⟨_, rfl, rfl⟩
def S_all_ties (run : List Tr → Option FR) : Prop := ∀ N, OkN N → run [.c (netD N)] = some (.ok (.c (.tuple ((List.range N.ties.length).map nD))) [.gone])
theorem w_all_ties (F : Genv) : S_all_ties (r_all_ties F) := by
  intro N o
  have := o.tlen
  refine run_ret rfl (by decide) (Run.rt (t := .c (.tuple ((List.range N.ties.length).map nD))) (Γ1 := [.c (netD N)]) ?_ ⟨_, rfl, rfl⟩)
  have e := trg_n (n := N.ties.length) (by omega)
  simp [netD, e]
  intro a _; rfl
theorem in_nats (k : Nat) (st : List Nat) : cmpEv .In (.c (.int k)) (.c (.tuple (st.map nD))) = some (decide (k ∈ st)) := by
  have e : ((st.map nD).any fun z => PyData.eqv z (.int (k : Nat))) = decide (k ∈ st) := by
    rw [Bool.eq_iff_iff]
    simp only [List.any_map, List.any_eq_true, decide_eq_true_eq, Function.comp_apply]
    constructor
    · rintro ⟨x, hx, e⟩
      have e : decide ((x : Int) = k) = true := e
      have : x = k := by have := of_decide_eq_true e; omega
      subst this; exact hx
    · intro hk
      exact ⟨k, hk, (decide_eq_true rfl : decide ((k : Int) = k) = true)⟩
  have f : (st.map nD).all flatD = true := by
    rw [List.all_eq_true]
    intro x hx
    obtain ⟨y, _, rfl⟩ := List.mem_map.mp hx
    rfl
  have e0 : cmpEv .In (.c (.int k)) (.c (.tuple (st.map nD))) = inEv (.c (.int k)) (.c (.tuple (st.map nD))) := rfl
  rw [e0]
  simp [inEv, f, e]
def offO (N : Net) (h : List (List Int)) (st : List Nat) : List (Option Nat) := N.ties.zipIdx.map fun p => if p.2 ∈ st then offerA h p.1 else none
theorem offO_all (N : Net) (h : List (List Int)) : offO N h (List.range N.ties.length) = N.ties.map (offerA h) := by
  unfold offO
  apply List.ext_getElem?
  intro i
  simp only [List.getElem?_map, List.getElem?_zipIdx]
  cases e : N.ties[i]? with
  | none => rfl
  | some t =>
    have := (List.getElem?_eq_some_iff.mp e).1
    simp
    intro z
    omega
def S_offer_over (run : List Tr → Option FR) : Prop := ∀ N h st, OkN N → Sh N h → run [.c (netD N), .c (hD h), .c (.tuple (st.map nD))] = some (.ok (mpT kD (offO N h st)) [.gone, .gone, .gone])
theorem w_offer_over {F : Genv} (h1 : Fn F "offer_along" S_offer_along) : S_offer_over (r_offer_over F) := by
  obtain ⟨rf, ff, hf⟩ := h1
  intro N h st o s
  refine run_ret rfl (by decide) ?_
  refine Run.nx (Γ1 := [.c (netD N), .c (hD h), .c (.tuple (st.map nD)), .l [], .gone, .gone]) (by simp) ?_
  have l64 := o.tlen
  refine Run.forM (c := fun p : Tie × Nat => PyData.tuple [.int (p.2 : Nat), tieD p.1]) (xs := N.ties.zipIdx) (Γ1 := [.c (netD N), .c (hD h), .c (.tuple (st.map nD)), .l [], .gone, .gone])
    (fun i Γ => ∃ j1 j2, Γ = [.c (netD N), .c (hD h), .c (.tuple (st.map nD)), mpT kD ((N.ties.zipIdx.take i).map fun p => if p.2 ∈ st then offerA h p.1 else none), j1, j2]) ?_ ⟨_, _, rfl⟩ ?_ ?_
  · simp [netD, List.zipIdx_map]
  · rintro i p Γ hi ⟨j1, j2, rfl⟩
    have hp : p.1 ∈ N.ties := by
      have := List.mem_of_getElem? hi
      exact (List.mem_zipIdx_iff_getElem? (x := p)).mp this |> List.mem_of_getElem?
    have hl := (List.getElem?_eq_some_iff.mp hi).1
    rw [List.length_zipIdx] at hl
    have hs : i < sizeLine := Nat.lt_of_lt_of_le hl (sz (by omega))
    have hle : i ≤ N.ties.length := by omega
    refine ⟨[.c (netD N), .c (hD h), .c (.tuple (st.map nD)), mpT kD ((N.ties.zipIdx.take i).map fun p => if p.2 ∈ st then offerA h p.1 else none), .c (.int (p.2 : Nat)), .c (tieD p.1)], by simp, ?_⟩
    refine Run.ite (k := decide (p.2 ∈ st)) (Γ1 := [.c (netD N), .c (hD h), .c (.tuple (st.map nD)), mpT kD ((N.ties.zipIdx.take i).map fun p => if p.2 ∈ st then offerA h p.1 else none), .c (.int (p.2 : Nat)), .c (tieD p.1)]) (by simp [in_nats]) (fun z => ?_) (fun z => ?_)
    · have z := of_decide_eq_true z
      refine Run.nx (Γ1 := [.c (netD N), .c (hD h), .c (.tuple (st.map nD)), mpT kD ((N.ties.zipIdx.take (i + 1)).map fun p => if p.2 ∈ st then offerA h p.1 else none), .c (.int (p.2 : Nat)), .c (tieD p.1)]) ?_ (Run.nil (Run.nil ⟨_, _, rfl⟩))
      rw [take_snoc hi]
      simp [mpT, ff, hf N h p.1 o s (o.t _ hp), z, hs, hle, Nat.min_eq_left hle]
    · have z := of_decide_eq_false z
      refine Run.nx (Γ1 := [.c (netD N), .c (hD h), .c (.tuple (st.map nD)), mpT kD ((N.ties.zipIdx.take (i + 1)).map fun p => if p.2 ∈ st then offerA h p.1 else none), .c (.int (p.2 : Nat)), .c (tieD p.1)]) ?_ (Run.nil (Run.nil ⟨_, _, rfl⟩))
      rw [take_snoc hi]
      simp [mpT, z, hs, hle, Nat.min_eq_left hle]
  · rintro Γ ⟨j1, j2, rfl⟩
    rw [List.take_length]
    exact Run.rt (t := mpT kD (offO N h st)) (Γ1 := [.c (netD N), .c (hD h), .c (.tuple (st.map nD)), .gone, j1, j2]) (by simp [mpT, offO]) ⟨_, rfl, rfl⟩
def S_offer (run : List Tr → Option FR) : Prop := ∀ N h, OkN N → OkH 1000000000 N h → run [.c (netD N), .c (hD h)] = some (.ok (mpT kD (N.ties.map (offerA h))) [.gone, .gone])
theorem w_offer {F : Genv} (h1 : Fn F "need_net" S_need_net) (h2 : Fn F "need_heaps" (S_need_lines 1000000000 "NoHeaps")) (h3 : Fn F "offer_over" S_offer_over) (h4 : Fn F "all_ties" S_all_ties) : S_offer (r_offer F) := by
  obtain ⟨r1, f1, q1⟩ := h1
  obtain ⟨r2, f2, q2⟩ := h2
  obtain ⟨r3, f3, q3⟩ := h3
  obtain ⟨r4, f4, q4⟩ := h4
  intro N h o oh
  refine run_ret rfl (by decide) ?_
  refine Run.nx (Γ1 := [.c (netD N), .c (hD h)]) (by simp [f1, q1.1 N o]) ?_
  refine Run.nx (Γ1 := [.c (netD N), .c (hD h)]) (by simp [f2, q2.1 N h o oh]) ?_
  have e := q3 N h (List.range N.ties.length) o oh.sh
  rw [offO_all] at e
  exact Run.rt (t := mpT kD (N.ties.map (offerA h))) (Γ1 := [.c (netD N), .c (hD h)]) (by simp [f3, f4, q4 N o, e]) ⟨_, rfl, rfl⟩
end Hp
set_option Elab.async false
set_option linter.all false
set_option maxRecDepth 100000
set_option maxHeartbeats 400000
namespace Hp
open PySem PySem.Spec PyProof.Rows L2 Hw
structure CD (k : Nat) (d : PyData) : Prop where
  nd : noDict d = true
  cl : PyData.canLay0 d = true
  dp : PyData.depth d ≤ k
structure PD (k s : Nat) (d : PyData) : Prop extends CD k d where
  sh : PyData.showable d = true
  sz : szD d ≤ s
theorem CD.mono {k k' : Nat} {d : PyData} (h : CD k d) (l : k ≤ k') : CD k' d := ⟨h.nd, h.cl, Nat.le_trans h.dp l⟩
theorem PD.mono {k s k' s' : Nat} {d : PyData} (h : PD k s d) (l : k ≤ k') (m : s ≤ s') : PD k' s' d := ⟨h.toCD.mono l, h.sh, Nat.le_trans h.sz m⟩
theorem CD.int {k : Nat} (i : Int) : CD k (.int i) := ⟨rfl, rfl, Nat.zero_le _⟩
theorem CD.none {k : Nat} : CD k .none := ⟨rfl, rfl, Nat.zero_le _⟩
theorem CD.bool {k : Nat} (b : Bool) : CD k (.bool b) := ⟨rfl, rfl, Nat.zero_le _⟩
theorem nd_all : ∀ {ds : List PyData}, (∀ d ∈ ds, noDict d = true) → noDict.noDictL ds = true
  | [], _ => rfl
  | d :: ds, h => by unfold noDict.noDictL; rw [h d List.mem_cons_self, nd_all fun x hx => h x (List.mem_cons_of_mem _ hx)]; rfl
theorem cl_all : ∀ {ds : List PyData}, (∀ d ∈ ds, PyData.canLay0 d = true) → PyData.canLayAll0 ds = true
  | [], _ => by simp [PyData.canLayAll0]
  | d :: ds, h => by simp [PyData.canLayAll0, h d List.mem_cons_self, cl_all fun x hx => h x (List.mem_cons_of_mem _ hx)]
theorem dp_all {k : Nat} : ∀ {ds : List PyData}, (∀ d ∈ ds, PyData.depth d ≤ k) → PyData.depthAll ds ≤ k
  | [], _ => by simp [PyData.depthAll]
  | d :: ds, h => by
    have h1 := h d List.mem_cons_self
    have h2 := dp_all fun x hx => h x (List.mem_cons_of_mem _ hx)
    simp only [PyData.depthAll]
    omega
theorem sh_all : ∀ {ds : List PyData}, (∀ d ∈ ds, PyData.showable d = true) → PyData.showableAll ds = true
  | [], _ => by simp [PyData.showableAll]
  | d :: ds, h => by simp [PyData.showableAll, h d List.mem_cons_self, sh_all fun x hx => h x (List.mem_cons_of_mem _ hx)]
theorem sz_all {s : Nat} : ∀ {ds : List PyData}, (∀ d ∈ ds, szD d ≤ s) → szL ds ≤ ds.length * (s + 2)
  | [], _ => by simp [szL]
  | d :: ds, h => by
    have h1 := h d List.mem_cons_self
    have h2 := sz_all fun x hx => h x (List.mem_cons_of_mem _ hx)
    simp only [szL, List.length_cons, Nat.succ_mul]
    omega
theorem CD.tuple {k : Nat} {ds : List PyData} (h : ∀ d ∈ ds, CD k d) : CD (k + 1) (.tuple ds) :=
  ⟨by unfold noDict; exact nd_all fun d hd => (h d hd).nd, by simp only [PyData.canLay0]; exact cl_all fun d hd => (h d hd).cl, by simp only [PyData.depth]; have := dp_all fun d hd => (h d hd).dp; omega⟩
theorem CD.list {k : Nat} {ds : List PyData} (h : ∀ d ∈ ds, CD k d) : CD (k + 1) (.list ds) :=
  ⟨by unfold noDict; exact nd_all fun d hd => (h d hd).nd, by simp only [PyData.canLay0]; exact cl_all fun d hd => (h d hd).cl, by simp only [PyData.depth]; have := dp_all fun d hd => (h d hd).dp; omega⟩
theorem PD.int {i : Int} (h : i.natAbs < 2 ^ 64) : PD 0 70 (.int i) := by
  have l : i.natAbs.log2 < 64 := lg_lt h (by decide)
  refine ⟨CD.int i, ?_, ?_⟩
  · simp only [PyData.showable, decide_eq_true_eq]; omega
  · simp only [szD]; omega
theorem PD.none : PD 0 70 .none := ⟨CD.none, rfl, by simp [szD]⟩
theorem PD.bool (b : Bool) : PD 0 70 (.bool b) := ⟨CD.bool b, rfl, by simp [szD]⟩
theorem PD.tuple {k s n : Nat} {ds : List PyData} (h : ∀ d ∈ ds, PD k s d) (l : ds.length ≤ n) : PD (k + 1) (3 + n * (s + 2)) (.tuple ds) := by
  refine ⟨CD.tuple fun d hd => (h d hd).toCD, ?_, ?_⟩
  · simp only [PyData.showable]; exact sh_all fun d hd => (h d hd).sh
  · simp only [szD]
    have := sz_all fun d hd => (h d hd).sz
    have := Nat.mul_le_mul_right (s + 2) l
    omega
theorem PD.list {k s n : Nat} {ds : List PyData} (h : ∀ d ∈ ds, PD k s d) (l : ds.length ≤ n) : PD (k + 1) (3 + n * (s + 2)) (.list ds) := by
  refine ⟨CD.list fun d hd => (h d hd).toCD, ?_, ?_⟩
  · simp only [PyData.showable]; exact sh_all fun d hd => (h d hd).sh
  · simp only [szD]
    have := sz_all fun d hd => (h d hd).sz
    have := Nat.mul_le_mul_right (s + 2) l
    omega
theorem CD.plain {k : Nat} {d : PyData} (h : CD k d) (l : k ≤ 64) : plainD d = true := by
  unfold plainD SeqAt.shaped
  have := h.dp
  simp only [Bool.and_eq_true, decide_eq_true_eq]
  exact ⟨h.nd, h.cl, by omega⟩
theorem PD.plainR {k s : Nat} {d : PyData} (h : PD k s d) (l : k ≤ 60) (m : s ≤ 16777216) : plainR d = true := by
  unfold Hw.plainR
  have := h.dp
  have := h.sz
  have e : sizeLine = 16777216 := sizeLine_eq
  simp only [Bool.and_eq_true, decide_eq_true_eq]
  exact ⟨⟨⟨(by rw [h.nd]; rfl), h.sh⟩, by omega⟩, by omega⟩
theorem eq_see {a b : Tr} {d e : PyData} (ha : see a = some d) (hb : see b = some e) (na : asStr a = none) (p : plainD d = true) (q : plainD e = true) : cmpEv .Eq a b = some (PyData.eqv d e) := by
  have e1 : cmpEv .Eq a b = eqEv a b := rfl
  rw [e1]
  unfold eqEv eqEv0
  rw [na, ha, hb]
  simp [p, q]
theorem ne_see {a b : Tr} {d e : PyData} (ha : see a = some d) (hb : see b = some e) (na : asStr a = none) (p : plainD d = true) (q : plainD e = true) : cmpEv .NotEq a b = some (!PyData.eqv d e) := by
  have e1 : cmpEv .NotEq a b = (cmpEv .Eq a b).map (!·) := rfl
  rw [e1, eq_see ha hb na p q]; rfl
theorem ne_script {ns : List Int} (h : ns ≠ []) : cmpEv .NotEq (.s ns) (.l []) = some true := by
  have p1 : plainD (.list (ns.map PyData.int)) = true := (CD.list (k := 0) fun d hd => by obtain ⟨i, _, rfl⟩ := List.mem_map.mp hd; exact CD.int i).plain (by decide)
  rw [ne_see (d := .list (ns.map PyData.int)) (e := .list []) (by simp [see]) (by simp [see, frz, frzL]) rfl p1 rfl]
  cases ns with
  | nil => exact absurd rfl h
  | cons n ns => rfl
theorem PD.tie {n : Nat} {t : Tie} (hn : n ≤ 8) (o : OkT n t) : PD 1 219 (tieD t) := by
  have h1 := o.i; have h2 := o.j; have h3 := o.lo; have h4 := o.hi
  refine (PD.tuple (k := 0) (s := 70) (n := 3) (fun d hd => ?_) (Nat.le_refl _)).mono (Nat.le_refl _) (by decide)
  simp only [List.mem_cons, List.mem_nil_iff, or_false] at hd
  rcases hd with rfl | rfl | rfl <;> exact PD.int (by omega)
theorem PD.net {N : Net} (o : OkN N) : PD 3 43000 (netD N) := by
  have h1 := o.n8; have h2 := o.e4; have h3 := o.tlen
  refine (PD.tuple (k := 2) (s := 14200) (n := 3) (fun d hd => ?_) (Nat.le_refl _)).mono (Nat.le_refl _) (by decide)
  simp only [List.mem_cons, List.mem_nil_iff, or_false] at hd
  rcases hd with rfl | rfl | rfl
  · exact (PD.int (by omega)).mono (by decide) (by decide)
  · refine (PD.tuple (k := 0) (s := 70) (n := 4) (fun d hd => ?_) (by simpa using h2)).mono (by decide) (by decide)
    obtain ⟨e, he, rfl⟩ := List.mem_map.mp hd
    have := o.e e he
    exact PD.int (by omega)
  · refine (PD.tuple (k := 1) (s := 219) (n := 64) (fun d hd => ?_) (by simpa using h3)).mono (by decide) (by decide)
    obtain ⟨t, ht, rfl⟩ := List.mem_map.mp hd
    exact PD.tie h1 (o.t t ht)
theorem PD.heaps {N : Net} {h : List (List Int)} (o : OkN N) (s : Sh N h) (b : ∀ l ∈ h, ∀ x ∈ l, x.natAbs < 2 ^ 64) : PD 2 2400 (hD h) := by
  have h1 := o.n8; have h2 := o.e4
  refine (PD.tuple (k := 1) (s := 579) (n := 4) (fun d hd => ?_) (by rw [List.length_map, s.len]; exact h2)).mono (by decide) (by decide)
  obtain ⟨l, hl, rfl⟩ := List.mem_map.mp hd
  refine (PD.tuple (k := 0) (s := 70) (n := 8) (fun d hd => ?_) (by rw [List.length_map, s.l l hl]; exact h1)).mono (by decide) (by decide)
  obtain ⟨x, hx, rfl⟩ := List.mem_map.mp hd
  exact PD.int (b l hl x hx)
theorem OkH.b64 {high : Int} {N : Net} {h : List (List Int)} (o : OkH high N h) (hh : high ≤ 1000000000) : ∀ l ∈ h, ∀ x ∈ l, x.natAbs < 2 ^ 64 := fun l hl x hx => by
  have := o.b l hl x hx
  omega
end Hp
set_option Elab.async false
set_option linter.all false
set_option maxRecDepth 100000
set_option maxHeartbeats 400000
namespace Hp
open PySem PySem.Spec PyProof.Rows L2 Hw
def Tp (ns : List Int) (M : Nat) (t : Tr) : Prop := ∃ (a : Nat) (c : Int), t = .l [.s ns, .c (.int a), .c (.int c)] ∧ a ≤ M ∧ 0 ≤ c
theorem Tp.mono {ns : List Int} {M M' : Nat} {t : Tr} (h : Tp ns M t) (l : M ≤ M') : Tp ns M' t := let ⟨a, c, e, h1, h2⟩ := h; ⟨a, c, e, Nat.le_trans h1 l, h2⟩
def S_mixed (run : List Tr → Option FR) : Prop := ∀ (cell : Int) (a : Nat), a < 2 ^ 40 → ∃ c, run [.c (.int cell), .c (.int a)] = some (.ok (.c (.int c)) [.gone, .gone]) ∧ 0 ≤ c
theorem w_mixed (F : Genv) : S_mixed (r_law_b_mixed F) := by
  intro cell a ha
  by_cases hc : (10 : Int) ^ 18 ≤ cell
  · refine ⟨cell, run_ret rfl (by decide) ?_, by omega⟩
    refine Run.iteT (Γ1 := [.c (.int cell), .c (.int a), .gone, .gone, .gone]) ?_ ?_
    · have : (1000000000000000000 : Int) ≤ cell := by omega
      simp [this]
    · exact Run.rt (t := .c (.int cell)) (Γ1 := [.gone, .c (.int a), .gone, .gone, .gone]) (by simp) ⟨_, rfl, rfl⟩
  · have nc : ¬ (1000000000000000000 : Int) ≤ cell := by omega
    have h0 := Int.emod_nonneg cell (show (2147483543 : Int) ≠ 0 by decide)
    have h1 := Int.emod_lt_of_pos cell (show (0 : Int) < 2147483543 by decide)
    generalize e1 : cell % 2147483543 = m1 at h0 h1
    have k0 := Int.emod_nonneg (m1 * 40961 + (a : Int) * 9013 + 577) (show (2147483497 : Int) ≠ 0 by decide)
    have k1 := Int.emod_lt_of_pos (m1 * 40961 + (a : Int) * 9013 + 577) (show (0 : Int) < 2147483497 by decide)
    generalize e2 : (m1 * 40961 + (a : Int) * 9013 + 577) % 2147483497 = one at k0 k1
    have l0 := Int.emod_nonneg (one * one + 911 * (a : Int) + 67) (show (2147483489 : Int) ≠ 0 by decide)
    have l1 := Int.emod_lt_of_pos (one * one + 911 * (a : Int) + 67) (show (0 : Int) < 2147483489 by decide)
    generalize e3 : (one * one + 911 * (a : Int) + 67) % 2147483489 = two at l0 l1
    have m0 := Int.emod_nonneg (two * two + 733 * one + (a : Int)) (show (2147483477 : Int) ≠ 0 by decide)
    have m1' := Int.emod_lt_of_pos (two * two + 733 * one + (a : Int)) (show (0 : Int) < 2147483477 by decide)
    generalize e4 : (two * two + 733 * one + (a : Int)) % 2147483477 = three at m0 m1'
    have sa : sm (a : Int) := sm64 (by omega)
    have s1 : sm m1 := sm64 (by omega)
    have so : sm one := sm64 (by omega)
    have s2 : sm two := sm64 (by omega)
    have mm : ∀ i : Int, i.natAbs < 2 ^ 64 → sm i := fun i h => sm64 h
    refine ⟨two * 2147483477 + three, run_ret rfl (by decide) ?_, by omega⟩
    refine Run.skip (Γ1 := [.c (.int cell), .c (.int a), .gone, .gone, .gone]) (by simp [nc]) ?_
    refine Run.nx (Γ1 := [.c (.int cell), .c (.int a), .c (.int one), .gone, .gone]) (by simp [e1, mul_sm s1 (mm 40961 (by decide)), mul_sm sa (mm 9013 (by decide)), e2]) ?_
    refine Run.nx (Γ1 := [.c (.int cell), .c (.int a), .c (.int one), .c (.int two), .gone]) (by simp [mul_sm so so, mul_sm (mm 911 (by decide)) sa, e3]) ?_
    refine Run.nx (Γ1 := [.c (.int cell), .c (.int a), .c (.int one), .c (.int two), .c (.int three)]) (by simp [mul_sm s2 s2, mul_sm (mm 733 (by decide)) so, e4]) ?_
    exact Run.rt (t := .c (.int (two * 2147483477 + three))) (Γ1 := [.c (.int cell), .c (.int a), .c (.int one), .c (.int two), .c (.int three)]) (by simp [mul_sm s2 (mm 2147483477 (by decide))]) ⟨_, rfl, rfl⟩
def S_take (ns : List Int) (run : List Tr → Option FR) : Prop := ∀ M t (m : Int), Tp ns M t → M < 2 ^ 39 → 0 < m → m.natAbs.log2 < 9000 → ∃ (r : Nat) (t' : Tr), run [t, .c (.int m)] = some (.ok (.c (.int (r : Nat))) [t', .gone]) ∧ Tp ns (M + 1) t' ∧ (r : Int) < m
theorem w_take {F : Genv} {ns : List Int} (h1 : Fn F "_law_b_mixed" S_mixed) : S_take ns (r_law_b_take F) := by
  obtain ⟨r1, f1, q1⟩ := h1
  rintro M t m ⟨a, c, rfl, ha, hc⟩ hM hm hl
  have fin : ∀ (a' : Nat) (c' : Int) (x2 x3 x4 : Tr), a' ≤ M + 1 → 0 ≤ c' → ∃ (r : Nat) (t' : Tr), Run F [.set 2 (.prim .mod [.e (.pth 0 [.lit (.int 2)]), .pk 1]), .setp 0 [] (.lit (.int 2)) (.prim .fdiv [.e (.pth 0 [.lit (.int 2)]), .pk 1]), .ret (.mv 2)] [.l [.s ns, .c (.int a'), .c (.int c')], .c (.int m), x2, x3, x4] (fun s => ∃ Γ, s = .rt (.c (.int (r : Nat))) Γ ∧ outsOf [true, false] Γ = [t', .gone]) ∧ Tp ns (M + 1) t' ∧ (r : Int) < m := by
    intro a' c' x2 x3 x4 h1 h2
    have k0 := Int.emod_nonneg c' (show m ≠ 0 by omega)
    have k1 := Int.emod_lt_of_pos c' hm
    have e : ((c' % m).toNat : Int) = c' % m := Int.toNat_of_nonneg k0
    refine ⟨(c' % m).toNat, .l [.s ns, .c (.int a'), .c (.int (c' / m))], ?_, ⟨a', _, rfl, h1, Int.ediv_nonneg h2 (by omega)⟩, by rw [e]; exact k1⟩
    refine Run.nx (Γ1 := [.l [.s ns, .c (.int a'), .c (.int c')], .c (.int m), .c (.int (c' % m)), x3, x4]) (by simp [hm]) ?_
    refine Run.nx (Γ1 := [.l [.s ns, .c (.int a'), .c (.int (c' / m))], .c (.int m), .c (.int (c' % m)), x3, x4]) (by simp [hm, hl, setAt, ixN]) ?_
    exact Run.rt (t := .c (.int ((c' % m).toNat : Nat))) (Γ1 := [.l [.s ns, .c (.int a'), .c (.int (c' / m))], .c (.int m), .gone, x3, x4]) (by simp [e]) ⟨_, rfl, rfl⟩
  by_cases hlt : c < m
  · have sa : sm (a : Int) := sm64 (by omega)
    have mm : ∀ i : Int, i.natAbs < 2 ^ 64 → sm i := fun i h => sm64 h
    have key : ∃ (cl : Int), ∀ (Q : SR → Prop) ss, Run F ss [.l [.s ns, .c (.int a), .c (.int c)], .c (.int m), .gone, .c (.int a), .c (.int cl)] Q → Run F ((.set 3 (.pth 0 [.lit (.int 1)])) :: (.set 4 (.prim .add [.e (.prim .mul [.e (.lit (.int 19)), .pk 3]), .e (.lit (.int 8))])) ::
        (.ite (.e (.prim (.cmp .Lt) [.pk 3, .e (.prim (.bi .len) [.e (.pth 0 [.lit (.int 0)])])])) [.set 4 (.pth 0 [.lit (.int 0), .var 3])]
          [.ite (.e (.prim (.cmp .NotEq) [.e (.pth 0 [.lit (.int 0)]), .e (.lst [])])) [.set 4 (.prim .add [.e (.prim .mod [.e (.pth 0 [.lit (.int 0), .prim .mod [.e (.prim .mul [.pk 3, .e (.lit (.int 13))]), .e (.prim (.bi .len) [.e (.pth 0 [.lit (.int 0)])])]]), .e (.lit (.int 1000037))]), .e (.prim .mul [.pk 3, .e (.lit (.int 1000117))])])] []]) :: ss)
        [.l [.s ns, .c (.int a), .c (.int c)], .c (.int m), .gone, .gone, .gone] Q := by
      have start : ∀ (Q : SR → Prop) ss, Run F ss [.l [.s ns, .c (.int a), .c (.int c)], .c (.int m), .gone, .c (.int a), .c (.int (19 * a + 8))] Q → Run F ((.set 3 (.pth 0 [.lit (.int 1)])) :: (.set 4 (.prim .add [.e (.prim .mul [.e (.lit (.int 19)), .pk 3]), .e (.lit (.int 8))])) :: ss) [.l [.s ns, .c (.int a), .c (.int c)], .c (.int m), .gone, .gone, .gone] Q := by
        intro Q ss k
        refine Run.nx (Γ1 := [.l [.s ns, .c (.int a), .c (.int c)], .c (.int m), .gone, .c (.int a), .gone]) (by simp) ?_
        exact Run.nx (Γ1 := [.l [.s ns, .c (.int a), .c (.int c)], .c (.int m), .gone, .c (.int a), .c (.int (19 * a + 8))]) (by simp [mul_sm (mm 19 (by decide)) sa]) k
      by_cases hn : a < ns.length
      · refine ⟨ns[a], fun Q ss k => start _ _ (Run.iteT (Γ1 := [.l [.s ns, .c (.int a), .c (.int c)], .c (.int m), .gone, .c (.int a), .c (.int (19 * a + 8))]) (by simp [hn]) ?_)⟩
        exact Run.nx (Γ1 := [.l [.s ns, .c (.int a), .c (.int c)], .c (.int m), .gone, .c (.int a), .c (.int ns[a])]) (by simp [hn]) (Run.nil k)
      · by_cases he : ns = []
        · subst he
          refine ⟨19 * a + 8, fun Q ss k => start _ _ (Run.iteF (Γ1 := [.l [.s [], .c (.int a), .c (.int c)], .c (.int m), .gone, .c (.int a), .c (.int (19 * a + 8))]) (by simp) ?_)⟩
          refine Run.skip (Γ1 := [.l [.s [], .c (.int a), .c (.int c)], .c (.int m), .gone, .c (.int a), .c (.int (19 * a + 8))]) ?_ (Run.nil k)
          have : cmpEv .NotEq (.s []) (.l []) = some false := by rfl
          simp [this]
        · have hl0 : 0 < ns.length := List.length_pos_iff.mpr he
          have b0 := Int.emod_nonneg ((a : Int) * 13) (show (ns.length : Int) ≠ 0 by omega)
          have b1 := Int.emod_lt_of_pos ((a : Int) * 13) (show (0 : Int) < ns.length by omega)
          have eb : (((a : Int) * 13 % (ns.length : Int)).toNat : Int) = (a : Int) * 13 % (ns.length : Int) := Int.toNat_of_nonneg b0
          generalize ((a : Int) * 13 % (ns.length : Int)).toNat = ix at eb
          have hix : ix < ns.length := by omega
          refine ⟨ns[ix] % 1000037 + a * 1000117, fun Q ss k => start _ _ (Run.iteF (Γ1 := [.l [.s ns, .c (.int a), .c (.int c)], .c (.int m), .gone, .c (.int a), .c (.int (19 * a + 8))]) (by simp [hn]) ?_)⟩
          refine Run.iteT (Γ1 := [.l [.s ns, .c (.int a), .c (.int c)], .c (.int m), .gone, .c (.int a), .c (.int (19 * a + 8))]) ?_ ?_
          · have : cmpEv .NotEq (.s ns) (.l []) = some true := ne_script he
            simp [this]
          · exact Run.nx (Γ1 := [.l [.s ns, .c (.int a), .c (.int c)], .c (.int m), .gone, .c (.int a), .c (.int (ns[ix] % 1000037 + a * 1000117))]) (by simp [mul_sm sa (mm 13 (by decide)), mul_sm sa (mm 1000117 (by decide)), hl0, ← eb, hix]) (Run.nil (Run.nil k))
    obtain ⟨cl, hcl⟩ := key
    obtain ⟨mx, e1, e2⟩ := q1 cl a (by omega)
    obtain ⟨r, t', h1, h2, h3⟩ := fin (a + 1) mx .gone (.c (.int a)) (.c (.int cl)) (by omega) e2
    refine ⟨r, t', run_ret rfl (by decide) (Run.iteT (Γ1 := [.l [.s ns, .c (.int a), .c (.int c)], .c (.int m), .gone, .gone, .gone]) (by simp [hlt]) (hcl _ _ ?_)), h2, h3⟩
    refine Run.nx (Γ1 := [.l [.s ns, .c (.int (a + 1)), .c (.int c)], .c (.int m), .gone, .c (.int a), .c (.int cl)]) (by simp [setAt, ixN]) ?_
    exact Run.nx (Γ1 := [.l [.s ns, .c (.int (a + 1)), .c (.int mx)], .c (.int m), .gone, .c (.int a), .c (.int cl)]) (by simp [f1, e1, setAt, ixN]) (Run.nil (by rw [Int.natCast_add] at h1; exact h1))
  · obtain ⟨r, t', h1, h2, h3⟩ := fin a c .gone .gone .gone (by omega) hc
    exact ⟨r, t', run_ret rfl (by decide) (Run.skip (Γ1 := [.l [.s ns, .c (.int a), .c (.int c)], .c (.int m), .gone, .gone, .gone]) (by simp [hlt]) h1), h2, h3⟩
end Hp
set_option Elab.async false
set_option linter.all false
set_option maxRecDepth 100000
set_option maxHeartbeats 400000
namespace Hp
open PySem PySem.Spec PyProof.Rows L2 Hw
@[simp] theorem stl0 : stl [] = some [] := rfl
@[simp] theorem stl1 (d : PyData) (xs : List Tr) : stl (.c d :: xs) = (stl xs).map (d :: ·) := rfl
theorem Tp.ok {ns : List Int} {M : Nat} {t : Tr} (h : Tp ns M t) (Γ : List Tr) : slotOk (t :: Γ) 0 = true := by obtain ⟨a, c, rfl, _⟩ := h; rfl
theorem ix3 (a b c : PyData) (s : Nat) (hs : s < 3) : ∃ d, ixEv (.l [.c a, .c b, .c c]) (.c (.int s)) = some (.c d) ∧ (d = a ∨ d = b ∨ d = c) := by
  rcases (by omega : s = 0 ∨ s = 1 ∨ s = 2) with rfl | rfl | rfl
  · exact ⟨a, rfl, .inl rfl⟩
  · exact ⟨b, rfl, .inr (.inl rfl)⟩
  · exact ⟨c, rfl, .inr (.inr rfl)⟩
def S_net (ns : List Int) (run : List Tr → Option FR) : Prop := ∀ M t (p k : Nat), Tp ns M t → M + 1000 < 2 ^ 39 → 1 ≤ p → p ≤ 8 → 1 ≤ k → k ≤ 4 → ∃ N t', run [t, .c (.int p), .c (.int k)] = some (.ok (.c (netD N)) [t', .gone, .gone]) ∧ OkN N ∧ Tp ns (M + 1000) t' ∧ N.n ≤ p ∧ N.ends.length ≤ k
theorem w_net {F : Genv} {ns : List Int} (h1 : Fn F "_law_b_take" (S_take ns)) : S_net ns (r_law_b_net F) := by
  obtain ⟨r1, f1, q1⟩ := h1
  intro M t p k ht hM p1 p8 k1 k4
  have lg : ∀ n : Nat, n ≤ 1000 → ((n : Int)).natAbs.log2 < 9000 := fun n h => lg_lt (k := 11) (by omega) (by decide) |> fun z => Nat.lt_trans z (by decide)
  obtain ⟨a, t1, e1, ht1, ha⟩ := q1 M t p ht (by omega) (by omega) (lg p (by omega))
  obtain ⟨b, t2, e2, ht2, hb⟩ := q1 (M + 1) t1 k ht1 (by omega) (by omega) (lg k (by omega))
  let n := 1 + a
  have hn : n ≤ 8 := by omega
  have en : (1 : Int) + a = (n : Nat) := by omega
  have eb : (1 : Int) + b = ((1 + b : Nat) : Int) := by omega
  -- the ends
  obtain ⟨Γe, re, ee, t3, es, rfl, ht3, rfl, le, he⟩ := lc_inv (F := F) (own := [10]) (tg := .nm 10) (it := .rng1 (.prim .add [.e (.lit (.int 1)), .e (.call ("_law_b_take" : Str) [.io 0, .e (.var 2)])])) (elt := .call ("_law_b_take" : Str) [.io 0, .e (.var 3)]) (cond := [])
    (Γ := [t1, .c (.int p), .c (.int k), .c (.int n), .gone, .gone, .gone, .gone, .gone, .gone, .gone, .gone])
    (fun i Γ acc => ∃ t' es, Γ = [t', .c (.int p), .c (.int k), .c (.int n), .gone, .gone, .gone, .gone, .gone, .gone, .gone, .gone] ∧ Tp ns (M + 2 + i) t' ∧ acc = (es : List Nat).map (fun e => .c (nD e)) ∧ es.length = i ∧ ∀ e ∈ es, e < n)
    (rng1_n (n := 1 + b) (Γ1 := [t2, .c (.int p), .c (.int k), .c (.int n), .gone, .gone, .gone, .gone, .gone, .gone, .gone, .gone]) (by simp [f1, ht1.ok, e2, eb, -Int.natCast_add]) (by omega)) ⟨t2, [], by simp, ht2, rfl, rfl, by simp⟩
    (by
      rintro i d Γ acc hd ⟨t', es, rfl, ht', rfl, l, he⟩
      have hi := (List.getElem?_eq_some_iff.mp hd).1
      rw [List.length_map, List.length_range] at hi
      obtain ⟨e, t'', e3, ht'', h3⟩ := q1 (M + 2 + i) t' n ht' (by omega) (by omega) (lg n (by omega))
      refine ⟨_, rfl, .inl ⟨_, [t'', .c (.int p), .c (.int k), .c (.int n), .gone, .gone, .gone, .gone, .gone, .gone, .c d, .gone], .c (nD e), by rw [evC], ?_, t'', es ++ [e], by simp, ht''.mono (by omega), by simp, by simp [l], fun x hx => ?_⟩⟩
      · simp [f1, ht'.ok, e3, nD]
      · rcases List.mem_append.mp hx with hx | hx
        · exact he x hx
        · simp at hx; subst hx; omega) (sz (by simp; omega))
  rw [List.length_map, List.length_range] at ht3 le
  obtain ⟨c, t4, e4, ht4, hc⟩ := q1 (M + 2 + (1 + b)) t3 5 ht3 (by omega) (by decide) (by decide)
  obtain ⟨s, t5, e5, ht5, hs⟩ := q1 (M + 2 + (1 + b) + 1) t4 3 ht4 (by omega) (by decide) (by decide)
  let M0 := M + 2 + (1 + b) + 2
  have hM0 : M0 ≤ M + 8 := by omega
  -- a tie's most
  have most : ∀ M' (t' : Tr) (i j : Nat), Tp ns M' t' → M' < 2 ^ 39 → ∀ Γ : List Tr, ∃ (m : Int) (t'' : Tr), 1 ≤ m ∧ m ≤ 9 ∧ Tp ns (M' + 1) t'' ∧ ∀ (ts : List Tie) (x1 x2 x3 x4 x5 x10 x11 : Tr), ts.length ≤ 1000 →
      exS F (.app 7 [] (.tup [.e (.var 8), .e (.var 9), .e (.prim .ix [.e (.lst [.e (.lit (.int 1)), .e (.lit (.int 9)), .e (.prim .add [.e (.lit (.int 1)), .e (.call ("_law_b_take" : Str) [.io 0, .e (.lit (.int 9))])])]), .pk 6])])) [t', x1, x2, x3, x4, x5, .c (.int s), mpT tieD ts, .c (.int i), .c (.int j), x10, x11]
        = some (.nx [t'', x1, x2, x3, x4, x5, .c (.int s), mpT tieD (ts ++ [⟨i, j, m⟩]), .c (.int i), .c (.int j), x10, x11]) := by
    intro M' t' i j ht' hM' _
    obtain ⟨r, t'', e6, ht'', h6⟩ := q1 M' t' 9 ht' hM' (by decide) (by decide)
    obtain ⟨d, e7, h7⟩ := ix3 (.int 1) (.int 9) (.int (1 + r)) s (by omega)
    have : ∃ m : Int, d = .int m ∧ 1 ≤ m ∧ m ≤ 9 := by
      rcases h7 with rfl | rfl | rfl
      · exact ⟨1, rfl, by decide, by decide⟩
      · exact ⟨9, rfl, by decide, by decide⟩
      · exact ⟨1 + r, rfl, by omega, by omega⟩
    obtain ⟨m, rfl, m1, m9⟩ := this
    refine ⟨m, t'', m1, m9, ht'', fun ts x1 x2 x3 x4 x5 x10 x11 hl => ?_⟩
    have hz : ts.length < sizeLine := Nat.lt_of_le_of_lt hl (by decide)
    simp [mpT, f1, ht'.ok, e6, e7, hz, tieD]
  -- the ties
  have main : Run F [.for_ (.nm 8) (.rng1 (.var 3)) [.for_ (.nm 9) (.sq (.lc [11] (.nm 11) (.rng1 (.var 3)) [.and_ (.e (.prim (.cmp .NotEq) [.pk 11, .pk 8])) (.e (.prim (.cmp .Lt) [.e (.call ("_law_b_take" : Str) [.io 0, .e (.lit (.int 5))]), .pk 5]))] (.var 11)))
      [.app 7 [] (.tup [.e (.var 8), .e (.var 9), .e (.prim .ix [.e (.lst [.e (.lit (.int 1)), .e (.lit (.int 9)), .e (.prim .add [.e (.lit (.int 1)), .e (.call ("_law_b_take" : Str) [.io 0, .e (.lit (.int 9))])])]), .pk 6])])]],
      .ret (.tup [.e (.var 3), .e (.var 4), .e (.prim (.bi .tuple) [.pk 7])])]
      [t5, .c (.int p), .c (.int k), .c (.int n), .c (.tuple (es.map nD)), .c (.int (1 + c)), .c (.int s), .l [], .gone, .gone, .gone, .gone]
      (fun r => ∃ ts t', (∃ Γ, r = .rt (.c (netD ⟨n, es, ts⟩)) Γ ∧ outsOf [true, false, false] Γ = [t', .gone, .gone]) ∧ (∀ x ∈ ts, OkT n x) ∧ ts.Pairwise tLt ∧ Tp ns (M + 1000) t') := by
    refine Run.forM (c := fun i : Nat => PyData.int (i : Nat)) (xs := List.range n) (Γ1 := [t5, .c (.int p), .c (.int k), .c (.int n), .c (.tuple (es.map nD)), .c (.int (1 + c)), .c (.int s), .l [], .gone, .gone, .gone, .gone])
      (fun i Γ => ∃ t' ts j8 j9, Γ = [t', .c (.int p), .c (.int k), .c (.int n), .c (.tuple (es.map nD)), .c (.int (1 + c)), .c (.int s), mpT tieD ts, j8, j9, .gone, .gone] ∧ Tp ns (M0 + i * 100) t' ∧ (∀ x ∈ ts, OkT n x) ∧ ts.Pairwise tLt ∧ (∀ x ∈ ts, x.i < i) ∧ ts.length ≤ i * 8)
      (rng1_n (by simp) (by omega)) ⟨t5, [], _, _, rfl, ht5.mono (by omega), by simp, List.Pairwise.nil, by simp, Nat.zero_le _⟩ ?_ ?_
    · rintro i i' Γ hi ⟨t', ts, j8, j9, rfl, ht', o, pw, li, ll⟩
      have hi2 := (List.getElem?_eq_some_iff.mp hi).1
      rw [List.length_range] at hi2
      rw [List.getElem?_range hi2] at hi
      cases hi
      refine ⟨[t', .c (.int p), .c (.int k), .c (.int n), .c (.tuple (es.map nD)), .c (.int (1 + c)), .c (.int s), mpT tieD ts, .c (.int i), j9, .gone, .gone], rfl, ?_⟩
      obtain ⟨Γj, rj, ej, t6, js, rfl, ht6, rfl, pj, hj, lj⟩ := lc_inv (F := F) (own := [11]) (tg := .nm 11) (it := .rng1 (.var 3)) (elt := .var 11) (cond := [.and_ (.e (.prim (.cmp .NotEq) [.pk 11, .pk 8])) (.e (.prim (.cmp .Lt) [.e (.call ("_law_b_take" : Str) [.io 0, .e (.lit (.int 5))]), .pk 5]))])
        (Γ := [t', .c (.int p), .c (.int k), .c (.int n), .c (.tuple (es.map nD)), .c (.int (1 + c)), .c (.int s), mpT tieD ts, .c (.int i), j9, .gone, .gone])
        (fun i' Γ acc => ∃ t'' js, Γ = [t'', .c (.int p), .c (.int k), .c (.int n), .c (.tuple (es.map nD)), .c (.int (1 + c)), .c (.int s), mpT tieD ts, .c (.int i), j9, .gone, .gone] ∧ Tp ns (M0 + i * 100 + i') t'' ∧ acc = (js : List Nat).map (fun e => .c (nD e)) ∧ js.Pairwise (· < ·) ∧ (∀ j ∈ js, j < i' ∧ j ≠ i) ∧ js.length ≤ i')
        (rng1_n (n := n) (Γ1 := [t', .c (.int p), .c (.int k), .c (.int n), .c (.tuple (es.map nD)), .c (.int (1 + c)), .c (.int s), mpT tieD ts, .c (.int i), j9, .gone, .gone]) (by simp) (by omega)) ⟨t', [], by simp, ht', rfl, List.Pairwise.nil, by simp, Nat.le_refl _⟩
        (by
          rintro i' d Γ acc hd ⟨t'', js, rfl, ht'', rfl, pj, hj, lj⟩
          have hi' := (List.getElem?_eq_some_iff.mp hd).1
          rw [List.length_map, List.length_range] at hi'
          rw [List.getElem?_map, List.getElem?_range hi'] at hd
          cases hd
          refine ⟨_, rfl, ?_⟩
          by_cases hne : i' = i
          · subst hne
            refine .inr ⟨[t'', .c (.int p), .c (.int k), .c (.int n), .c (.tuple (es.map nD)), .c (.int (1 + c)), .c (.int s), mpT tieD ts, .c (.int i'), j9, .gone, .c (.int i')], by rw [evC]; simp, t'', js, by simp, ht''.mono (by omega), rfl, pj, fun j h => ⟨by have := (hj j h).1; omega, (hj j h).2⟩, by omega⟩
          · obtain ⟨r, t3, e7, ht3', h7⟩ := q1 (M0 + i * 100 + i') t'' 5 ht'' (by omega) (by decide) (by decide)
            have et : evC F [.and_ (.e (.prim (.cmp .NotEq) [.pk 11, .pk 8])) (.e (.prim (.cmp .Lt) [.e (.call ("_law_b_take" : Str) [.io 0, .e (.lit (.int 5))]), .pk 5]))] [t'', .c (.int p), .c (.int k), .c (.int n), .c (.tuple (es.map nD)), .c (.int (1 + c)), .c (.int s), mpT tieD ts, .c (.int i), j9, .gone, .c (.int i')]
                = some (.ok (decide ((r : Int) < 1 + c)) [t3, .c (.int p), .c (.int k), .c (.int n), .c (.tuple (es.map nD)), .c (.int (1 + c)), .c (.int s), mpT tieD ts, .c (.int i), j9, .gone, .c (.int i')]) := by
              rw [evC]; simp [hne, f1, ht''.ok, e7]
            by_cases hr : (r : Int) < 1 + c
            · rw [decide_eq_true hr] at et
              refine .inl ⟨_, [t3, .c (.int p), .c (.int k), .c (.int n), .c (.tuple (es.map nD)), .c (.int (1 + c)), .c (.int s), mpT tieD ts, .c (.int i), j9, .gone, .c (.int i')], .c (nD i'), et, by simp [nD], t3, js ++ [i'], by simp, ht3'.mono (by omega), by simp, ?_, fun j h => ?_, by simp; omega⟩
              · rw [List.pairwise_append]
                exact ⟨pj, by simp, fun a ha b hb => by simp at hb; subst hb; exact (hj a ha).1⟩
              · rcases List.mem_append.mp h with h | h
                · exact ⟨by have := (hj j h).1; omega, (hj j h).2⟩
                · simp at h; subst h; exact ⟨by omega, hne⟩
            · rw [decide_eq_false hr] at et
              exact .inr ⟨_, et, t3, js, by simp, ht3'.mono (by omega), rfl, pj, fun j h => ⟨by have := (hj j h).1; omega, (hj j h).2⟩, by omega⟩) (sz (by simp; omega))
      rw [List.length_map, List.length_range] at ht6 hj lj
      refine Run.forM (c := nD) (xs := js) (Γ1 := [t6, .c (.int p), .c (.int k), .c (.int n), .c (.tuple (es.map nD)), .c (.int (1 + c)), .c (.int s), mpT tieD ts, .c (.int i), j9, .gone, .gone])
        (fun i' Γ => ∃ t'' us j9, Γ = [t'', .c (.int p), .c (.int k), .c (.int n), .c (.tuple (es.map nD)), .c (.int (1 + c)), .c (.int s), mpT tieD us, .c (.int i), j9, .gone, .gone] ∧ Tp ns (M0 + i * 100 + n + i') t'' ∧ (∀ x ∈ us, OkT n x) ∧ us.Pairwise tLt ∧ (∀ x ∈ us, x.i < i ∨ (x.i = i ∧ x.j ∈ js.take i')) ∧ us.length ≤ i * 8 + i')
        (by simp only [si1, ej]; simp [frz, frzL_map]) ⟨t6, ts, _, rfl, ht6, o, pw, fun x hx => .inl (li x hx), by omega⟩ ?_ ?_
      · rintro i' j Γ hj' ⟨t'', us, j9', rfl, ht'', o', pw', li', ll'⟩
        have hm := List.mem_of_getElem? hj'
        have hji := hj j hm
        have hl' := (List.getElem?_eq_some_iff.mp hj').1
        refine ⟨[t'', .c (.int p), .c (.int k), .c (.int n), .c (.tuple (es.map nD)), .c (.int (1 + c)), .c (.int s), mpT tieD us, .c (.int i), .c (.int j), .gone, .gone], rfl, ?_⟩
        obtain ⟨m, t3, m1, m9, ht3', em⟩ := most (M0 + i * 100 + n + i') t'' i j ht'' (by omega) []
        refine Run.nx (em us _ _ _ _ _ _ _ (by omega)) (Run.nil ⟨t3, us ++ [⟨i, j, m⟩], _, rfl, ht3', fun x hx => ?_, ?_, fun x hx => ?_, by simp; omega⟩)
        · rcases List.mem_append.mp hx with hx | hx
          · exact o' x hx
          · simp at hx; subst hx; exact ⟨hi2, hji.1, fun e => hji.2 e.symm, m1, m9⟩
        · rw [List.pairwise_append]
          refine ⟨pw', by simp, fun a ha b hb => ?_⟩
          simp at hb; subst hb
          rcases li' a ha with z | ⟨z1, z2⟩
          · exact .inl z
          · refine .inr ⟨z1, ?_⟩
            obtain ⟨q, hq⟩ := List.mem_iff_getElem?.mp z2
            rw [List.getElem?_take] at hq
            split at hq
            · rename_i lt
              have g1 := List.getElem?_eq_some_iff.mp hq
              have g2 := List.getElem?_eq_some_iff.mp hj'
              have := List.pairwise_iff_getElem.mp pj q i' g1.1 g2.1 lt
              rw [g1.2, g2.2] at this
              exact this
            · cases hq
        · rcases List.mem_append.mp hx with hx | hx
          · rcases li' x hx with z | ⟨z1, z2⟩
            · exact .inl z
            · exact .inr ⟨z1, by rw [take_snoc hj']; exact List.mem_append_left _ z2⟩
          · simp at hx; subst hx
            exact .inr ⟨rfl, by rw [take_snoc hj']; simp⟩
      · rintro Γ ⟨t'', us, j9', rfl, ht'', o', pw', li', ll'⟩
        refine Run.nil ⟨t'', us, _, _, rfl, ht''.mono (by omega), o', pw', fun x hx => ?_, by omega⟩
        rcases li' x hx with z | ⟨z1, z2⟩ <;> omega
    · rintro Γ ⟨t', ts, j8, j9, rfl, ht', o, pw, li, ll⟩
      rw [List.length_range] at ht'
      refine Run.rt (t := .c (netD ⟨n, es, ts⟩)) (Γ1 := [t', .c (.int p), .c (.int k), .c (.int n), .c (.tuple (es.map nD)), .c (.int (1 + c)), .c (.int s), mpT tieD ts, j8, j9, .gone, .gone]) ?_ ⟨ts, t', ⟨_, rfl, rfl⟩, o, pw, ht'.mono (by omega)⟩
      have := tuple_m tieD ts
      simp [mpT, slotOk, this, netD]
  obtain ⟨r, er, ts, t', ⟨Γ', rfl, ho⟩, ot, pw, ht'⟩ := main
  refine ⟨⟨n, es, ts⟩, t', run_ret rfl (by decide) ?_, ⟨by show 1 ≤ n; omega, hn, by show 1 ≤ es.length; omega, by show es.length ≤ 4; omega, he, ot, pw⟩, ht', by show n ≤ p; omega, by show es.length ≤ k; omega⟩
  refine Run.nx (Γ1 := [t1, .c (.int p), .c (.int k), .c (.int n), .gone, .gone, .gone, .gone, .gone, .gone, .gone, .gone]) (by simp [f1, ht.ok, e1, en, -Int.natCast_add]) ?_
  refine Run.nx (Γ1 := [t3, .c (.int p), .c (.int k), .c (.int n), .c (.tuple (es.map nD)), .gone, .gone, .gone, .gone, .gone, .gone, .gone]) (by simp [ee, tuple_m]) ?_
  refine Run.nx (Γ1 := [t4, .c (.int p), .c (.int k), .c (.int n), .c (.tuple (es.map nD)), .c (.int (1 + c)), .gone, .gone, .gone, .gone, .gone, .gone]) (by simp [f1, ht3.ok, e4]) ?_
  refine Run.nx (Γ1 := [t5, .c (.int p), .c (.int k), .c (.int n), .c (.tuple (es.map nD)), .c (.int (1 + c)), .c (.int s), .gone, .gone, .gone, .gone, .gone]) (by simp [f1, ht4.ok, e5]) ?_
  refine Run.nx (Γ1 := [t5, .c (.int p), .c (.int k), .c (.int n), .c (.tuple (es.map nD)), .c (.int (1 + c)), .c (.int s), .l [], .gone, .gone, .gone, .gone]) (by simp) ?_
  exact ⟨_, er, Γ', rfl, ho⟩
end Hp
set_option Elab.async false
set_option linter.all false
set_option maxRecDepth 100000
set_option maxHeartbeats 400000
namespace Hp
open PySem PySem.Spec PyProof.Rows L2 Hw
def S_lines (ns : List Int) (run : List Tr → Option FR) : Prop := ∀ M t N (far : Int), Tp ns M t → M + 1000 < 2 ^ 39 → OkN N → 1 ≤ far → far ≤ 2000000000 → ∃ h t', run [t, .c (netD N), .c (.int far)] = some (.ok (.c (hD h)) [t', .gone, .gone]) ∧ OkH (far - 1) N h ∧ Tp ns (M + 40) t'
theorem w_lines {F : Genv} {ns : List Int} (h1 : Fn F "_law_b_take" (S_take ns)) : S_lines ns (r_law_b_lines F) := by
  obtain ⟨r1, f1, q1⟩ := h1
  intro M t N far ht hM o far1 far2
  have n8 := o.n8
  have e4 := o.e4
  have lg : far.natAbs.log2 < 9000 := Nat.lt_trans (lg_lt (k := 64) (by omega) (by decide)) (by decide)
  have main : ∃ h t', Run F b_law_b_lines [t, .c (netD N), .c (.int far), .gone, .gone, .gone] (fun r => ∃ Γ, r = .rt (.c (hD h)) Γ ∧ outsOf [true, false, false] Γ = [t', .gone, .gone]) ∧ OkH (far - 1) N h ∧ Tp ns (M + 40) t' := by
    have go : Run F b_law_b_lines [t, .c (netD N), .c (.int far), .gone, .gone, .gone] (fun r => ∃ h t', (∃ Γ, r = .rt (.c (hD h)) Γ ∧ outsOf [true, false, false] Γ = [t', .gone, .gone]) ∧ OkH (far - 1) N h ∧ Tp ns (M + 40) t') := by
      refine Run.nx (Γ1 := [t, .c (netD N), .c (.int far), .l [], .gone, .gone]) (by simp) ?_
      refine Run.forM (c := nD) (xs := N.ends) (Γ1 := [t, .c (netD N), .c (.int far), .l [], .gone, .gone])
        (fun i Γ => ∃ t' h j4, Γ = [t', .c (netD N), .c (.int far), mpT lnD h, j4, .gone] ∧ Tp ns (M + i * 8) t' ∧ h.length = i ∧ ∀ (k e : Nat) l, N.ends[k]? = some e → h[k]? = some l → OkL (far - 1) N.n e l) (by simp [netD, slotOk]) ⟨t, [], _, rfl, ht, rfl, by simp⟩ ?_ ?_
      · rintro i e Γ hi ⟨t', h, j4, rfl, ht', lh, oh⟩
        have hi2 := (List.getElem?_eq_some_iff.mp hi).1
        have he := o.e e (List.mem_of_getElem? hi)
        refine ⟨[t', .c (netD N), .c (.int far), mpT lnD h, .c (.int e), .gone], rfl, ?_⟩
        obtain ⟨Γl, rl, el, t2, l, rfl, ht2, rfl, ll, bl, zl⟩ := lc_inv (F := F) (own := [5]) (tg := .nm 5) (it := .rng1 (.pth 1 [.lit (.int 0)])) (elt := .prim .mul [.e (.call ("_law_b_take" : Str) [.io 0, .e (.var 2)]), .e (.prim (.bi .int) [.e (.prim (.cmp .NotEq) [.pk 5, .pk 4])])]) (cond := [])
          (Γ := [t', .c (netD N), .c (.int far), mpT lnD h, .c (.int e), .gone])
          (fun i' Γ acc => ∃ t'' l, Γ = [t'', .c (netD N), .c (.int far), mpT lnD h, .c (.int e), .gone] ∧ Tp ns (M + i * 8 + i') t'' ∧ acc = (l : List Int).map (fun x => .c (iD x)) ∧ l.length = i' ∧ (∀ x ∈ l, 0 ≤ x ∧ x ≤ far - 1) ∧ (e < i' → l[e]? = some 0))
          (rng1_n (n := N.n) (Γ1 := [t', .c (netD N), .c (.int far), mpT lnD h, .c (.int e), .gone]) (by simp [netD]) (by omega)) ⟨t', [], by simp, ht', rfl, rfl, by simp, by simp⟩
          (by
            rintro i' d Γ acc hd ⟨t'', l, rfl, ht'', rfl, ll, bl, zl⟩
            have hi' := (List.getElem?_eq_some_iff.mp hd).1
            rw [List.length_map, List.length_range] at hi'
            rw [List.getElem?_map, List.getElem?_range hi'] at hd
            cases hd
            obtain ⟨r, t3, e3, ht3, h3⟩ := q1 (M + i * 8 + i') t'' far ht'' (by omega) (by omega) lg
            let x : Int := r * (if (!decide (i' = e)) = true then 1 else 0)
            have hx : (i' = e → x = 0) ∧ (i' ≠ e → x = r) := by
              refine ⟨fun z => ?_, fun z => ?_⟩
              · simp only [x, z, decide_true]; simp
              · simp only [x, decide_eq_false z]; simp
            refine ⟨_, rfl, .inl ⟨_, [t3, .c (netD N), .c (.int far), mpT lnD h, .c (.int e), .c (.int i')], .c (iD x), by rw [evC], ?_, t3, l ++ [x], by simp, ht3.mono (by omega), by simp, by simp [ll], fun y hy => ?_, fun hz => ?_⟩⟩
            · have s1 : sm (r : Int) := sm64 (by omega)
              have m0 := mul_sm s1 (sm64 (i := 0) (by decide))
              have m1 := mul_sm s1 (sm64 (i := 1) (by decide))
              by_cases z : i' = e
              · rw [hx.1 z]
                simp [f1, ht''.ok, e3, iD, z, m0]
              · rw [hx.2 z]
                simp [f1, ht''.ok, e3, iD, z, m1]
            · rcases List.mem_append.mp hy with hy | hy
              · exact bl y hy
              · simp at hy; subst hy
                by_cases z : i' = e
                · rw [hx.1 z]; omega
                · rw [hx.2 z]; omega
            · by_cases z : i' = e
              · rw [List.getElem?_append_right (by omega), ll, ← z, hx.1 z]; simp
              · rw [List.getElem?_append_left (by omega)]; exact zl (by omega)) (sz (by simp; omega))
        rw [List.length_map, List.length_range] at ht2 ll zl
        have hz : h.length < sizeLine := Nat.lt_of_le_of_lt (show h.length ≤ 100 by omega) (by decide)
        refine Run.nx (Γ1 := [t2, .c (netD N), .c (.int far), mpT lnD (h ++ [l]), .c (.int e), .gone]) ?_ (Run.nil ⟨t2, h ++ [l], _, rfl, ht2.mono (by omega), by simp [lh], fun k e' l' h1 h2 => ?_⟩)
        · have tm := tuple_m iD l
          simp [mpT] at el ⊢
          simp [el, tm, hz]
          rfl
        · by_cases hk : k < h.length
          · rw [List.getElem?_append_left hk] at h2
            exact oh k e' l' h1 h2
          · have : k = h.length := by
              have := (List.getElem?_eq_some_iff.mp h2).1
              simp at this; omega
            subst this
            rw [lh, hi] at h1
            simp at h1 h2
            subst h1 h2
            exact ⟨ll, bl, zl he⟩
      · rintro Γ ⟨t', h, j4, rfl, ht', lh, oh⟩
        have tm := tuple_m lnD h
        exact Run.rt (t := .c (hD h)) (Γ1 := [t', .c (netD N), .c (.int far), mpT lnD h, j4, .gone]) (by simp [mpT, slotOk, tm, hD]) ⟨h, t', ⟨_, rfl, rfl⟩, ⟨lh, oh⟩, ht'.mono (by omega)⟩
    obtain ⟨r, e, h, t', q, q2, q3⟩ := go
    exact ⟨h, t', ⟨r, e, q⟩, q2, q3⟩
  obtain ⟨h, t', q, q2, q3⟩ := main
  exact ⟨h, t', run_ret rfl (by decide) q, q2, q3⟩
theorem ix_any {ds : List PyData} {s : Nat} (hs : s < ds.length) : ∃ d ∈ ds, ixEv (.l (ds.map .c)) (.c (.int s)) = some (.c d) := by
  refine ⟨ds[s], List.getElem_mem hs, ?_⟩
  simp only [ixEv, asInt_c]
  rw [asSeq_l (stl_c ds)]
  simp [hs]
def S_heaps (high : Int) (ns : List Int) (run : List Tr → Option FR) : Prop := ∀ M t N, Tp ns M t → M + 2000 < 2 ^ 39 → OkN N → ∃ h t', run [t, .c (netD N)] = some (.ok (.c (hD h)) [t', .gone]) ∧ OkH high N h ∧ Tp ns (M + 50) t'
theorem OkH.up {high high' : Int} {N : Net} {h : List (List Int)} (o : OkH high N h) (l : high ≤ high') : OkH high' N h :=
  ⟨o.len, fun k e l' h1 h2 => let q := o.l k e l' h1 h2; ⟨q.len, fun x hx => ⟨(q.b x hx).1, Int.le_trans (q.b x hx).2 l⟩, q.z⟩⟩
theorem w_heaps {F : Genv} {ns : List Int} (h1 : Fn F "_law_b_take" (S_take ns)) (h2 : Fn F "_law_b_lines" (S_lines ns)) : S_heaps 1000000000 ns (r_law_b_heaps F) := by
  obtain ⟨r1, f1, q1⟩ := h1
  obtain ⟨r2, f2, q2⟩ := h2
  intro M t N ht hM o
  obtain ⟨s, t1, e1, ht1, hs⟩ := q1 M t 5 ht (by omega) (by decide) (by decide)
  obtain ⟨d, hd, e2⟩ := ix_any (ds := [.int 2, .int 4, .int 12, .int 60, .int 1000000001]) (s := s) (by simp; omega)
  have : ∃ far : Int, d = .int far ∧ 1 ≤ far ∧ far ≤ 1000000001 := by
    simp only [List.mem_cons, List.mem_nil_iff, or_false] at hd
    rcases hd with rfl | rfl | rfl | rfl | rfl <;> exact ⟨_, rfl, by decide, by decide⟩
  obtain ⟨far, rfl, a1, a2⟩ := this
  obtain ⟨h, t2, e3, oh, ht2⟩ := q2 (M + 1) t1 N far ht1 (by omega) o a1 (by omega)
  refine ⟨h, t2, run_ret rfl (by decide) (Run.rt (t := .c (hD h)) (Γ1 := [t2, .c (netD N)]) ?_ ⟨_, rfl, rfl⟩), oh.up (by omega), ht2.mono (by omega)⟩
  simp only [List.map_cons, List.map_nil] at e2
  simp [f1, f2, ht.ok, ht1.ok, e1, e2, e3]
theorem w_comers {F : Genv} {ns : List Int} (h1 : Fn F "_law_b_take" (S_take ns)) (h2 : Fn F "_law_b_lines" (S_lines ns)) : S_heaps 9 ns (r_law_b_comers F) := by
  obtain ⟨r1, f1, q1⟩ := h1
  obtain ⟨r2, f2, q2⟩ := h2
  intro M t N ht hM o
  obtain ⟨s, t1, e1, ht1, hs⟩ := q1 M t 4 ht (by omega) (by decide) (by decide)
  obtain ⟨d, hd, e2⟩ := ix_any (ds := [.int 1, .int 2, .int 4, .int 10]) (s := s) (by simp; omega)
  have : ∃ far : Int, d = .int far ∧ 1 ≤ far ∧ far ≤ 10 := by
    simp only [List.mem_cons, List.mem_nil_iff, or_false] at hd
    rcases hd with rfl | rfl | rfl | rfl <;> exact ⟨_, rfl, by decide, by decide⟩
  obtain ⟨far, rfl, a1, a2⟩ := this
  obtain ⟨h, t2, e3, oh, ht2⟩ := q2 (M + 1) t1 N far ht1 (by omega) o a1 (by omega)
  refine ⟨h, t2, run_ret rfl (by decide) (Run.rt (t := .c (hD h)) (Γ1 := [t2, .c (netD N)]) ?_ ⟨_, rfl, rfl⟩), oh.up (by omega), ht2.mono (by omega)⟩
  simp only [List.map_cons, List.map_nil] at e2
  simp [f1, f2, ht.ok, ht1.ok, e1, e2, e3]
def OfferIs (h : List (List Int)) (t : Tie) (n : Nat) : Option Nat → Prop
  | none => ∀ k, k < n → fallA h k t ≤ 0
  | some b => b < n ∧ 0 < fallA h b t ∧ (∀ k, k < n → fallA h k t ≤ fallA h b t) ∧ ∀ k, k < b → fallA h k t < fallA h b t
theorem offer_pre (h : List (List Int)) (t : Tie) : ∀ n, OfferIs h t n ((List.range n).foldl (stepO h t) none)
  | 0 => fun k hk => absurd hk (Nat.not_lt_zero _)
  | n + 1 => by
    have ih := offer_pre h t n
    rw [List.range_succ, List.foldl_append]
    show OfferIs h t (n + 1) (stepO h t _ n)
    generalize (List.range n).foldl (stepO h t) none = o at ih
    unfold stepO betterB
    cases o with
    | none =>
      by_cases z : 0 < fallA h n t
      · simp only [z, decide_true, Bool.true_and, if_true]
        refine ⟨Nat.lt_succ_self n, z, fun k hk => ?_, fun k hk => ?_⟩
        · by_cases e : k = n
          · subst e; exact Int.le_refl _
          · have := ih k (by omega); omega
        · have := ih k hk; omega
      · simp only [z, decide_false, Bool.false_and]
        intro k hk
        by_cases e : k = n
        · subst e; omega
        · exact ih k (by omega)
    | some b =>
      obtain ⟨b1, b2, b3, b4⟩ := ih
      by_cases z : 0 < fallA h n t ∧ fallA h b t < fallA h n t
      · simp only [z.1, z.2, decide_true, Bool.true_and, if_true]
        refine ⟨Nat.lt_succ_self n, z.1, fun k hk => ?_, fun k hk => ?_⟩
        · by_cases e : k = n
          · subst e; exact Int.le_refl _
          · have := b3 k (by omega); have := z.2; omega
        · have := b3 k hk; have := z.2; omega
      · have : (decide (0 < fallA h n t) && decide (fallA h b t < fallA h n t)) = false := by
          rw [← Bool.decide_and]; exact decide_eq_false z
        simp only [this]
        refine ⟨by omega, b2, fun k hk => ?_, b4⟩
        by_cases e : k = n
        · subst e; omega
        · exact b3 k (by omega)
theorem offer_is (h : List (List Int)) (t : Tie) : OfferIs h t h.length (offerA h t) := offer_pre h t _
end Hp
namespace Hp
open PySem PySem.Spec PyProof.Rows L2 Hw
theorem frz_m {α : Type} (h : α → PyData) (xs : List α) : frz (.l (xs.map fun x => .c (h x))) = some (.list (xs.map h)) := mpT_frz h xs
theorem Tp.start (ns : List Int) : Tp ns 0 (.l [.s ns, .c (.int 0), .c (.int 0)]) := ⟨0, 0, rfl, Nat.le_refl _, Int.le_refl _⟩
end Hp
set_option Elab.async false
set_option linter.all false
set_option maxRecDepth 100000
set_option maxHeartbeats 400000
namespace Hp
open PySem PySem.Spec PyProof.Rows L2 Hw
theorem zip_is {α β : Type} (f : α → PyData) (g : β → PyData) (xs : List α) (ys : List β) : ((xs.map f).zip (ys.map g)).map (fun p => PyData.tuple [p.1, p.2]) = (xs.zip ys).map fun p => .tuple [f p.1, g p.2] := by
  rw [List.zip_map, List.map_map]; rfl
theorem it_zip {F : Genv} {a b : CE} {Γ Γ1 Γ2 : List Tr} {ta tb : Tr} {da db : PyData} {xs ys : List PyData} (h1 : ev F a Γ = some (.ok ta Γ1)) (h2 : ev F b Γ1 = some (.ok tb Γ2)) (fa : frz ta = some da) (fb : frz tb = some db) (sa : seqD da = some xs) (sb : seqD db = some ys) :
    evIt F (.zip [.e a, .e b]) Γ = some (.ok ((xs.zip ys).map fun p => .tuple [p.1, p.2]) Γ2) := by
  simp [h1, h2, fa, fb, sa, sb]
@[simp] theorem seqD_t (ds : List PyData) : seqD (.tuple ds) = some ds := rfl
@[simp] theorem seqD_l (ds : List PyData) : seqD (.list ds) = some ds := rfl
theorem eq_k (o : Option Nat) (k : Nat) : cmpEv .Eq (.c (kD o)) (.c (.int k)) = some (decide (o = some k)) := by
  cases o with
  | none => rfl
  | some b => simp
theorem sum_le {α : Type} {f : α → Int} {b : Int} : ∀ {xs : List α}, (∀ x ∈ xs, 0 ≤ f x ∧ f x ≤ b) → 0 ≤ (xs.map f).sum ∧ (xs.map f).sum ≤ b * xs.length
  | [], _ => by simp
  | x :: xs, h => by
    have h1 := h x List.mem_cons_self
    have h2 := sum_le (f := f) (b := b) (xs := xs) fun y hy => h y (List.mem_cons_of_mem _ hy)
    simp only [List.map_cons, List.sum_cons, List.length_cons]
    have : b * ((xs.length + 1 : Nat) : Int) = b * xs.length + b := by rw [Int.natCast_add, Int.mul_add]; simp
    omega
def sqL (l : List Int) : Int := (l.map fun x => x * x).sum
def sqH (h : List (List Int)) : Int := (h.map sqL).sum
structure Smh (h : List (List Int)) : Prop where
  len : h.length ≤ 1000
  l : ∀ l ∈ h, l.length ≤ 1000
  b : ∀ l ∈ h, ∀ x ∈ l, sm x
theorem Sh.smh {N : Net} {h : List (List Int)} (o : OkN N) (s : Sh N h) (b : ∀ l ∈ h, ∀ x ∈ l, x.natAbs < 2 ^ 64) : Smh h := by
  have := o.n8; have := o.e4; have := s.len
  exact ⟨by omega, fun l hl => by have := s.l l hl; omega, fun l hl x hx => sm64 (b l hl x hx)⟩
def S_squares_of (run : List Tr → Option FR) : Prop := ∀ h, Smh h → run [.c (hD h)] = some (.ok (.c (.int (sqH h))) [.gone])
theorem w_squares_of (F : Genv) : S_squares_of (r_squares_of F) := by
  intro h s
  have hlc : ev F (.lc [1] (.nm 1) (.sq (.var 0)) [] (.prim (.bi .sum) [.e (.lc [2] (.nm 2) (.sq (.var 1)) [] (.prim .mul [.pk 2, .pk 2]))])) [.c (hD h), .gone, .gone]
      = some (.ok (.l (h.map fun l => .c (.int (sqL l)))) [.c (hD h), .gone, .gone]) := by
    refine lc_map (c := lnD) (Γ1 := [.c (hD h), .gone, .gone]) _ (by simp [hD]) (by simp) (fun l hl => ?_) (sz (by have := s.len; omega))
    have inner : ev F (.lc [2] (.nm 2) (.sq (.var 1)) [] (.prim .mul [.pk 2, .pk 2])) [.c (hD h), .c (lnD l), .gone] = some (.ok (.l (l.map fun x => .c (.int (x * x)))) [.c (hD h), .c (lnD l), .gone]) := by
      refine lc_map (c := iD) (Γ1 := [.c (hD h), .c (lnD l), .gone]) _ (by simp [lnD]) (by simp) (fun x hx => ?_) (sz (by have := s.l l hl; omega))
      exact ⟨_, [.c (hD h), .c (lnD l), .c (iD x)], rfl, by simp [iD, mul_sm (s.b l hl x hx) (s.b l hl x hx)], by simp⟩
    exact ⟨_, [.c (hD h), .c (lnD l), .gone], rfl, by simp [inner, sum_m, sqL], by simp⟩
  exact run_ret rfl (by decide) (Run.rt (t := .c (.int (sqH h))) (Γ1 := [.c (hD h), .gone, .gone]) (by simp [hlc, sum_m, sqH]) ⟨_, rfl, rfl⟩)
def S_squares (run : List Tr → Option FR) : Prop := ∀ N h, OkN N → OkH 1000000000 N h → run [.c (netD N), .c (hD h)] = some (.ok (.c (.int (sqH h))) [.gone, .gone])
theorem w_squares {F : Genv} (h1 : Fn F "need_net" S_need_net) (h2 : Fn F "need_heaps" (S_need_lines 1000000000 "NoHeaps")) (h3 : Fn F "squares_of" S_squares_of) : S_squares (r_squares F) := by
  obtain ⟨r1, f1, q1⟩ := h1
  obtain ⟨r2, f2, q2⟩ := h2
  obtain ⟨r3, f3, q3⟩ := h3
  intro N h o oh
  refine run_ret rfl (by decide) ?_
  refine Run.nx (Γ1 := [.c (netD N), .c (hD h)]) (by simp [f1, q1.1 N o]) ?_
  refine Run.nx (Γ1 := [.c (netD N), .c (hD h)]) (by simp [f2, q2.1 N h o oh]) ?_
  exact Run.rt (t := .c (.int (sqH h))) (Γ1 := [.c (netD N), .c (hD h)]) (by simp [f3, q3 h (oh.sh.smh o (oh.b64 (by decide)))]) ⟨_, rfl, rfl⟩
structure OkO (N : Net) (os : List (Option Nat)) : Prop where
  len : os.length = N.ties.length
  k : ∀ b, some b ∈ os → b < N.ends.length
def osD (os : List (Option Nat)) : PyData := .list (os.map kD)
theorem OkO.of {N : Net} {h : List (List Int)} (s : Sh N h) : OkO N (N.ties.map (offerA h)) := ⟨by simp, fun b hb => by
  obtain ⟨t, _, e⟩ := List.mem_map.mp hb
  have oi := offer_is h t
  rw [e] at oi
  have := oi.1; have := s.len; omega⟩
theorem PD.os {N : Net} {os : List (Option Nat)} (o : OkN N) (oo : OkO N os) : PD 1 4700 (osD os) := by
  refine (PD.list (k := 0) (s := 70) (n := 64) (fun d hd => ?_) (by rw [List.length_map, oo.len]; exact o.tlen)).mono (by decide) (by decide)
  obtain ⟨k, hk, rfl⟩ := List.mem_map.mp hd
  cases k with
  | none => exact PD.none
  | some b => have := oo.k b hk; have := o.e4; exact PD.int (by omega)
def S_is_offer (run : List Tr → Option FR) : Prop := ∀ N os, OkN N → OkO N os → run [.c (netD N), .c (osD os)] = some (.ok (.c (.bool true)) [.gone, .gone])
theorem w_is_offer {F : Genv} (h1 : Fn F "is_number" S_is_number) : S_is_offer (r_is_offer F) := by
  obtain ⟨r1, f1, q1⟩ := h1
  intro N os o oo
  have ol := oo.len
  have l64 := o.tlen
  refine run_ret rfl (by decide) ?_
  refine Run.skip (Γ1 := [.c (netD N), .c (osD os), .gone]) (by simp [osD, isLst, netD, ol]) ?_
  have hlc : ev F (.lc [2] (.nm 2) (.sq (.var 1)) [] (.or_ (.prim (.cmp .Is) [.pk 2, .e (.lit .none)]) (.call ("is_number" : Str) [.e (.var 2), .e (.lit (.int 0)), .e (.prim .sub [.e (.prim (.bi .len) [.e (.pth 0 [.lit (.int 1)])]), .e (.lit (.int 1))])]))) [.c (netD N), .c (osD os), .gone]
      = some (.ok (.l (os.map fun _ => .c (.bool true))) [.c (netD N), .c (osD os), .gone]) := by
    refine lc_map (c := kD) (Γ1 := [.c (netD N), .c (osD os), .gone]) _ (by simp [osD]) (by simp) (fun k hk => ?_) (sz (by omega))
    refine ⟨_, [.c (netD N), .c (osD os), .c (kD k)], rfl, ?_, by simp⟩
    cases k with
    | none => simp
    | some b =>
      have hb := oo.k b hk
      have e := q1 (.int (b : Nat)) 0 ((N.ends.length : Int) - 1)
      have e2 : isNum (.int (b : Int)) 0 ((N.ends.length : Int) - 1) = true := by simp; omega
      rw [e2] at e
      simp [netD, f1, e]
  exact Run.rt (t := .c (.bool true)) (Γ1 := [.c (netD N), .c (osD os), .gone]) (by simp [hlc, all_m]) ⟨_, rfl, rfl⟩
def wtA (h : List (List Int)) (p : Tie × Option Nat) : Int := match p.2 with
  | none => 0
  | some k => p.1.m * fallA h k p.1
def weightA (N : Net) (h : List (List Int)) (os : List (Option Nat)) : Int := ((N.ties.zip os).map (wtA h)).sum
theorem sm_fall {N : Net} {h : List (List Int)} (s : Sh N h) (b : ∀ l ∈ h, ∀ x ∈ l, x.natAbs < 2 ^ 62) {k : Nat} (hk : k < N.ends.length) {t : Tie} (o : OkT N.n t) : (fallA h k t).natAbs < 2 ^ 64 := by
  obtain ⟨l, g1, g2, gl⟩ := s.get hk o.i
  obtain ⟨l', g3, g4, gl'⟩ := s.get hk o.j
  have h1 := b l gl _ (List.mem_of_getElem? g2)
  have h2 := b l' gl' _ (List.mem_of_getElem? g4)
  unfold fallA
  omega
def S_weight_of (run : List Tr → Option FR) : Prop := ∀ N h os, OkN N → Sh N h → (∀ l ∈ h, ∀ x ∈ l, x.natAbs < 2 ^ 62) → OkO N os → run [.c (netD N), .c (hD h), .c (osD os)] = some (.ok (.c (.int (weightA N h os))) [.gone, .gone, .gone])
theorem w_weight_of {F : Genv} (h1 : Fn F "fall_along" S_fall_along) : S_weight_of (r_weight_of F) := by
  obtain ⟨r1, f1, q1⟩ := h1
  intro N h os o s b oo
  refine run_ret rfl (by decide) ?_
  refine Run.nx (Γ1 := [.c (netD N), .c (hD h), .c (osD os), .c (.int 0), .gone, .gone]) (by simp) ?_
  refine Run.forM (c := fun p : Tie × Option Nat => .tuple [tieD p.1, kD p.2]) (xs := N.ties.zip os) (Γ1 := [.c (netD N), .c (hD h), .c (osD os), .c (.int 0), .gone, .gone])
    (fun i Γ => ∃ j4 j5, Γ = [.c (netD N), .c (hD h), .c (osD os), .c (.int (((N.ties.zip os).take i).map (wtA h)).sum), j4, j5]) ?_ ⟨_, _, rfl⟩ ?_ ?_
  · rw [← zip_is]
    exact it_zip (ta := .c (.tuple (N.ties.map tieD))) (tb := .c (osD os)) (Γ1 := [.c (netD N), .c (hD h), .c (osD os), .c (.int 0), .gone, .gone]) (by simp [netD]) (by simp) rfl rfl rfl rfl
  · rintro i ⟨t, k⟩ Γ hi ⟨j4, j5, rfl⟩
    have hm := List.of_mem_zip (List.mem_of_getElem? hi)
    have ot := o.t t hm.1
    refine ⟨[.c (netD N), .c (hD h), .c (osD os), .c (.int (((N.ties.zip os).take i).map (wtA h)).sum), .c (tieD t), .c (kD k)], by simp, ?_⟩
    rw [take_sum hi]
    generalize (((N.ties.zip os).take i).map (wtA h)).sum = a
    cases k with
    | none =>
      refine Run.skip (Γ1 := [.c (netD N), .c (hD h), .c (osD os), .c (.int a), .c (tieD t), .c (kD none)]) (by simp) (Run.nil ⟨_, _, by rw [show a + wtA h (t, none) = a by simp [wtA]]⟩)
    | some k =>
      have hk := oo.k k hm.2
      have e := q1 N h k t s hk ot
      have m := mul_sm (i := t.m) (sm64 (by have := ot.lo; have := ot.hi; omega)) (sm64 (sm_fall s b hk ot))
      refine Run.iteT (Γ1 := [.c (netD N), .c (hD h), .c (osD os), .c (.int a), .c (tieD t), .c (kD (some k))]) (by simp) ?_
      refine Run.nx (Γ1 := [.c (netD N), .c (hD h), .c (osD os), .c (.int (a + wtA h (t, some k))), .c (tieD t), .c (kD (some k))]) ?_ (Run.nil (Run.nil ⟨_, _, rfl⟩))
      simp [tieD] at e ⊢
      simp [f1, e, m, wtA]
  · rintro Γ ⟨j4, j5, rfl⟩
    rw [List.take_length]
    exact Run.rt (t := .c (.int (weightA N h os))) (Γ1 := [.c (netD N), .c (hD h), .c (osD os), .gone, j4, j5]) (by simp [weightA]) ⟨_, rfl, rfl⟩
def S_weight (run : List Tr → Option FR) : Prop := ∀ N h os, OkN N → OkH 1000000000 N h → OkO N os → run [.c (netD N), .c (hD h), .c (osD os)] = some (.ok (.c (.int (weightA N h os))) [.gone, .gone, .gone])
theorem OkH.b62 {high : Int} {N : Net} {h : List (List Int)} (o : OkH high N h) (hh : high ≤ 1000000000) : ∀ l ∈ h, ∀ x ∈ l, x.natAbs < 2 ^ 62 := fun l hl x hx => by
  have := o.b l hl x hx
  omega
theorem w_weight {F : Genv} (h1 : Fn F "need_net" S_need_net) (h2 : Fn F "need_heaps" (S_need_lines 1000000000 "NoHeaps")) (h3 : Fn F "is_offer" S_is_offer) (h4 : Fn F "weight_of" S_weight_of) : S_weight (r_weight F) := by
  obtain ⟨r1, f1, q1⟩ := h1
  obtain ⟨r2, f2, q2⟩ := h2
  obtain ⟨r3, f3, q3⟩ := h3
  obtain ⟨r4, f4, q4⟩ := h4
  intro N h os o oh oo
  refine run_ret rfl (by decide) ?_
  refine Run.nx (Γ1 := [.c (netD N), .c (hD h), .c (osD os)]) (by simp [f1, q1.1 N o]) ?_
  refine Run.nx (Γ1 := [.c (netD N), .c (hD h), .c (osD os)]) (by simp [f2, q2.1 N h o oh]) ?_
  refine Run.skip (Γ1 := [.c (netD N), .c (hD h), .c (osD os)]) (by simp [f3, q3 N os o oo]) ?_
  exact Run.rt (t := .c (.int (weightA N h os))) (Γ1 := [.c (netD N), .c (hD h), .c (osD os)]) (by simp [f4, q4 N h os o oh.sh (oh.b62 (by decide)) oo]) ⟨_, rfl, rfl⟩
end Hp
set_option Elab.async false
set_option linter.all false
set_option maxRecDepth 100000
set_option maxHeartbeats 400000
namespace Hp
open PySem PySem.Spec PyProof.Rows L2 Hw
def endp (side : Bool) (t : Tie) : Nat := if side then t.j else t.i
def sideI (side : Bool) : Int := if side then 1 else 0
def offeredA (N : Net) (os : List (Option Nat)) (kind place : Nat) (side : Bool) : Int :=
  (((N.ties.zip os).filter fun p => decide (endp side p.1 = place) && decide (p.2 = some kind)).map fun p => p.1.m).sum
theorem filter_sum {α : Type} {f : α → Int} {p : α → Bool} {b : Int} {n : Nat} {xs : List α} (h : ∀ x ∈ xs, 0 ≤ f x ∧ f x ≤ b) (hb : 0 ≤ b) (hl : xs.length ≤ n) : 0 ≤ ((xs.filter p).map f).sum ∧ ((xs.filter p).map f).sum ≤ b * n := by
  have h1 := sum_le (f := f) (b := b) (xs := xs.filter p) fun x hx => h x (List.mem_filter.mp hx).1
  have h2 : (xs.filter p).length ≤ xs.length := List.length_filter_le ..
  refine ⟨h1.1, Int.le_trans h1.2 (Int.mul_le_mul_of_nonneg_left (by omega) hb)⟩
theorem offeredA_b {N : Net} (o : OkN N) (os : List (Option Nat)) (kind place : Nat) (side : Bool) : 0 ≤ offeredA N os kind place side ∧ offeredA N os kind place side ≤ 576 := by
  have := filter_sum (f := fun p : Tie × Option Nat => p.1.m) (p := fun p => decide (endp side p.1 = place) && decide (p.2 = some kind)) (b := 9) (n := 64) (xs := N.ties.zip os) (fun x hx => by
    have ot := o.t x.1 (List.of_mem_zip (a := x.1) (b := x.2) hx).1
    have := ot.lo; have := ot.hi; omega) (by decide) (by rw [List.length_zip]; have := o.tlen; omega)
  exact ⟨this.1, Int.le_trans this.2 (by decide)⟩
def S_offered_at (run : List Tr → Option FR) : Prop := ∀ N os (kind place : Nat) (side : Bool), OkN N → run [.c (netD N), .c (osD os), .c (.int kind), .c (.int place), .c (.int (sideI side))] = some (.ok (.c (.int (offeredA N os kind place side))) [.gone, .gone, .gone, .gone, .gone])
theorem w_offered_at (F : Genv) : S_offered_at (r_offered_at F) := by
  intro N os kind place side o
  have hlc : ev F (.lc [5, 6] (.tp [5, 6]) (.zip [.e (.pth 0 [.lit (.int 2)]), .e (.var 1)]) [.and_ (.e (.prim (.cmp .Eq) [.e (.pth 5 [.var 4]), .pk 3])) (.e (.prim (.cmp .Eq) [.pk 6, .pk 2]))] (.pth 5 [.lit (.int 2)])) [.c (netD N), .c (osD os), .c (.int kind), .c (.int place), .c (.int (sideI side)), .gone, .gone]
      = some (.ok (.l (((N.ties.zip os).filter fun p => decide (endp side p.1 = place) && decide (p.2 = some kind)).map fun p => .c (.int p.1.m))) [.c (netD N), .c (osD os), .c (.int kind), .c (.int place), .c (.int (sideI side)), .gone, .gone]) := by
    refine lc_fil (c := fun p : Tie × Option Nat => .tuple [tieD p.1, kD p.2]) (Γ1 := [.c (netD N), .c (osD os), .c (.int kind), .c (.int place), .c (.int (sideI side)), .gone, .gone]) _ _ ?_ (by simp) (fun p hp => ?_) (sz (by rw [List.length_zip]; have := o.tlen; omega))
    · rw [← zip_is]
      exact it_zip (ta := .c (.tuple (N.ties.map tieD))) (tb := .c (osD os)) (Γ1 := [.c (netD N), .c (osD os), .c (.int kind), .c (.int place), .c (.int (sideI side)), .gone, .gone]) (by simp [netD]) (by simp) rfl rfl rfl rfl
    · refine ⟨_, [.c (netD N), .c (osD os), .c (.int kind), .c (.int place), .c (.int (sideI side)), .c (tieD p.1), .c (kD p.2)], by simp; rfl, ?_, by simp, fun h => ⟨[.c (netD N), .c (osD os), .c (.int kind), .c (.int place), .c (.int (sideI side)), .c (tieD p.1), .c (kD p.2)], by simp [tieD], by simp⟩⟩
      cases side with
      | false => by_cases z : p.1.i = place <;> simp [sideI, endp, tieD, z, eq_k]
      | true => by_cases z : p.1.j = place <;> simp [sideI, endp, tieD, z, eq_k]
  exact run_ret rfl (by decide) (Run.rt (t := .c (.int (offeredA N os kind place side))) (Γ1 := [.c (netD N), .c (osD os), .c (.int kind), .c (.int place), .c (.int (sideI side)), .gone, .gone]) (by
    have sm := sum_m (fun p : Tie × Option Nat => p.1.m) ((N.ties.zip os).filter fun p => decide (endp side p.1 = place) && decide (p.2 = some kind))
    simp [hlc, sm, offeredA]) ⟨_, rfl, rfl⟩)
def placesOf (n e : Nat) : List Nat := (List.range n).filter fun p => !decide (p = e)
theorem ev_places {F : Genv} {Γ Γ' : List Tr} {n e s u : Nat} {rg : CE} (hn : n ≤ 1000) (h1 : ev F rg Γ = some (.ok (.c (.int (n : Nat))) Γ)) (h0 : wipeT Γ [s] = Γ) (hs : s < Γ.length) (hu : s ≠ u) (he : Γ[u]? = some (.c (.int (e : Nat)))) :
    ev F (.lc [s] (.nm s) (.rng1 rg) [.e (.prim (.cmp .NotEq) [.pk s, .pk u])] (.var s)) Γ = some (.ok (mpT nD (placesOf n e)) Γ) := by
  refine (lc_fil (c := nD) (xs := List.range n) (Γ1 := Γ) (Γ0 := Γ) (fun p => !decide (p = e)) (fun p => .c (nD p)) (rng1_n h1 (by omega)) h0 (fun p hp => ?_) (sz (by simp; omega))).trans rfl
  have hl : s < (Γ.set s (.c (nD p))).length := by rw [List.length_set]; exact hs
  have g1 : (Γ.set s (.c (nD p)))[s]? = some (.c (.int (p : Nat))) := List.getElem?_set_self hs
  have g2 : (Γ.set s (.c (nD p)))[u]? = some (.c (.int (e : Nat))) := by rw [List.getElem?_set_ne hu]; exact he
  have o1 : slotOk (Γ.set s (.c (nD p))) s = true := by unfold slotOk; rw [g1]
  have o2 : slotOk (Γ.set s (.c (nD p))) u = true := by unfold slotOk; rw [g2]
  have w : wipeT (Γ.set s (.c (nD p))) [s] = Γ := by
    simp only [wipe1, wipe0] at h0 ⊢
    rw [List.set_set]; exact h0
  refine ⟨Γ.set s (.c (nD p)), Γ.set s (.c (nD p)), rfl, ?_, w, fun _ => ⟨Γ.set s (.c (nD p)), by simp [g1]; rfl, w⟩⟩
  simp only [nD] at *
  simp [o1, o2, g1, g2]
def sqr (x : Int) : Int := x * x
def muchK (N : Net) (c : List (List Int)) (os : List (Option Nat)) (p : Nat × Nat) (pl : Nat) : Int := sqr (offeredA N os p.2 pl false) + sqr (offeredA N os p.2 pl true + cell c p.2 pl)
def muchA (N : Net) (c : List (List Int)) (os : List (Option Nat)) : Int := (N.ends.zipIdx.map fun p => ((placesOf N.n p.1).map (muchK N c os p)).sum).sum
theorem zipIdx_nD (l : List Nat) : ((l.map nD).zipIdx.map fun p => PyData.tuple [.int (p.2 : Nat), p.1]) = l.zipIdx.map fun p => .tuple [.int (p.2 : Nat), nD p.1] := by
  rw [List.zipIdx_map, List.map_map]; rfl
theorem it_enm {F : Genv} {a : CE} {Γ Γ1 : List Tr} {l : List Nat} (h : ev F a Γ = some (.ok (.c (.tuple (l.map nD))) Γ1)) : evIt F (.enm a) Γ = some (.ok (l.zipIdx.map fun p => .tuple [.int (p.2 : Nat), nD p.1]) Γ1) := by
  rw [← zipIdx_nD]; simp [h]
theorem mem_places {n e p : Nat} (h : p ∈ placesOf n e) : p < n ∧ p ≠ e := by
  unfold placesOf at h
  rw [List.mem_filter, List.mem_range] at h
  exact ⟨h.1, by simpa using h.2⟩
def S_much_of (run : List Tr → Option FR) : Prop := ∀ N c os, OkN N → Sh N c → (∀ l ∈ c, ∀ x ∈ l, x.natAbs < 2 ^ 62) → run [.c (netD N), .c (hD c), .c (osD os)] = some (.ok (.c (.int (muchA N c os))) [.gone, .gone, .gone])
theorem w_much_of {F : Genv} (h1 : Fn F "offered_at" S_offered_at) : S_much_of (r_much_of F) := by
  obtain ⟨r1, f1, q1⟩ := h1
  intro N c os o s b
  have n8 := o.n8
  refine run_ret rfl (by decide) ?_
  refine Run.nx (Γ1 := [.c (netD N), .c (hD c), .c (osD os), .c (.int 0), .gone, .gone, .gone, .gone, .gone, .gone]) (by simp) ?_
  refine Run.forM (c := fun p : Nat × Nat => .tuple [.int (p.2 : Nat), nD p.1]) (xs := N.ends.zipIdx) (Γ1 := [.c (netD N), .c (hD c), .c (osD os), .c (.int 0), .gone, .gone, .gone, .gone, .gone, .gone])
    (fun i Γ => ∃ j4 j5 j6 j7 j8, Γ = [.c (netD N), .c (hD c), .c (osD os), .c (.int ((N.ends.zipIdx.take i).map fun p => ((placesOf N.n p.1).map (muchK N c os p)).sum).sum), j4, j5, j6, j7, j8, .gone]) (it_enm (by simp [netD])) ⟨_, _, _, _, _, rfl⟩ ?_ ?_
  · rintro i p Γ hi ⟨j4, j5, j6, j7, j8, rfl⟩
    have hp := (List.mem_zipIdx_iff_getElem? (x := p)).mp (List.mem_of_getElem? hi)
    have hk : p.2 < N.ends.length := (List.getElem?_eq_some_iff.mp hp).1
    have ts := take_sum (f := fun p : Nat × Nat => ((placesOf N.n p.1).map (muchK N c os p)).sum) hi
    generalize ((N.ends.zipIdx.take i).map fun p => ((placesOf N.n p.1).map (muchK N c os p)).sum).sum = a at *
    refine ⟨[.c (netD N), .c (hD c), .c (osD os), .c (.int a), .c (.int (p.2 : Nat)), .c (nD p.1), j6, j7, j8, .gone], by simp, ?_⟩
    refine Run.forM (c := nD) (xs := placesOf N.n p.1) (Γ1 := [.c (netD N), .c (hD c), .c (osD os), .c (.int a), .c (.int (p.2 : Nat)), .c (nD p.1), j6, j7, j8, .gone])
      (fun k Γ => ∃ j6 j7 j8, Γ = [.c (netD N), .c (hD c), .c (osD os), .c (.int (a + (((placesOf N.n p.1).take k).map (muchK N c os p)).sum)), .c (.int (p.2 : Nat)), .c (nD p.1), j6, j7, j8, .gone]) ?_ ⟨j6, j7, j8, by simp⟩ ?_ ?_
    · have := ev_places (F := F) (Γ := [.c (netD N), .c (hD c), .c (osD os), .c (.int a), .c (.int (p.2 : Nat)), .c (nD p.1), j6, j7, j8, .gone]) (n := N.n) (e := p.1) (s := 9) (u := 5) (rg := .pth 0 [.lit (.int 0)]) (Γ' := []) (by omega) (by simp [netD]) (by simp) (by simp) (by decide) (by simp [nD])
      simp only [si1, this]
      simp [mpT, frz_m]
    · rintro k pl Γ hkk ⟨j6, j7, j8, rfl⟩
      have hpl := mem_places (List.mem_of_getElem? hkk)
      obtain ⟨l, g1, g2, gl⟩ := s.get hk hpl.1
      have bc := b l gl _ (List.mem_of_getElem? g2)
      refine ⟨[.c (netD N), .c (hD c), .c (osD os), .c (.int (a + (((placesOf N.n p.1).take k).map (muchK N c os p)).sum)), .c (.int (p.2 : Nat)), .c (nD p.1), .c (nD pl), j7, j8, .gone], rfl, ?_⟩
      rw [take_sum hkk]
      generalize (((placesOf N.n p.1).take k).map (muchK N c os p)).sum = d
      have e1 := q1 N os p.2 pl false o
      have e2 := q1 N os p.2 pl true o
      have b1 := offeredA_b o os p.2 pl false
      have b2 := offeredA_b o os p.2 pl true
      simp only [sideI, Bool.false_eq_true, if_false, if_true] at e1 e2
      have m1 := mul_sm (sm64 (i := offeredA N os p.2 pl false) (by omega)) (sm64 (i := offeredA N os p.2 pl false) (by omega))
      have s2 : sm (offeredA N os p.2 pl true + cell c p.2 pl) := sm64 (by omega)
      have m2 := mul_sm s2 s2
      refine Run.nx (Γ1 := [.c (netD N), .c (hD c), .c (osD os), .c (.int (a + d)), .c (.int (p.2 : Nat)), .c (nD p.1), .c (nD pl), .c (.int (offeredA N os p.2 pl false)), j8, .gone]) (by simp [nD, f1, e1]) ?_
      refine Run.nx (Γ1 := [.c (netD N), .c (hD c), .c (osD os), .c (.int (a + d)), .c (.int (p.2 : Nat)), .c (nD p.1), .c (nD pl), .c (.int (offeredA N os p.2 pl false)), .c (.int (offeredA N os p.2 pl true + cell c p.2 pl)), .gone]) ?_ ?_
      · have hc : hD c = .tuple (c.map lnD) := rfl
        simp [nD, f1, e2, hc, g1, lnD, g2, iD]
      · refine Run.nx (Γ1 := [.c (netD N), .c (hD c), .c (osD os), .c (.int (a + (d + muchK N c os p pl))), .c (.int (p.2 : Nat)), .c (nD p.1), .c (nD pl), .c (.int (offeredA N os p.2 pl false)), .c (.int (offeredA N os p.2 pl true + cell c p.2 pl)), .gone]) ?_ (Run.nil ⟨_, _, _, rfl⟩)
        simp [m1, m2, muchK, sqr, Int.add_assoc]
    · rintro Γ ⟨j6, j7, j8, rfl⟩
      rw [List.take_length]
      exact Run.nil ⟨.c (.int (p.2 : Nat)), .c (nD p.1), j6, j7, j8, by rw [ts]⟩
  · rintro Γ ⟨j4, j5, j6, j7, j8, rfl⟩
    rw [List.take_length]
    exact Run.rt (t := .c (.int (muchA N c os))) (Γ1 := [.c (netD N), .c (hD c), .c (osD os), .gone, j4, j5, j6, j7, j8, .gone]) (by simp [muchA]) ⟨_, rfl, rfl⟩
def hpL (p : List Int × List Int) : Int := ((p.1.zip p.2).map fun q => q.1 * q.2).sum
def heapedA (h c : List (List Int)) : Int := ((h.zip c).map hpL).sum
def S_heaped_of (run : List Tr → Option FR) : Prop := ∀ h c, Smh h → Smh c → run [.c (hD h), .c (hD c)] = some (.ok (.c (.int (heapedA h c))) [.gone, .gone])
theorem w_heaped_of (F : Genv) : S_heaped_of (r_heaped_of F) := by
  intro h c sh sc
  have hlc : ev F (.lc [2, 3] (.tp [2, 3]) (.zip [.e (.var 0), .e (.var 1)]) [] (.prim (.bi .sum) [.e (.lc [4, 5] (.tp [4, 5]) (.zip [.e (.var 2), .e (.var 3)]) [] (.prim .mul [.pk 4, .pk 5]))])) [.c (hD h), .c (hD c), .gone, .gone, .gone, .gone]
      = some (.ok (.l ((h.zip c).map fun p => .c (.int (hpL p)))) [.c (hD h), .c (hD c), .gone, .gone, .gone, .gone]) := by
    refine lc_map (c := fun p : List Int × List Int => .tuple [lnD p.1, lnD p.2]) (Γ1 := [.c (hD h), .c (hD c), .gone, .gone, .gone, .gone]) _ ?_ (by simp) (fun p hp => ?_) (sz (by rw [List.length_zip]; have := sh.len; omega))
    · rw [← zip_is]
      exact it_zip (ta := .c (hD h)) (tb := .c (hD c)) (Γ1 := [.c (hD h), .c (hD c), .gone, .gone, .gone, .gone]) (by simp) (by simp) rfl rfl rfl rfl
    · have hp' := List.of_mem_zip (a := p.1) (b := p.2) hp
      have inner : ev F (.lc [4, 5] (.tp [4, 5]) (.zip [.e (.var 2), .e (.var 3)]) [] (.prim .mul [.pk 4, .pk 5])) [.c (hD h), .c (hD c), .c (lnD p.1), .c (lnD p.2), .gone, .gone]
          = some (.ok (.l ((p.1.zip p.2).map fun q => .c (.int (q.1 * q.2)))) [.c (hD h), .c (hD c), .c (lnD p.1), .c (lnD p.2), .gone, .gone]) := by
        refine lc_map (c := fun q : Int × Int => .tuple [iD q.1, iD q.2]) (Γ1 := [.c (hD h), .c (hD c), .c (lnD p.1), .c (lnD p.2), .gone, .gone]) _ ?_ (by simp) (fun q hq => ?_) (sz (by rw [List.length_zip]; have := sh.l p.1 hp'.1; omega))
        · rw [← zip_is]
          exact it_zip (ta := .c (lnD p.1)) (tb := .c (lnD p.2)) (Γ1 := [.c (hD h), .c (hD c), .c (lnD p.1), .c (lnD p.2), .gone, .gone]) (by simp) (by simp) rfl rfl rfl rfl
        · have hq' := List.of_mem_zip (a := q.1) (b := q.2) hq
          have m := mul_sm (sh.b _ hp'.1 _ hq'.1) (sc.b _ hp'.2 _ hq'.2)
          exact ⟨_, [.c (hD h), .c (hD c), .c (lnD p.1), .c (lnD p.2), .c (iD q.1), .c (iD q.2)], by simp; rfl, by simp [iD, m], by simp⟩
      have sm := sum_m (fun q : Int × Int => q.1 * q.2) (p.1.zip p.2)
      exact ⟨_, [.c (hD h), .c (hD c), .c (lnD p.1), .c (lnD p.2), .gone, .gone], by simp; rfl, by simp [inner, sm, hpL], by simp⟩
  have sm := sum_m hpL (h.zip c)
  exact run_ret rfl (by decide) (Run.rt (t := .c (.int (heapedA h c))) (Γ1 := [.c (hD h), .c (hD c), .gone, .gone, .gone, .gone]) (by simp [hlc, sm, heapedA]) ⟨_, rfl, rfl⟩)
def S_rise (run : List Tr → Option FR) : Prop := ∀ N h c, OkN N → OkH 1000000000 N h → OkH 9 N c → run [.c (netD N), .c (hD h), .c (hD c)] = some (.ok (.c (.tuple [.int (muchA N c (N.ties.map (offerA h))), .int (heapedA h c)])) [.gone, .gone, .gone])
theorem w_rise {F : Genv} (h1 : Fn F "need_net" S_need_net) (h2 : Fn F "need_heaps" (S_need_lines 1000000000 "NoHeaps")) (h3 : Fn F "need_comers" (S_need_lines 9 "NoComers")) (h4 : Fn F "offer_over" S_offer_over) (h5 : Fn F "all_ties" S_all_ties) (h6 : Fn F "much_of" S_much_of) (h7 : Fn F "heaped_of" S_heaped_of) : S_rise (r_rise F) := by
  obtain ⟨r1, f1, q1⟩ := h1
  obtain ⟨r2, f2, q2⟩ := h2
  obtain ⟨r3, f3, q3⟩ := h3
  obtain ⟨r4, f4, q4⟩ := h4
  obtain ⟨r5, f5, q5⟩ := h5
  obtain ⟨r6, f6, q6⟩ := h6
  obtain ⟨r7, f7, q7⟩ := h7
  intro N h c o oh oc
  refine run_ret rfl (by decide) ?_
  refine Run.nx (Γ1 := [.c (netD N), .c (hD h), .c (hD c), .gone]) (by simp [f1, q1.1 N o]) ?_
  refine Run.nx (Γ1 := [.c (netD N), .c (hD h), .c (hD c), .gone]) (by simp [f2, q2.1 N h o oh]) ?_
  refine Run.nx (Γ1 := [.c (netD N), .c (hD h), .c (hD c), .gone]) (by simp [f3, q3.1 N c o oc]) ?_
  have e := q4 N h (List.range N.ties.length) o oh.sh
  rw [offO_all] at e
  have e6 := q6 N c (N.ties.map (offerA h)) o oc.sh (oc.b62 (by decide))
  have e7 := q7 h c (oh.sh.smh o (oh.b64 (by decide))) (oc.sh.smh o (oc.b64 (by decide)))
  generalize N.ties.map (offerA h) = os at *
  refine Run.nx (Γ1 := [.c (netD N), .c (hD h), .c (hD c), mpT kD os]) (by simp [f4, f5, q5 N o, e]) ?_
  refine Run.rt (t := .c (.tuple [.int (muchA N c os), .int (heapedA h c)])) (Γ1 := [.c (netD N), .c (hD h), .c (hD c), .c (osD os)]) ?_ ⟨_, rfl, rfl⟩
  simp only [osD] at e6
  simp [mpT, frz_m, f6, f7, e6, e7, osD]
def outA (N : Net) (side : Bool) (pl : Nat) : Int := ((N.ties.filter fun t => decide (endp side t = pl)).map (·.m)).sum
def grK (N : Net) (k : Int) (pl : Nat) : Int := sqr (outA N false pl) + sqr (outA N true pl + k)
def greatA (N : Net) (k : Int) : Int := (N.ends.map fun e => ((placesOf N.n e).map (grK N k)).sum).sum
theorem outA_b {N : Net} (o : OkN N) (side : Bool) (pl : Nat) : 0 ≤ outA N side pl ∧ outA N side pl ≤ 576 := by
  have := filter_sum (f := fun t : Tie => t.m) (p := fun t => decide (endp side t = pl)) (b := 9) (n := 64) (xs := N.ties) (fun x hx => by
    have ot := o.t x hx
    have := ot.lo; have := ot.hi; omega) (by decide) o.tlen
  exact ⟨this.1, Int.le_trans this.2 (by decide)⟩
def S_greatest_in (run : List Tr → Option FR) : Prop := ∀ N (k : Int), OkN N → k.natAbs < 2 ^ 62 → run [.c (netD N), .c (.int k)] = some (.ok (.c (.int (greatA N k))) [.gone, .gone])
theorem w_greatest_in (F : Genv) : S_greatest_in (r_greatest_in F) := by
  intro N kk o hk
  have n8 := o.n8
  refine run_ret rfl (by decide) ?_
  refine Run.nx (Γ1 := [.c (netD N), .c (.int kk), .c (.int 0), .gone, .gone, .gone, .gone, .gone, .gone]) (by simp) ?_
  refine Run.forM (c := nD) (xs := N.ends) (Γ1 := [.c (netD N), .c (.int kk), .c (.int 0), .gone, .gone, .gone, .gone, .gone, .gone])
    (fun i Γ => ∃ j3 j4 j5 j6, Γ = [.c (netD N), .c (.int kk), .c (.int ((N.ends.take i).map fun e => ((placesOf N.n e).map (grK N kk)).sum).sum), j3, j4, j5, j6, .gone, .gone]) (by simp [netD]) ⟨_, _, _, _, rfl⟩ ?_ ?_
  · rintro i e Γ hi ⟨j3, j4, j5, j6, rfl⟩
    have ts := take_sum (f := fun e : Nat => ((placesOf N.n e).map (grK N kk)).sum) hi
    generalize ((N.ends.take i).map fun e => ((placesOf N.n e).map (grK N kk)).sum).sum = a at *
    refine ⟨[.c (netD N), .c (.int kk), .c (.int a), .c (nD e), j4, j5, j6, .gone, .gone], by simp, ?_⟩
    refine Run.forM (c := nD) (xs := placesOf N.n e) (Γ1 := [.c (netD N), .c (.int kk), .c (.int a), .c (nD e), j4, j5, j6, .gone, .gone])
      (fun k Γ => ∃ j4 j5 j6, Γ = [.c (netD N), .c (.int kk), .c (.int (a + (((placesOf N.n e).take k).map (grK N kk)).sum)), .c (nD e), j4, j5, j6, .gone, .gone]) ?_ ⟨j4, j5, j6, by simp⟩ ?_ ?_
    · have := ev_places (F := F) (Γ := [.c (netD N), .c (.int kk), .c (.int a), .c (nD e), j4, j5, j6, .gone, .gone]) (n := N.n) (e := e) (s := 7) (u := 3) (rg := .pth 0 [.lit (.int 0)]) (Γ' := []) (by omega) (by simp [netD]) (by simp) (by simp) (by decide) (by simp [nD])
      simp only [si1, this]
      simp [mpT, frz_m]
    · rintro k pl Γ hkk ⟨j4, j5, j6, rfl⟩
      refine ⟨[.c (netD N), .c (.int kk), .c (.int (a + (((placesOf N.n e).take k).map (grK N kk)).sum)), .c (nD e), .c (nD pl), j5, j6, .gone, .gone], rfl, ?_⟩
      rw [take_sum hkk]
      generalize (((placesOf N.n e).take k).map (grK N kk)).sum = d
      have b1 := outA_b o false pl
      have b2 := outA_b o true pl
      have m1 := mul_sm (sm64 (i := outA N false pl) (by omega)) (sm64 (i := outA N false pl) (by omega))
      have s2 : sm (outA N true pl + kk) := sm64 (by omega)
      have m2 := mul_sm s2 s2
      have hl0 : ∀ x5 x6, ev F (.lc [8] (.nm 8) (.sq (.pth 0 [.lit (.int 2)])) [.e (.prim (.cmp .Eq) [.e (.pth 8 [.lit (.int 0)]), .pk 4])] (.pth 8 [.lit (.int 2)])) [.c (netD N), .c (.int kk), .c (.int (a + d)), .c (nD e), .c (nD pl), x5, x6, .gone, .gone]
          = some (.ok (.l ((N.ties.filter fun t => decide (endp false t = pl)).map fun t => .c (.int t.m))) [.c (netD N), .c (.int kk), .c (.int (a + d)), .c (nD e), .c (nD pl), x5, x6, .gone, .gone]) := by
        intro x5 x6
        refine lc_fil (c := tieD) (Γ1 := [.c (netD N), .c (.int kk), .c (.int (a + d)), .c (nD e), .c (nD pl), x5, x6, .gone, .gone]) _ _ (by simp [netD]) (by simp) (fun t ht => ?_) (sz (by have := o.tlen; omega))
        exact ⟨_, [.c (netD N), .c (.int kk), .c (.int (a + d)), .c (nD e), .c (nD pl), x5, x6, .gone, .c (tieD t)], rfl, by simp [tieD, nD, endp], by simp, fun _ => ⟨[.c (netD N), .c (.int kk), .c (.int (a + d)), .c (nD e), .c (nD pl), x5, x6, .gone, .c (tieD t)], by simp [tieD], by simp⟩⟩
      have hl1 : ∀ x5 x6, ev F (.lc [8] (.nm 8) (.sq (.pth 0 [.lit (.int 2)])) [.e (.prim (.cmp .Eq) [.e (.pth 8 [.lit (.int 1)]), .pk 4])] (.pth 8 [.lit (.int 2)])) [.c (netD N), .c (.int kk), .c (.int (a + d)), .c (nD e), .c (nD pl), x5, x6, .gone, .gone]
          = some (.ok (.l ((N.ties.filter fun t => decide (endp true t = pl)).map fun t => .c (.int t.m))) [.c (netD N), .c (.int kk), .c (.int (a + d)), .c (nD e), .c (nD pl), x5, x6, .gone, .gone]) := by
        intro x5 x6
        refine lc_fil (c := tieD) (Γ1 := [.c (netD N), .c (.int kk), .c (.int (a + d)), .c (nD e), .c (nD pl), x5, x6, .gone, .gone]) _ _ (by simp [netD]) (by simp) (fun t ht => ?_) (sz (by have := o.tlen; omega))
        exact ⟨_, [.c (netD N), .c (.int kk), .c (.int (a + d)), .c (nD e), .c (nD pl), x5, x6, .gone, .c (tieD t)], rfl, by simp [tieD, nD, endp], by simp, fun _ => ⟨[.c (netD N), .c (.int kk), .c (.int (a + d)), .c (nD e), .c (nD pl), x5, x6, .gone, .c (tieD t)], by simp [tieD], by simp⟩⟩
      have u0 := sum_m (fun t : Tie => t.m) (N.ties.filter fun t => decide (endp false t = pl))
      have u1 := sum_m (fun t : Tie => t.m) (N.ties.filter fun t => decide (endp true t = pl))
      refine Run.nx (Γ1 := [.c (netD N), .c (.int kk), .c (.int (a + d)), .c (nD e), .c (nD pl), .c (.int (outA N false pl)), j6, .gone, .gone]) (by simp [hl0, u0, outA]) ?_
      refine Run.nx (Γ1 := [.c (netD N), .c (.int kk), .c (.int (a + d)), .c (nD e), .c (nD pl), .c (.int (outA N false pl)), .c (.int (outA N true pl + kk)), .gone, .gone]) (by simp [hl1, u1, outA]) ?_
      refine Run.nx (Γ1 := [.c (netD N), .c (.int kk), .c (.int (a + (d + grK N kk pl))), .c (nD e), .c (nD pl), .c (.int (outA N false pl)), .c (.int (outA N true pl + kk)), .gone, .gone]) ?_ (Run.nil ⟨_, _, _, rfl⟩)
      simp [m1, m2, grK, sqr, Int.add_assoc]
    · rintro Γ ⟨j4, j5, j6, rfl⟩
      rw [List.take_length]
      exact Run.nil ⟨.c (nD e), j4, j5, j6, by rw [ts]⟩
  · rintro Γ ⟨j3, j4, j5, j6, rfl⟩
    rw [List.take_length]
    exact Run.rt (t := .c (.int (greatA N kk))) (Γ1 := [.c (netD N), .c (.int kk), .gone, j3, j4, j5, j6, .gone, .gone]) (by simp [greatA]) ⟨_, rfl, rfl⟩
def S_greatest (run : List Tr → Option FR) : Prop := ∀ N (k : Int), OkN N → 0 ≤ k → k ≤ 9 → run [.c (netD N), .c (.int k)] = some (.ok (.c (.int (greatA N k))) [.gone, .gone])
theorem w_greatest {F : Genv} (h1 : Fn F "need_net" S_need_net) (h2 : Fn F "is_number" S_is_number) (h3 : Fn F "greatest_in" S_greatest_in) (g : F.gl "MOST_COMING" = some (.int 9)) : S_greatest (r_greatest F) := by
  obtain ⟨r1, f1, q1⟩ := h1
  obtain ⟨r2, f2, q2⟩ := h2
  obtain ⟨r3, f3, q3⟩ := h3
  intro N k o k0 k9
  refine run_ret rfl (by decide) ?_
  refine Run.nx (Γ1 := [.c (netD N), .c (.int k)]) (by simp [f1, q1.1 N o]) ?_
  refine Run.skip (Γ1 := [.c (netD N), .c (.int k)]) (by simp [f2, q2 (.int k) 0 9, g, k0, k9]) ?_
  exact Run.rt (t := .c (.int (greatA N k))) (Γ1 := [.c (netD N), .c (.int k)]) (by simp [f3, q3 N k o (by omega)]) ⟨_, rfl, rfl⟩
end Hp
set_option Elab.async false
set_option linter.all false
set_option maxRecDepth 100000
set_option maxHeartbeats 400000
namespace Hp
open PySem PySem.Spec PyProof.Rows L2 Hw
theorem fil_ite {α : Type} (f : α → Int) (p : α → Bool) : ∀ xs : List α, ((xs.filter p).map f).sum = (xs.map fun x => if p x = true then f x else 0).sum
  | [] => rfl
  | x :: xs => by
    have ih := fil_ite f p xs
    cases q : p x <;> simp [List.filter_cons, q, ih]
def oneA (side : Bool) (pl : Nat) (t : Tie) : Int := if decide (endp side t = pl) = true then t.m else 0
theorem oneA_b {n : Nat} {t : Tie} (o : OkT n t) (side : Bool) (pl : Nat) : 0 ≤ oneA side pl t ∧ oneA side pl t ≤ 9 := by
  have := o.lo; have := o.hi
  unfold oneA; split <;> omega
def offK (side : Bool) (kind pl : Nat) (p : Tie × Option Nat) : Int := if (decide (endp side p.1 = pl) && decide (p.2 = some kind)) = true then p.1.m else 0
theorem offered_ite (N : Net) (os : List (Option Nat)) (kind pl : Nat) (side : Bool) : offeredA N os kind pl side = ((N.ties.zip os).map (offK side kind pl)).sum :=
  fil_ite (fun p : Tie × Option Nat => p.1.m) (fun p => decide (endp side p.1 = pl) && decide (p.2 = some kind)) _
def rowA (n : Nat) (f : Nat → Int) : List Int := (List.range n).map f
theorem rowA_len (n : Nat) (f : Nat → Int) : (rowA n f).length = n := by simp [rowA]
theorem rowA_get {n : Nat} {f : Nat → Int} {p : Nat} (h : p < n) : (rowA n f)[p]? = some (f p) := by
  simp [rowA, h]
theorem ixN_n {n p : Nat} (h : p < n) : ixN n (p : Int) = some p := by unfold ixN; rw [if_pos (by omega), if_pos (by omega)]; rfl
def rowT (l : List Int) : Tr := mpT iD l
theorem rowT_set {l : List Int} {p : Nat} {x : Int} (h : p < l.length) : putP (setAt (p : Int) (.c (.int x))) [] (rowT l) = some (rowT (l.set p x)) := by
  simp only [rowT, mpT, putP0, setAt, List.length_map, ixN_n h]
  simp [List.map_set, iD]
theorem rowT_kid {l : List Int} {p : Nat} {x : Int} (h : l[p]? = some x) : kidT (rowT l) (p : Int) = some (.c (.int x)) := by
  simp [rowT, mpT, h, iD]
theorem rowT_stl (l : List Int) : isStl (rowT l) = false := rfl
theorem rep_zero (n : Nat) (h : n ≤ 1000) : mulEv (.l [.c (.int 0)]) (.c (.int (n : Nat))) = some (rowT (rowA n fun _ => 0)) := by
  have ok : okR (n : Int) = true := okR_of (by omega) (by omega)
  have e : (List.replicate n [PyData.int 0]).flatten = (rowA n fun _ => 0).map iD := by
    have : (rowA n fun _ => (0 : Int)).map iD = List.replicate n (PyData.int 0) := by
      unfold rowA
      rw [List.map_map]
      apply List.ext_getElem?
      intro i
      by_cases hi : i < n
      · simp [hi, iD]
      · simp [hi]
    rw [this]
    induction n with
    | zero => rfl
    | succ n ih => rw [List.replicate_succ, List.replicate_succ, List.flatten_cons, ih (by omega) (okR_of (by omega) (by omega)) (by
        unfold rowA
        rw [List.map_map]
        apply List.ext_getElem?
        intro i
        by_cases hi : i < n
        · simp [hi, iD]
        · simp [hi])]; rfl
  have hz : n ≤ sizeLine := sz (by omega)
  have e0 : mulEv (.l [.c (.int 0)]) (.c (.int (n : Nat))) = (if okR (n : Int) = true ∧ [PyData.int 0].length * (n : Int).toNat ≤ sizeLine then some (lT (List.replicate (n : Int).toNat [PyData.int 0]).flatten) else none) := rfl
  rw [e0, if_pos ⟨ok, by simpa using hz⟩, Int.toNat_natCast, e]
  simp [lT, rowT, mpT]
end Hp
set_option Elab.async false
set_option linter.all false
set_option maxRecDepth 100000
set_option maxHeartbeats 400000
namespace Hp
open PySem PySem.Spec PyProof.Rows L2 Hw
def Rnd (ns : List Int) (m M : Nat) (r : SR) : Prop := ∃ t J, r = .nx (.s ns :: t :: J) ∧ J.length = m ∧ Tp ns M t
theorem law_loop {F : Genv} {ns : List Int} {m K c : Nat} {bs : List CS} (hK : K ≤ 1000) (step : ∀ (k : Nat) t (J : List Tr), k < K → J.length = m → Tp ns (k * 100000) t → Run F bs (.s ns :: t :: .c (.int k) :: J) (Rnd ns (m + 1) (k * 100000 + 100000))) :
    ∃ Γ, exB F [.set 1 (.lst [.e (.var 0), .e (.lit (.int 0)), .e (.lit (.int 0))]), .for_ (.nm 2) (.rng1 (.lit (.int (K : Nat)))) (.ite (.and_ (.e (.prim (.cmp .Gt) [.pk 2, .e (.lit (.int (c : Nat)))])) (.e (.prim (.cmp .GtE) [.e (.pth 1 [.lit (.int 1)]), .e (.prim (.bi .len) [.pk 0])]))) [.brk] [] :: bs), .ret (.lit (.bool true))]
      (.s ns :: .gone :: .gone :: List.replicate m .gone) = some (.rt (.c (.bool true)) Γ) := by
  have go : Run F [.set 1 (.lst [.e (.var 0), .e (.lit (.int 0)), .e (.lit (.int 0))]), .for_ (.nm 2) (.rng1 (.lit (.int (K : Nat)))) (.ite (.and_ (.e (.prim (.cmp .Gt) [.pk 2, .e (.lit (.int (c : Nat)))])) (.e (.prim (.cmp .GtE) [.e (.pth 1 [.lit (.int 1)]), .e (.prim (.bi .len) [.pk 0])]))) [.brk] [] :: bs), .ret (.lit (.bool true))]
      (.s ns :: .gone :: .gone :: List.replicate m .gone) (fun r => ∃ Γ, r = .rt (.c (.bool true)) Γ) := by
    refine Run.nx (Γ1 := .s ns :: .l [.s ns, .c (.int 0), .c (.int 0)] :: .gone :: List.replicate m .gone) (by simp) ?_
    have fin : ∀ Γ, Run F [.ret (.lit (.bool true))] Γ (fun r => ∃ Γ, r = .rt (.c (.bool true)) Γ) := fun Γ =>
      Run.rt (t := .c (.bool true)) (Γ1 := Γ) (by simp) ⟨_, rfl⟩
    refine Run.forB (ds := (List.range K).map fun i : Nat => PyData.int (i : Nat)) (Γ1 := .s ns :: .l [.s ns, .c (.int 0), .c (.int 0)] :: .gone :: List.replicate m .gone)
      (fun i Γ => ∃ t J, Γ = .s ns :: t :: J ∧ J.length = m + 1 ∧ Tp ns (i * 100000) t) (fun Γ => True)
      (rng1_n (n := K) (by simp) (by omega)) ⟨_, _, rfl, by simp, (Tp.start ns).mono (by omega)⟩ ?_ (fun Γ _ => fin Γ) (fun Γ _ => fin Γ)
    rintro i d Γ hi ⟨t, J, rfl, hJ, ht⟩
    have hi2 := (List.getElem?_eq_some_iff.mp hi).1
    rw [List.length_map, List.length_range] at hi2
    rw [List.getElem?_map, List.getElem?_range hi2] at hi
    cases hi
    match J, hJ with
    | j2 :: J, hJ =>
      refine ⟨.s ns :: t :: .c (.int i) :: J, rfl, ?_⟩
      have ht0 := ht
      obtain ⟨a, c', rfl, _, _⟩ := ht
      refine Run.ite (k := decide (c < i) && decide (ns.length ≤ a)) (Γ1 := .s ns :: .l [.s ns, .c (.int a), .c (.int c')] :: .c (.int i) :: J) ?_ (fun _ => Run.bk (Γ1 := .s ns :: .l [.s ns, .c (.int a), .c (.int c')] :: .c (.int i) :: J) (by simp) trivial) (fun _ => Run.nil ?_)
      · by_cases h : c < i <;> simp [h]
      · refine (step i _ J hi2 (by simpa using hJ) ht0).imp ?_
        rintro r ⟨t', J', rfl, hJ', ht'⟩
        exact ⟨t', J', rfl, hJ', ht'.mono (by omega)⟩
  obtain ⟨r, e, Γ, rfl⟩ := go
  exact ⟨Γ, e⟩
theorem it_rng {F : Genv} {a : CE} {Γ Γ1 : List Tr} {n : Nat} (h : ev F a Γ = some (.ok (.c (.int (n : Nat))) Γ1)) (h1 : n ≤ 1000000) : evIt F (.rng1 a) Γ = some (.ok ((List.range n).map nD) Γ1) := rng1_n h h1
theorem PD.big {i : Int} (h : i.natAbs < 2 ^ 1000) : PD 0 1010 (.int i) := by
  have l : i.natAbs.log2 < 1000 := lg_lt h (by decide)
  refine ⟨CD.int i, ?_, ?_⟩
  · simp only [PyData.showable, decide_eq_true_eq]; omega
  · simp only [szD]; omega
theorem offK_le (kind pl : Nat) (side : Bool) {n : Nat} : ∀ {ts : List Tie} {os : List (Option Nat)}, (∀ t ∈ ts, OkT n t) → ((ts.zip os).map (offK side kind pl)).sum ≤ (ts.map (oneA side pl)).sum
  | [], _, _ => by simp
  | t :: ts, [], h => by
    have h0 : 0 ≤ ((t :: ts).map (oneA side pl)).sum := (sum_le (f := oneA side pl) (b := 9) fun x hx => oneA_b (h x hx) side pl).1
    simpa using h0
  | t :: ts, o :: os, h => by
    have ih := offK_le kind pl side (ts := ts) (os := os) fun x hx => h x (List.mem_cons_of_mem _ hx)
    have h1 := h t List.mem_cons_self
    have := h1.lo
    simp only [List.zip_cons_cons, List.map_cons, List.sum_cons]
    have : offK side kind pl (t, o) ≤ oneA side pl t := by
      unfold offK oneA
      by_cases z : endp side t = pl <;> by_cases y : o = some kind <;> simp [z, y] <;> omega
    omega
theorem offered_le {N : Net} (o : OkN N) (os : List (Option Nat)) (kind pl : Nat) (side : Bool) : offeredA N os kind pl side ≤ outA N side pl := by
  rw [offered_ite]
  have := offK_le kind pl side (os := os) o.t
  have e : (N.ties.map (oneA side pl)).sum = outA N side pl := (fil_ite (fun t : Tie => t.m) (fun t => decide (endp side t = pl)) N.ties).symm
  rw [e] at this
  exact this
theorem sqr_le {a b : Int} (h0 : 0 ≤ a) (h : a ≤ b) : sqr a ≤ sqr b := Int.mul_le_mul h h h0 (by omega)
theorem sum_mono {α : Type} {f g : α → Int} : ∀ {xs : List α}, (∀ x ∈ xs, f x ≤ g x) → (xs.map f).sum ≤ (xs.map g).sum
  | [], _ => Int.le_refl _
  | x :: xs, h => by
    have := h x List.mem_cons_self
    have := sum_mono (f := f) (g := g) (xs := xs) fun y hy => h y (List.mem_cons_of_mem _ hy)
    simp only [List.map_cons, List.sum_cons]
    omega
theorem sum_zipIdx {α : Type} (f : α → Int) (l : List α) : (l.zipIdx.map fun p => f p.1).sum = (l.map f).sum := by
  have : (l.zipIdx.map fun p => f p.1) = l.map f := by
    apply List.ext_getElem?
    intro i
    simp only [List.getElem?_map, List.getElem?_zipIdx]
    cases l[i]? <;> rfl
  rw [this]
theorem much_le {N : Net} (o : OkN N) {c : List (List Int)} {k : Int} (oc : OkH k N c) (os : List (Option Nat)) : muchA N c os ≤ greatA N k := by
  unfold muchA greatA
  rw [← sum_zipIdx (fun e => ((placesOf N.n e).map (grK N k)).sum) N.ends]
  refine sum_mono fun p hp => sum_mono fun pl hpl => ?_
  have hp := (List.mem_zipIdx_iff_getElem? (x := p)).mp hp
  have hk : p.2 < N.ends.length := (List.getElem?_eq_some_iff.mp hp).1
  obtain ⟨l, g1, g2, gl⟩ := oc.sh.get hk (mem_places hpl).1
  have bc := oc.b l gl _ (List.mem_of_getElem? g2)
  have b1 := offeredA_b o os p.2 pl false
  have b2 := offeredA_b o os p.2 pl true
  have l1 := offered_le o os p.2 pl false
  have l2 := offered_le o os p.2 pl true
  unfold muchK grK
  have s1 := sqr_le b1.1 l1
  have s2 := sqr_le (a := offeredA N os p.2 pl true + cell c p.2 pl) (b := outA N true pl + k) (by omega) (by omega)
  omega
theorem great_b {N : Net} (o : OkN N) {k : Int} (h0 : 0 ≤ k) (h9 : k ≤ 9) : 0 ≤ greatA N k ∧ greatA N k ≤ 100000000 := by
  have h1 : ∀ e ∈ N.ends, 0 ≤ ((placesOf N.n e).map (grK N k)).sum ∧ ((placesOf N.n e).map (grK N k)).sum ≤ 10000000 := by
    intro e he
    have := sum_le (f := grK N k) (b := 1000000) (xs := placesOf N.n e) fun pl hpl => by
      have b1 := outA_b o false pl
      have b2 := outA_b o true pl
      unfold grK
      have p1 := sqr_le (a := 0) (b := outA N false pl) (by omega) b1.1
      have p2 := sqr_le (a := 0) (b := outA N true pl + k) (by omega) (by omega)
      have q1 := sqr_le (a := outA N false pl) (b := 576) b1.1 b1.2
      have q2 := sqr_le (a := outA N true pl + k) (b := 585) (by omega) (by omega)
      have e0 : sqr 0 = 0 := rfl
      have e1 : sqr 576 = 331776 := rfl
      have e2 : sqr 585 = 342225 := rfl
      omega
    have l : (placesOf N.n e).length ≤ 8 := by
      unfold placesOf
      have := List.length_filter_le (fun p => !decide (p = e)) (List.range N.n)
      rw [List.length_range] at this
      have := o.n8; omega
    omega
  have := sum_le h1
  unfold greatA
  have := o.e4
  omega
end Hp
set_option Elab.async false
set_option linter.all false
set_option maxRecDepth 100000
set_option maxHeartbeats 400000
namespace Hp
open PySem PySem.Spec PyProof.Rows L2 Hw
def hT (H : List (List Int)) : Tr := .l (H.map rowT)
def setC (H : List (List Int)) (k p : Nat) (x : Int) : List (List Int) := H.set k ((H[k]?.getD []).set p x)
theorem Sh.setC {N : Net} {H : List (List Int)} (s : Sh N H) {k : Nat} (hk : k < N.ends.length) (p : Nat) (x : Int) : Sh N (setC H k p x) := by
  refine ⟨by unfold Hp.setC; rw [List.length_set]; exact s.len, fun l hl => ?_⟩
  unfold Hp.setC at hl
  have hk' : k < H.length := by rw [s.len]; exact hk
  rcases List.mem_or_eq_of_mem_set hl with h | h
  · exact s.l l h
  · subst h
    rw [List.length_set, List.getElem?_eq_getElem hk']
    exact s.l _ (List.getElem_mem hk')
theorem cell_setC {N : Net} {H : List (List Int)} (s : Sh N H) {k p : Nat} (hk : k < N.ends.length) (hp : p < N.n) (x : Int) (k' p' : Nat) : cell (setC H k p x) k' p' = if k' = k ∧ p' = p then x else cell H k' p' := by
  have hk' : k < H.length := by rw [s.len]; exact hk
  obtain ⟨l, g1, g2, gl⟩ := s.get hk hp
  have ll := s.l l gl
  unfold Hp.setC cell
  rw [g1]
  by_cases e : k' = k
  · subst e
    rw [List.getElem?_set_self hk', g1]
    show ((l.set p x)[p']?).getD 0 = _
    by_cases e2 : p' = p
    · subst e2; rw [List.getElem?_set_self (by omega)]; simp
    · rw [List.getElem?_set_ne (fun z => e2 z.symm)]; simp [e2]
  · rw [List.getElem?_set_ne (fun z => e z.symm)]; simp [e]
theorem hT_kid {H : List (List Int)} {k : Nat} {l : List Int} (h : H[k]? = some l) : kidT (hT H) (k : Int) = some (rowT l) := by simp [hT, h]
theorem hT_put {N : Net} {H : List (List Int)} (s : Sh N H) {k p : Nat} (hk : k < N.ends.length) (hp : p < N.n) (x : Int) : putP (setAt (p : Int) (.c (.int x))) [(k : Int)] (hT H) = some (hT (setC H k p x)) := by
  obtain ⟨l, g1, _, gl⟩ := s.get hk hp
  have hk' : k < H.length := by rw [s.len]; exact hk
  have w := rowT_set (l := l) (p := p) (x := x) (by rw [s.l l gl]; exact hp)
  unfold hT Hp.setC
  rw [putP]
  simp only [List.length_map, ixN_n hk', Option.bind_some, List.getElem?_map, g1, Option.map_some, w]
  simp [List.map_set]
theorem rowT_frz (l : List Int) : frz (rowT l) = some (.list (l.map iD)) := mpT_frz iD l
theorem hT_frz : ∀ H : List (List Int), frz (hT H) = some (.list (H.map fun l => .list (l.map iD))) := by
  intro H
  have : ∀ H : List (List Int), frzL (H.map rowT) = some (H.map fun l => PyData.list (l.map iD)) := by
    intro H
    induction H with
    | nil => simp [frzL]
    | cons l H ih => simp [frzL, rowT_frz, ih]
  simp [hT, frz, this]
abbrev Mv := Option (Nat × Int)
def mvD : Mv → PyData
  | none => .none
  | some p => .tuple [.int (p.1 : Nat), .int p.2]
def mvS (H : List (List Int)) (p : Tie × Option Nat) : List (List Int) × Mv := match p.2 with
  | none => (H, none)
  | some k => (setC H k p.1.i (cell H k p.1.i - (if cell H k p.1.i < p.1.m then cell H k p.1.i else p.1.m)), if 0 < (if cell H k p.1.i < p.1.m then cell H k p.1.i else p.1.m) then some (k, if cell H k p.1.i < p.1.m then cell H k p.1.i else p.1.m) else none)
def mvF (s : List (List Int) × List Mv) (p : Tie × Option Nat) : List (List Int) × List Mv := ((mvS s.1 p).1, s.2 ++ [(mvS s.1 p).2])
def mvAll (N : Net) (h : List (List Int)) (os : List (Option Nat)) : List (List Int) × List Mv := (N.ties.zip os).foldl mvF (h, [])
def movesA (N : Net) (h : List (List Int)) (os : List (Option Nat)) : List Mv := (mvAll N h os).2
theorem take_fold {α β : Type} {f : β → α → β} {xs : List α} {i : Nat} {x : α} {b : β} (h : xs[i]? = some x) : (xs.take (i + 1)).foldl f b = f ((xs.take i).foldl f b) x := by
  rw [take_snoc h, List.foldl_append]; rfl
theorem ev_rows {F : Genv} {Γ : List Tr} {h : List (List Int)} {s u : Nat} (hs : s < Γ.length) (hu : s ≠ u) (he : Γ[u]? = some (.c (hD h))) (hl : h.length ≤ 1000) :
    ev F (.lc [s] (.nm s) (.sq (.var u)) [] (.prim (.bi .list) [.pk s])) Γ = some (.ok (hT h) (Γ.set s .gone)) := by
  have := lc_map (F := F) (own := [s]) (tg := .nm s) (it := .sq (.var u)) (elt := .prim (.bi .list) [.pk s]) (c := lnD) (xs := h) (Γ := Γ) (Γ1 := Γ) (Γ0 := Γ.set s .gone) rowT (by simp [he, hD]) rfl (fun l hl => by
    have g1 : ((Γ.set s .gone).set s (.c (lnD l)))[s]? = some (.c (.tuple (l.map iD))) := List.getElem?_set_self (by rw [List.length_set]; exact hs)
    have o1 : slotOk ((Γ.set s .gone).set s (.c (lnD l))) s = true := by unfold slotOk; rw [g1]
    refine ⟨(Γ.set s .gone).set s (.c (lnD l)), (Γ.set s .gone).set s (.c (lnD l)), rfl, ?_, by simp only [wipe1, wipe0, List.set_set]⟩
    rw [List.set_set] at *
    simp [o1, g1, lT, rowT, mpT]) (sz (by omega))
  exact this
theorem mv_sh {N : Net} {s : List (List Int) × List Mv} {p : Tie × Option Nat} (h : Sh N s.1) (hk : ∀ k, p.2 = some k → k < N.ends.length) : Sh N (mvF s p).1 := by
  unfold mvF mvS
  cases e : p.2 with
  | none => exact h
  | some k => exact h.setC (hk k e) _ _
theorem mv_len (s : List (List Int) × List Mv) (p : Tie × Option Nat) : (mvF s p).2.length = s.2.length + 1 := by simp [mvF]
def S_moves_of (run : List Tr → Option FR) : Prop := ∀ N h os, OkN N → Sh N h → OkO N os → run [.c (netD N), .c (hD h), .c (osD os)] = some (.ok (mpT mvD (movesA N h os)) [.gone, .gone, .gone])
theorem w_moves_of (F : Genv) : S_moves_of (r_moves_of F) := by
  intro N h os o s oo
  have l64 := o.tlen
  have ol := oo.len
  refine run_ret rfl (by decide) ?_
  have er := ev_rows (F := F) (Γ := [.c (netD N), .c (hD h), .c (osD os), .gone, .gone, .gone, .gone, .gone, .gone]) (h := h) (s := 8) (u := 1) (by simp) (by decide) (by simp) (by have := s.len; have := o.e4; omega)
  refine Run.nx (Γ1 := [.c (netD N), .c (hD h), .c (osD os), hT h, .gone, .gone, .gone, .gone, .gone]) (by rw [sx1]; exact congrArg (fun r => match r with | some (ER.ok t Γ1) => some (SR.nx (Γ1.set 3 t)) | some (ER.ex x Γ1) => some (SR.ex x Γ1) | none => none) er) ?_
  refine Run.nx (Γ1 := [.c (netD N), .c (hD h), .c (osD os), hT h, .l [], .gone, .gone, .gone, .gone]) (by simp) ?_
  refine Run.forM (c := fun p : Tie × Option Nat => .tuple [tieD p.1, kD p.2]) (xs := N.ties.zip os) (Γ1 := [.c (netD N), .c (hD h), .c (osD os), hT h, .l [], .gone, .gone, .gone, .gone])
    (fun i Γ => ∃ s j5 j6 j7, Γ = [.c (netD N), .c (hD h), .c (osD os), hT s.1, mpT mvD s.2, j5, j6, j7, .gone] ∧ s = ((N.ties.zip os).take i).foldl mvF (h, []) ∧ Sh N s.1 ∧ s.2.length = i) ?_ ⟨(h, []), _, _, _, rfl, rfl, s, rfl⟩ ?_ ?_
  · rw [← zip_is]
    exact it_zip (ta := .c (.tuple (N.ties.map tieD))) (tb := .c (osD os)) (Γ1 := [.c (netD N), .c (hD h), .c (osD os), hT h, .l [], .gone, .gone, .gone, .gone]) (by simp [netD]) (by simp) rfl rfl rfl rfl
  · rintro i ⟨t, k⟩ Γ hi ⟨st, j5, j6, j7, rfl, est, sh, sl⟩
    have hm := List.of_mem_zip (List.mem_of_getElem? hi)
    have ot := o.t t hm.1
    have hil := (List.getElem?_eq_some_iff.mp hi).1
    rw [List.length_zip] at hil
    have hz : st.2.length < sizeLine := Nat.lt_of_le_of_lt (show st.2.length ≤ 100 by omega) (by decide)
    have ef := take_fold (f := mvF) (b := (h, ([] : List Mv))) hi
    rw [← est] at ef
    refine ⟨[.c (netD N), .c (hD h), .c (osD os), hT st.1, mpT mvD st.2, .c (tieD t), .c (kD k), j7, .gone], by simp, ?_⟩
    refine Run.nx (Γ1 := [.c (netD N), .c (hD h), .c (osD os), hT st.1, mpT mvD st.2, .c (tieD t), .c (kD k), .c (.int 0), .gone]) (by simp) ?_
    cases k with
    | none =>
      refine Run.skip (Γ1 := [.c (netD N), .c (hD h), .c (osD os), hT st.1, mpT mvD st.2, .c (tieD t), .c (kD none), .c (.int 0), .gone]) (by simp) ?_
      refine Run.nx (Γ1 := [.c (netD N), .c (hD h), .c (osD os), hT st.1, mpT mvD (st.2 ++ [none]), .c (tieD t), .c (kD none), .c (.int 0), .gone]) (by simp [mpT, hz, mvD]) (Run.nil ⟨(st.1, st.2 ++ [none]), _, _, _, rfl, ?_, sh, by simp [sl]⟩)
      rw [ef]; rfl
    | some k =>
      have hk := oo.k k hm.2
      obtain ⟨l, g1, g2, gl⟩ := sh.get hk ot.i
      have k1 := hT_kid g1
      have k2 := rowT_kid g2
      let many := if cell st.1 k t.i < t.m then cell st.1 k t.i else t.m
      have pw := hT_put sh hk ot.i (cell st.1 k t.i - many)
      refine Run.iteT (Γ1 := [.c (netD N), .c (hD h), .c (osD os), hT st.1, mpT mvD st.2, .c (tieD t), .c (kD (some k)), .c (.int 0), .gone]) (by simp) ?_
      refine Run.nx (Γ1 := [.c (netD N), .c (hD h), .c (osD os), hT st.1, mpT mvD st.2, .c (tieD t), .c (kD (some k)), .c (.int many), .gone]) ?_ ?_
      · have hh : hT st.1 = .l (st.1.map rowT) := rfl
        rw [hh] at k1 ⊢
        simp [tieD, k1, k2, rowT_stl, many]
      · refine Run.nx (Γ1 := [.c (netD N), .c (hD h), .c (osD os), hT (setC st.1 k t.i (cell st.1 k t.i - many)), mpT mvD st.2, .c (tieD t), .c (kD (some k)), .c (.int many), .gone]) ?_ (Run.nil ?_)
        · have hh : hT st.1 = .l (st.1.map rowT) := rfl
          rw [hh] at k1 pw ⊢
          simp [tieD, k1, k2, rowT_stl, pw]
        · have e0 : mvF st (t, some k) = (setC st.1 k t.i (cell st.1 k t.i - many), st.2 ++ [if 0 < many then some (k, many) else none]) := rfl
          refine Run.nx (Γ1 := [.c (netD N), .c (hD h), .c (osD os), hT (setC st.1 k t.i (cell st.1 k t.i - many)), mpT mvD (st.2 ++ [if 0 < many then some (k, many) else none]), .c (tieD t), .c (kD (some k)), .c (.int many), .gone]) ?_ (Run.nil ⟨_, _, _, _, rfl, by rw [ef, e0], sh.setC hk _ _, by simp [sl]⟩)
          have mp : ∀ xs : List Mv, mpT mvD xs = .l (xs.map fun x => .c (mvD x)) := fun _ => rfl
          by_cases z : 0 < many <;> simp [mp, z, hz, mvD]
  · rintro Γ ⟨st, j5, j6, j7, rfl, est, sh, sl⟩
    rw [List.take_length] at est
    have : st.2 = movesA N h os := by rw [est]; rfl
    rw [this]
    exact Run.rt (t := mpT mvD (movesA N h os)) (Γ1 := [.c (netD N), .c (hD h), .c (osD os), hT st.1, .gone, j5, j6, j7, .gone]) (by simp [mpT]) ⟨_, rfl, rfl⟩
def mvsD (mv : List Mv) : PyData := .list (mv.map mvD)
structure OkM (N : Net) (mv : List Mv) : Prop where
  len : mv.length = N.ties.length
  k : ∀ p : Nat × Int, some p ∈ mv → p.1 < N.ends.length
theorem mv_ok {N : Net} {h : List (List Int)} {os : List (Option Nat)} (oo : OkO N os) : OkM N (movesA N h os) := by
  have go : ∀ (ps : List (Tie × Option Nat)) (s : List (List Int) × List Mv), (∀ p ∈ ps, ∀ k, p.2 = some k → k < N.ends.length) → (∀ p : Nat × Int, some p ∈ s.2 → p.1 < N.ends.length) →
      (ps.foldl mvF s).2.length = s.2.length + ps.length ∧ ∀ p : Nat × Int, some p ∈ (ps.foldl mvF s).2 → p.1 < N.ends.length := by
    intro ps
    induction ps with
    | nil => intro s _ h; exact ⟨rfl, h⟩
    | cons q ps ih =>
      intro s h1 h2
      have := ih (mvF s q) (fun p hp => h1 p (List.mem_cons_of_mem _ hp)) (fun p hp => by
        rcases List.mem_append.mp hp with hp | hp
        · exact h2 p hp
        · simp only [List.mem_singleton] at hp
          unfold mvS at hp
          cases e : q.2 with
          | none => rw [e] at hp; cases hp
          | some k =>
            rw [e] at hp
            have hk := h1 q List.mem_cons_self k e
            simp only at hp
            by_cases z : 0 < (if cell s.1 k q.1.i < q.1.m then cell s.1 k q.1.i else q.1.m)
            · rw [if_pos z] at hp; cases hp; exact hk
            · rw [if_neg z] at hp; cases hp)
      refine ⟨?_, this.2⟩
      show (ps.foldl mvF (mvF s q)).2.length = _
      rw [this.1, mv_len, List.length_cons]; omega
  have := go (N.ties.zip os) (h, []) (fun p hp k e => oo.k k (by rw [← e]; exact (List.of_mem_zip (a := p.1) (b := p.2) hp).2)) (by simp)
  refine ⟨?_, this.2⟩
  show ((N.ties.zip os).foldl mvF (h, [])).2.length = _
  rw [this.1, List.length_zip, oo.len]; simp
def goF (N : Net) (s : List (List Int) × List Int) (p : Tie × Mv) : List (List Int) × List Int := match p.2 with
  | none => s
  | some (k, m) =>
    if N.ends[k]? = some p.1.j then (setC s.1 k p.1.i (cell s.1 k p.1.i - m), s.2.set k ((s.2[k]?).getD 0 + m))
    else (setC (setC s.1 k p.1.i (cell s.1 k p.1.i - m)) k p.1.j (cell (setC s.1 k p.1.i (cell s.1 k p.1.i - m)) k p.1.j + m), s.2)
def goneA (N : Net) (h : List (List Int)) (mv : List Mv) : List (List Int) × List Int := (N.ties.zip mv).foldl (goF N) (h, rowA h.length fun _ => 0)
theorem go_sh {N : Net} {s : List (List Int) × List Int} {p : Tie × Mv} (h : Sh N s.1) (hl : s.2.length = N.ends.length) (hk : ∀ q, p.2 = some q → q.1 < N.ends.length) : Sh N (goF N s p).1 ∧ (goF N s p).2.length = N.ends.length := by
  unfold goF
  cases e : p.2 with
  | none => exact ⟨h, hl⟩
  | some q =>
    obtain ⟨k, m⟩ := q
    have := hk _ e
    dsimp only
    split
    · exact ⟨h.setC this _ _, by simpa using hl⟩
    · exact ⟨(h.setC this _ _).setC this _ _, hl⟩
theorem gone_sh {N : Net} {h : List (List Int)} {mv : List Mv} (s : Sh N h) (om : OkM N mv) : Sh N (goneA N h mv).1 ∧ (goneA N h mv).2.length = N.ends.length := by
  have go : ∀ (ps : List (Tie × Mv)) (st : List (List Int) × List Int), (∀ p ∈ ps, ∀ q, p.2 = some q → q.1 < N.ends.length) → Sh N st.1 → st.2.length = N.ends.length → Sh N (ps.foldl (goF N) st).1 ∧ (ps.foldl (goF N) st).2.length = N.ends.length := by
    intro ps
    induction ps with
    | nil => intro st _ a b; exact ⟨a, b⟩
    | cons p ps ih =>
      intro st h1 a b
      have := go_sh (p := p) a b (h1 p List.mem_cons_self)
      exact ih _ (fun p hp => h1 p (List.mem_cons_of_mem _ hp)) this.1 this.2
  exact go _ _ (fun p hp q e => om.k q (by rw [← e]; exact (List.of_mem_zip (a := p.1) (b := p.2) hp).2)) s (by rw [rowA_len]; exact s.len)
theorem rows_tup {F : Genv} {Γ : List Tr} {H : List (List Int)} {s u : Nat} (hs : s < Γ.length) (hu : s ≠ u) (he : Γ[u]? = some (hT H)) (hl : H.length ≤ 1000) :
    ∃ Γ', ev F (.lc [s] (.nm s) (.sq (.var u)) [] (.prim (.bi .tuple) [.pk s])) Γ = some (.ok (mpT lnD H) Γ') ∧ Γ' = (Γ.set u (.c (.list (H.map fun l => .list (l.map iD))))).set s .gone := by
  have e1 : evIt F (.sq (.var u)) Γ = some (.ok (H.map fun l => .list (l.map iD)) (Γ.set u (.c (.list (H.map fun l => .list (l.map iD)))))) := by
    have hf := hT_frz H
    simp only [hT] at he hf
    simp [he, hf]
  have := lc_map (F := F) (own := [s]) (tg := .nm s) (it := .sq (.var u)) (elt := .prim (.bi .tuple) [.pk s]) (c := fun l : List Int => PyData.list (l.map iD)) (xs := H) (Γ := Γ) (Γ1 := Γ.set u (.c (.list (H.map fun l => .list (l.map iD))))) (Γ0 := (Γ.set u (.c (.list (H.map fun l => .list (l.map iD))))).set s .gone) (fun l => .c (lnD l)) e1 rfl (fun l hl => by
    have hs2 : s < (Γ.set u (.c (.list (H.map fun l => .list (l.map iD))))).length := by rw [List.length_set]; exact hs
    generalize Γ.set u (.c (.list (H.map fun l => .list (l.map iD)))) = Γ2 at *
    have g1 : (Γ2.set s (.c (.list (l.map iD))))[s]? = some (.c (.list (l.map iD))) := List.getElem?_set_self hs2
    have o1 : slotOk (Γ2.set s (.c (.list (l.map iD)))) s = true := by unfold slotOk; rw [g1]
    refine ⟨(Γ2.set s .gone).set s (.c (.list (l.map iD))), (Γ2.set s .gone).set s (.c (.list (l.map iD))), rfl, ?_, by simp only [wipe1, wipe0, List.set_set]⟩
    rw [List.set_set] at *
    simp [o1, g1, lnD]) (sz (by omega))
  exact ⟨_, this, rfl⟩
end Hp
set_option Elab.async false
set_option linter.all false
set_option maxRecDepth 100000
set_option maxHeartbeats 400000
namespace Hp
open PySem PySem.Spec PyProof.Rows L2 Hw
@[simp] theorem mvD_n : mvD none = .none := rfl
@[simp] theorem mvD_s (p : Nat × Int) : mvD (some p) = .tuple [.int (p.1 : Nat), .int p.2] := rfl
@[simp] theorem settle_m {α : Type} (h : α → PyData) (xs : List α) : Hw.settle (mpT h xs) = some (.c (.list (xs.map h))) := by
  have := mpT_frz h xs
  simp only [mpT] at this ⊢
  simp [Hw.settle, this]
def S_gone_by (run : List Tr → Option FR) : Prop := ∀ N h mv, OkN N → Sh N h → OkM N mv → run [.c (netD N), .c (hD h), .c (mvsD mv)] = some (.ok (.c (.tuple [hD (goneA N h mv).1, lnD (goneA N h mv).2])) [.gone, .gone, .gone])
theorem w_gone_by (F : Genv) : S_gone_by (r_gone_by F) := by
  intro N h mv o s om
  have l64 := o.tlen
  have l4 := o.e4
  have ol := om.len
  have hl := s.len
  refine run_ret rfl (by decide) ?_
  have er := ev_rows (F := F) (Γ := [.c (netD N), .c (hD h), .c (mvsD mv), .gone, .gone, .gone, .gone, .gone, .gone, .gone]) (h := h) (s := 7) (u := 1) (by simp) (by decide) (by simp) (by omega)
  refine Run.nx (Γ1 := [.c (netD N), .c (hD h), .c (mvsD mv), hT h, .gone, .gone, .gone, .gone, .gone, .gone]) (by rw [sx1]; exact congrArg (fun r => match r with | some (ER.ok t Γ1) => some (SR.nx (Γ1.set 3 t)) | some (ER.ex x Γ1) => some (SR.ex x Γ1) | none => none) er) ?_
  have rz := rep_zero h.length (by omega)
  refine Run.nx (Γ1 := [.c (netD N), .c (hD h), .c (mvsD mv), hT h, rowT (rowA h.length fun _ => 0), .gone, .gone, .gone, .gone, .gone]) (by simp [hD, rz]) ?_
  refine Run.forM (c := fun p : Tie × Mv => .tuple [tieD p.1, mvD p.2]) (xs := N.ties.zip mv) (Γ1 := [.c (netD N), .c (hD h), .c (mvsD mv), hT h, rowT (rowA h.length fun _ => 0), .gone, .gone, .gone, .gone, .gone])
    (fun i Γ => ∃ s j5 j6 j8 j9, Γ = [.c (netD N), .c (hD h), .c (mvsD mv), hT s.1, rowT s.2, j5, j6, .gone, j8, j9] ∧ s = ((N.ties.zip mv).take i).foldl (goF N) (h, rowA h.length fun _ => 0) ∧ Sh N s.1 ∧ s.2.length = N.ends.length) ?_ ⟨(h, rowA h.length fun _ => 0), _, _, _, _, rfl, rfl, s, by rw [rowA_len]; exact hl⟩ ?_ ?_
  · rw [← zip_is]
    exact it_zip (ta := .c (.tuple (N.ties.map tieD))) (tb := .c (mvsD mv)) (Γ1 := [.c (netD N), .c (hD h), .c (mvsD mv), hT h, rowT (rowA h.length fun _ => 0), .gone, .gone, .gone, .gone, .gone]) (by simp [netD]) (by simp) rfl rfl rfl rfl
  · rintro i ⟨t, q⟩ Γ hi ⟨st, j5, j6, j8, j9, rfl, est, sh, sl⟩
    have hm := List.of_mem_zip (List.mem_of_getElem? hi)
    have ot := o.t t hm.1
    have ef := take_fold (f := goF N) (b := (h, rowA h.length fun _ => 0)) hi
    rw [← est] at ef
    refine ⟨[.c (netD N), .c (hD h), .c (mvsD mv), hT st.1, rowT st.2, .c (tieD t), .c (mvD q), .gone, j8, j9], by simp, ?_⟩
    cases q with
    | none =>
      refine Run.skip (Γ1 := [.c (netD N), .c (hD h), .c (mvsD mv), hT st.1, rowT st.2, .c (tieD t), .c (mvD none), .gone, j8, j9]) (by simp) (Run.nil ⟨st, _, _, _, _, rfl, ?_, sh, sl⟩)
      rw [ef]; rfl
    | some q =>
      obtain ⟨k, m⟩ := q
      have hk := om.k _ hm.2
      have hk : k < N.ends.length := hk
      obtain ⟨l, g1, g2, gl⟩ := sh.get hk ot.i
      have k1 := hT_kid g1
      have k2 := rowT_kid g2
      have pw := hT_put sh hk ot.i (cell st.1 k t.i - m)
      have sh2 := sh.setC hk t.i (cell st.1 k t.i - m)
      have ee : N.ends[k]? = some N.ends[k] := List.getElem?_eq_getElem hk
      refine Run.iteT (Γ1 := [.c (netD N), .c (hD h), .c (mvsD mv), hT st.1, rowT st.2, .c (tieD t), .c (mvD (some (k, m))), .gone, j8, j9]) (by simp) ?_
      refine Run.nx (Γ1 := [.c (netD N), .c (hD h), .c (mvsD mv), hT st.1, rowT st.2, .c (tieD t), .c (mvD (some (k, m))), .gone, .c (.int k), .c (.int m)]) (by simp) ?_
      refine Run.nx (Γ1 := [.c (netD N), .c (hD h), .c (mvsD mv), hT (setC st.1 k t.i (cell st.1 k t.i - m)), rowT st.2, .c (tieD t), .c (mvD (some (k, m))), .gone, .c (.int k), .c (.int m)]) ?_ ?_
      · have hh : hT st.1 = .l (st.1.map rowT) := rfl
        rw [hh] at k1 pw ⊢
        simp [tieD, k1, k2, rowT_stl, pw]
      generalize hH : setC st.1 k t.i (cell st.1 k t.i - m) = H2 at *
      have netk : kidD (netD N) 1 = some (.tuple (N.ends.map nD)) := rfl
      by_cases z : N.ends[k] = t.j
      · refine Run.iteT (Γ1 := [.c (netD N), .c (hD h), .c (mvsD mv), hT H2, rowT st.2, .c (tieD t), .c (mvD (some (k, m))), .gone, .c (.int k), .c (.int m)]) (by simp [tieD, netk, ee, nD, z]) ?_
        have hk2 : k < st.2.length := by omega
        have g3 : st.2[k]? = some st.2[k] := List.getElem?_eq_getElem hk2
        have k3 := rowT_kid g3
        have w3 := rowT_set (x := st.2[k] + m) hk2
        refine Run.nx (Γ1 := [.c (netD N), .c (hD h), .c (mvsD mv), hT H2, rowT (st.2.set k (st.2[k] + m)), .c (tieD t), .c (mvD (some (k, m))), .gone, .c (.int k), .c (.int m)]) ?_ (Run.nil (Run.nil (Run.nil ⟨(H2, st.2.set k (st.2[k] + m)), _, _, _, _, rfl, ?_, sh2, by simpa using sl⟩)))
        · simp only [rowT, mpT] at k3 w3 ⊢
          simp [k3, w3]
        · rw [ef]
          simp only [goF, ee, z, if_true, hH, g3, Option.getD_some]
      · refine Run.iteF (Γ1 := [.c (netD N), .c (hD h), .c (mvsD mv), hT H2, rowT st.2, .c (tieD t), .c (mvD (some (k, m))), .gone, .c (.int k), .c (.int m)]) (by
          have : ¬ t.j = N.ends[k] := fun e => z e.symm
          simp [tieD, netk, ee, nD, this]) ?_
        obtain ⟨l', h1, h2, _⟩ := sh2.get hk ot.j
        have k3 := hT_kid h1
        have k4 := rowT_kid h2
        have pw2 := hT_put sh2 hk ot.j (cell H2 k t.j + m)
        refine Run.nx (Γ1 := [.c (netD N), .c (hD h), .c (mvsD mv), hT (setC H2 k t.j (cell H2 k t.j + m)), rowT st.2, .c (tieD t), .c (mvD (some (k, m))), .gone, .c (.int k), .c (.int m)]) ?_ (Run.nil (Run.nil (Run.nil ⟨(setC H2 k t.j (cell H2 k t.j + m), st.2), _, _, _, _, rfl, ?_, sh2.setC hk _ _, sl⟩)))
        · have hh : hT H2 = .l (H2.map rowT) := rfl
          rw [hh] at k3 pw2 ⊢
          simp [tieD, k3, k4, rowT_stl, pw2]
        · rw [ef]
          have : ¬ (some N.ends[k] = some t.j) := fun e => z (by simpa using e)
          simp only [goF, ee, this, if_false, hH]
  · rintro Γ ⟨st, j5, j6, j8, j9, rfl, est, sh, sl⟩
    rw [List.take_length] at est
    have e0 : st = goneA N h mv := est
    rw [← e0]
    obtain ⟨Γ', e1, e2⟩ := rows_tup (F := F) (Γ := [.c (netD N), .c (hD h), .c (mvsD mv), hT st.1, rowT st.2, j5, j6, .gone, j8, j9]) (H := st.1) (s := 7) (u := 3) (by simp) (by decide) (by simp) (by rw [sh.len]; omega)
    have t1 := tuple_m lnD st.1
    have t2 := tuple_m iD st.2
    refine Run.rt (t := .c (.tuple [hD st.1, lnD st.2])) (Γ1 := Γ') ?_ ⟨_, rfl, by rw [e2]; rfl⟩
    have ok4 : slotOk Γ' 4 = true := by rw [e2]; rfl
    have g4 : Γ'[4]? = some (rowT st.2) := by rw [e2]; rfl
    have t1' : biEv .tuple [mpT lnD st.1] = some (.c (hD st.1)) := t1
    have t2' : biEv .tuple [rowT st.2] = some (.c (lnD st.2)) := t2
    simp [e1, ok4, g4, t1', t2']
def addL (p : List Int × List Int) : List Int := (p.1.zip p.2).map fun q => q.1 + q.2
def addH (h c : List (List Int)) : List (List Int) := (h.zip c).map addL
theorem addH_sh {N : Net} {h c : List (List Int)} (s : Sh N h) (r : Sh N c) : Sh N (addH h c) := by
  refine ⟨by simp [addH, s.len, r.len], fun l hl => ?_⟩
  obtain ⟨p, hp, rfl⟩ := List.mem_map.mp hl
  have hp' := List.of_mem_zip (a := p.1) (b := p.2) hp
  simp [addL, s.l _ hp'.1, r.l _ hp'.2]
theorem ev_addL {F : Genv} {Γ Γ2 : List Tr} {a b : List Int} {x y : Nat} {e1 e2 : CE} {d1 d2 : PyData} (hx : x < Γ2.length) (hy : y < Γ2.length) (hxy : x ≠ y) (h1 : ∃ Γ1 t1 t2, ev F e1 Γ = some (.ok t1 Γ1) ∧ ev F e2 Γ1 = some (.ok t2 Γ2) ∧ frz t1 = some d1 ∧ frz t2 = some d2) (s1 : seqD d1 = some (a.map iD)) (s2 : seqD d2 = some (b.map iD)) (hl : a.length ≤ 1000) :
    ev F (.lc [x, y] (.tp [x, y]) (.zip [.e e1, .e e2]) [] (.prim .add [.pk x, .pk y])) Γ = some (.ok (mpT iD (addL (a, b))) (wipeT Γ2 [x, y])) := by
  obtain ⟨Γ1, t1, t2, h1, h2, fa, fb⟩ := h1
  have := lc_map (F := F) (own := [x, y]) (tg := .tp [x, y]) (it := .zip [.e e1, .e e2]) (elt := .prim .add [.pk x, .pk y]) (c := fun q : Int × Int => .tuple [iD q.1, iD q.2]) (xs := a.zip b) (Γ := Γ) (Γ1 := Γ2) (Γ0 := wipeT Γ2 [x, y]) (fun q => .c (iD (q.1 + q.2))) (by
    rw [← zip_is]
    exact it_zip h1 h2 fa fb s1 s2) rfl (fun q hq => by
    let Γ3 := ((wipeT Γ2 [x, y]).set x (.c (iD q.1))).set y (.c (iD q.2))
    have lx : x < ((wipeT Γ2 [x, y])).length := by simp only [wipe1, wipe0, List.length_set]; exact hx
    have ly : y < ((wipeT Γ2 [x, y]).set x (.c (iD q.1))).length := by simp only [wipe1, wipe0, List.length_set]; exact hy
    have gx : Γ3[x]? = some (.c (iD q.1)) := by
      show (((wipeT Γ2 [x, y]).set x (.c (iD q.1))).set y (.c (iD q.2)))[x]? = _
      rw [List.getElem?_set_ne (fun z => hxy z.symm), List.getElem?_set_self lx]
    have gy : Γ3[y]? = some (.c (iD q.2)) := List.getElem?_set_self ly
    have ox : slotOk Γ3 x = true := by unfold slotOk; rw [gx]
    have oy : slotOk Γ3 y = true := by unfold slotOk; rw [gy]
    refine ⟨Γ3, Γ3, by simp [Γ3], ?_, ?_⟩
    · simp [ox, oy, gx, gy, iD]
    · simp only [Γ3, wipe1, wipe0]
      have e1 : ((Γ2.set y .gone).set x .gone).set y .gone = ((Γ2.set y .gone).set y .gone).set x .gone := List.set_comm _ _ hxy
      have e2 : ((((Γ2.set y .gone).set x .gone).set x (.c (iD q.1))).set y (.c (iD q.2))).set y .gone = ((Γ2.set y .gone).set x (.c (iD q.1))).set y .gone := by rw [List.set_set, List.set_set]
      have e3 : ((Γ2.set y .gone).set x (.c (iD q.1))).set y .gone = ((Γ2.set y .gone).set y .gone).set x (.c (iD q.1)) := List.set_comm _ _ hxy
      rw [e2, e3, List.set_set, List.set_set]) (sz (by rw [List.length_zip]; omega))
  rw [this]
  simp [mpT, addL]
def S_with_comers (run : List Tr → Option FR) : Prop := ∀ N h c, OkN N → Sh N h → Sh N c → run [.c (hD h), .c (hD c)] = some (.ok (.c (hD (addH h c))) [.gone, .gone])
theorem w_with_comers (F : Genv) : S_with_comers (r_with_comers F) := by
  intro N h c o s r
  have l4 := o.e4
  have n8 := o.n8
  refine run_ret rfl (by decide) ?_
  refine Run.nx (Γ1 := [.c (hD h), .c (hD c), .l [], .gone, .gone, .gone, .gone]) (by simp) ?_
  refine Run.forM (c := fun p : List Int × List Int => .tuple [lnD p.1, lnD p.2]) (xs := h.zip c) (Γ1 := [.c (hD h), .c (hD c), .l [], .gone, .gone, .gone, .gone])
    (fun i Γ => ∃ j3 j4, Γ = [.c (hD h), .c (hD c), mpT lnD (((h.zip c).take i).map addL), j3, j4, .gone, .gone]) ?_ ⟨_, _, rfl⟩ ?_ ?_
  · rw [← zip_is]
    exact it_zip (ta := .c (hD h)) (tb := .c (hD c)) (Γ1 := [.c (hD h), .c (hD c), .l [], .gone, .gone, .gone, .gone]) (by simp) (by simp) rfl rfl rfl rfl
  · rintro i p Γ hi ⟨j3, j4, rfl⟩
    have hp' := List.of_mem_zip (a := p.1) (b := p.2) (List.mem_of_getElem? hi)
    have hil := (List.getElem?_eq_some_iff.mp hi).1
    rw [List.length_zip, s.len] at hil
    rw [take_map hi]
    generalize hacc : ((h.zip c).take i).map addL = acc
    have al : acc.length ≤ 100 := by rw [← hacc]; simp; omega
    have hz : acc.length < sizeLine := Nat.lt_of_le_of_lt al (by decide)
    have e := ev_addL (F := F) (Γ := [.c (hD h), .c (hD c), mpT lnD acc, .c (lnD p.1), .c (lnD p.2), .gone, .gone]) (Γ2 := [.c (hD h), .c (hD c), mpT lnD acc, .c (lnD p.1), .c (lnD p.2), .gone, .gone]) (a := p.1) (b := p.2) (x := 5) (y := 6) (e1 := .var 3) (e2 := .var 4) (by simp) (by simp) (by decide) ⟨_, .c (lnD p.1), .c (lnD p.2), by simp; rfl, by simp, rfl, rfl⟩ rfl rfl (by rw [s.l _ hp'.1]; omega)
    have t1 : biEv .tuple [mpT iD (addL p)] = some (.c (lnD (addL p))) := tuple_m iD (addL p)
    refine ⟨[.c (hD h), .c (hD c), mpT lnD acc, .c (lnD p.1), .c (lnD p.2), .gone, .gone], by simp, ?_⟩
    refine Run.nx (Γ1 := [.c (hD h), .c (hD c), mpT lnD (acc ++ [addL p]), .c (lnD p.1), .c (lnD p.2), .gone, .gone]) ?_ (Run.nil ⟨_, _, rfl⟩)
    have ma : ∀ xs, mpT lnD xs = .l (xs.map fun x => .c (lnD x)) := fun _ => rfl
    rw [ma] at e ⊢
    simp [e, t1, hz, ma]
  · rintro Γ ⟨j3, j4, rfl⟩
    rw [List.take_length]
    have t1 : biEv .tuple [mpT lnD (addH h c)] = some (.c (hD (addH h c))) := tuple_m lnD (addH h c)
    have e : (h.zip c).map addL = addH h c := rfl
    rw [e]
    exact Run.rt (t := .c (hD (addH h c))) (Γ1 := [.c (hD h), .c (hD c), mpT lnD (addH h c), j3, j4, .gone, .gone]) (by simp [slotOk, mpT] at t1 ⊢; simp [t1]) ⟨_, rfl, rfl⟩
def S_moves_over (run : List Tr → Option FR) : Prop := ∀ N h st, OkN N → Sh N h → run [.c (netD N), .c (hD h), .c (.tuple (st.map nD))] = some (.ok (mpT mvD (movesA N h (offO N h st))) [.gone, .gone, .gone])
theorem offO_ok {N : Net} {h : List (List Int)} (s : Sh N h) (st : List Nat) : OkO N (offO N h st) := by
  refine ⟨by simp [offO], fun b hb => ?_⟩
  obtain ⟨p, hp, e⟩ := List.mem_map.mp hb
  split at e
  · have oi := offer_is h p.1
    rw [e] at oi
    have := oi.1; have := s.len; omega
  · cases e
theorem w_moves_over {F : Genv} (h1 : Fn F "moves_of" S_moves_of) (h2 : Fn F "offer_over" S_offer_over) : S_moves_over (r_moves_over F) := by
  obtain ⟨r1, f1, q1⟩ := h1
  obtain ⟨r2, f2, q2⟩ := h2
  intro N h st o s
  have e2 := q2 N h st o s
  have e1 := q1 N h (offO N h st) o s (offO_ok s st)
  generalize offO N h st = os at *
  refine run_ret rfl (by decide) (Run.rt (t := mpT mvD (movesA N h os)) (Γ1 := [.c (netD N), .c (hD h), .c (.tuple (st.map nD))]) ?_ ⟨_, rfl, rfl⟩)
  simp only [osD] at e1
  simp [f1, f2, e1, e2]
def beatA (N : Net) (h c : List (List Int)) (st : List Nat) : List (List Int) × List Int := (addH (goneA N h (movesA N h (offO N h st))).1 c, (goneA N h (movesA N h (offO N h st))).2)
def S_beat_over (run : List Tr → Option FR) : Prop := ∀ N h c st, OkN N → Sh N h → Sh N c → run [.c (netD N), .c (hD h), .c (hD c), .c (.tuple (st.map nD))] = some (.ok (.c (.tuple [hD (beatA N h c st).1, lnD (beatA N h c st).2])) [.gone, .gone, .gone, .gone])
theorem w_beat_over {F : Genv} (h1 : Fn F "gone_by" S_gone_by) (h2 : Fn F "moves_over" S_moves_over) (h3 : Fn F "with_comers" S_with_comers) : S_beat_over (r_beat_over F) := by
  obtain ⟨r1, f1, q1⟩ := h1
  obtain ⟨r2, f2, q2⟩ := h2
  obtain ⟨r3, f3, q3⟩ := h3
  intro N h c st o s sc
  have e2 := q2 N h st o s
  have om := mv_ok (h := h) (offO_ok s st)
  have e1 := q1 N h _ o s om
  have gs := gone_sh s om
  unfold beatA
  generalize movesA N h (offO N h st) = mv at *
  have e3 := q3 N (goneA N h mv).1 c o gs.1 sc
  refine run_ret rfl (by decide) ?_
  simp only [mvsD] at e1
  refine Run.nx (Γ1 := [.c (netD N), .c (hD h), .c (hD c), .c (.tuple (st.map nD)), .c (hD (goneA N h mv).1), .c (lnD (goneA N h mv).2)]) (by simp [f1, f2, e1, e2]) ?_
  exact Run.rt (t := .c (.tuple [hD (addH (goneA N h mv).1 c), lnD (goneA N h mv).2])) (Γ1 := [.c (netD N), .c (hD h), .c (hD c), .c (.tuple (st.map nD)), .c (hD (goneA N h mv).1), .c (lnD (goneA N h mv).2)]) (by simp [f3, e3]) ⟨_, rfl, rfl⟩
theorem beat_sh {N : Net} {h c : List (List Int)} (s : Sh N h) (r : Sh N c) (st : List Nat) : Sh N (beatA N h c st).1 ∧ (beatA N h c st).2.length = N.ends.length := by
  have := gone_sh s (mv_ok (h := h) (offO_ok s st))
  exact ⟨addH_sh this.1 r, this.2⟩
def allT (N : Net) : List Nat := List.range N.ties.length
def S_beat (run : List Tr → Option FR) : Prop := ∀ N h c, OkN N → OkH 1000000000 N h → OkH 9 N c → run [.c (netD N), .c (hD h), .c (hD c)] = some (.ok (.c (.tuple [hD (beatA N h c (allT N)).1, lnD (beatA N h c (allT N)).2])) [.gone, .gone, .gone])
theorem w_beat {F : Genv} (h1 : Fn F "need_net" S_need_net) (h2 : Fn F "need_heaps" (S_need_lines 1000000000 "NoHeaps")) (h3 : Fn F "need_comers" (S_need_lines 9 "NoComers")) (h4 : Fn F "beat_over" S_beat_over) (h5 : Fn F "all_ties" S_all_ties) : S_beat (r_beat F) := by
  obtain ⟨r1, f1, q1⟩ := h1
  obtain ⟨r2, f2, q2⟩ := h2
  obtain ⟨r3, f3, q3⟩ := h3
  obtain ⟨r4, f4, q4⟩ := h4
  obtain ⟨r5, f5, q5⟩ := h5
  intro N h c o oh oc
  refine run_ret rfl (by decide) ?_
  refine Run.nx (Γ1 := [.c (netD N), .c (hD h), .c (hD c)]) (by simp [f1, q1.1 N o]) ?_
  refine Run.nx (Γ1 := [.c (netD N), .c (hD h), .c (hD c)]) (by simp [f2, q2.1 N h o oh]) ?_
  refine Run.nx (Γ1 := [.c (netD N), .c (hD h), .c (hD c)]) (by simp [f3, q3.1 N c o oc]) ?_
  have e4 := q4 N h c (allT N) o oh.sh oc.sh
  have e5 := q5 N o
  unfold allT at *
  exact Run.rt (Γ1 := [.c (netD N), .c (hD h), .c (hD c)]) (by simp [f4, f5, e4, e5]) ⟨_, rfl, rfl⟩
def runF (N : Net) (s : List (List (List Int)) × List Int) (c : List (List Int)) : List (List (List Int)) × List Int :=
  (s.1 ++ [(beatA N (s.1.getLast?.getD []) c (allT N)).1], addL (s.2, (beatA N (s.1.getLast?.getD []) c (allT N)).2))
def runA (N : Net) (h : List (List Int)) (rows : List (List (List Int))) : List (List (List Int)) × List Int := rows.foldl (runF N) ([h], rowA h.length fun _ => 0)
structure RunOk (N : Net) (s : List (List (List Int)) × List Int) : Prop where
  ne : s.1 ≠ []
  sh : ∀ h ∈ s.1, Sh N h
  len : s.2.length = N.ends.length
theorem RunOk.last {N : Net} {s : List (List (List Int)) × List Int} (r : RunOk N s) : Sh N (s.1.getLast?.getD []) := by
  cases e : s.1.getLast? with
  | none => exact absurd (List.getLast?_eq_none_iff.mp e) r.ne
  | some h => exact r.sh h (List.mem_of_getLast? e)
theorem RunOk.step {N : Net} {s : List (List (List Int)) × List Int} (r : RunOk N s) {c : List (List Int)} (sc : Sh N c) : RunOk N (runF N s c) := by
  have b := beat_sh r.last sc (allT N)
  refine ⟨by simp [runF], fun h hh => ?_, by simp [runF, addL, r.len, b.2]⟩
  rcases List.mem_append.mp hh with hh | hh
  · exact r.sh h hh
  · simp at hh; subst hh; exact b.1
theorem run_start {N : Net} {h : List (List Int)} (s : Sh N h) : RunOk N ([h], rowA h.length fun _ => 0) := ⟨by simp, by simpa using s, by rw [rowA_len]; exact s.len⟩
def rowsD (rows : List (List (List Int))) : PyData := .list (rows.map hD)
theorem atI_m1 {α : Type} (xs : List α) : atI xs (-1) = xs.getLast? := by
  rcases List.eq_nil_or_concat xs with rfl | ⟨ys, x, rfl⟩
  · rfl
  · rw [List.concat_eq_append, atI_last]; simp
def S_run_in (run : List Tr → Option FR) : Prop := ∀ N h rows, OkN N → Sh N h → (∀ c ∈ rows, Sh N c) → rows.length ≤ 1000 → run [.c (netD N), .c (hD h), .c (rowsD rows)] = some (.ok (.c (.tuple [rowsD (runA N h rows).1, lnD (runA N h rows).2])) [.gone, .gone, .gone])
theorem w_run_in {F : Genv} (h1 : Fn F "beat_over" S_beat_over) (h2 : Fn F "all_ties" S_all_ties) : S_run_in (r_run_in F) := by
  obtain ⟨r1, f1, q1⟩ := h1
  obtain ⟨r2, f2, q2⟩ := h2
  intro N h rows o s sr hr
  have l4 := o.e4
  have hl := s.len
  refine run_ret rfl (by decide) ?_
  refine Run.nx (Γ1 := [.c (netD N), .c (hD h), .c (rowsD rows), mpT hD [h], .gone, .gone, .gone, .gone, .gone, .gone]) (by simp [mpT]) ?_
  have rz := rep_zero h.length (by omega)
  have lz : biEv .len [.c (hD h)] = some (.c (.int (h.length : Nat))) := by simp [hD]
  refine Run.nx (Γ1 := [.c (netD N), .c (hD h), .c (rowsD rows), mpT hD [h], rowT (rowA h.length fun _ => 0), .gone, .gone, .gone, .gone, .gone]) (by simp [lz, rz]) ?_
  refine Run.forM (c := hD) (xs := rows) (Γ1 := [.c (netD N), .c (hD h), .c (rowsD rows), mpT hD [h], rowT (rowA h.length fun _ => 0), .gone, .gone, .gone, .gone, .gone])
    (fun i Γ => ∃ s x4 j5 j6 j7, Γ = [.c (netD N), .c (hD h), .c (rowsD rows), mpT hD s.1, rowT s.2, j5, j6, j7, .gone, .gone] ∧ s = (rows.take i).foldl (runF N) ([h], rowA h.length fun _ => 0) ∧ RunOk N s ∧ s.1.length = i + 1 ∧ x4 = s.2) (by simp [rowsD]) ⟨_, _, _, _, _, rfl, rfl, run_start s, rfl, rfl⟩ ?_ ?_
  · rintro i c Γ hi ⟨st, x4, j5, j6, j7, rfl, est, ro, sl, _⟩
    have sc := sr c (List.mem_of_getElem? hi)
    have hil := (List.getElem?_eq_some_iff.mp hi).1
    have ef := take_fold (f := runF N) (b := ([h], rowA h.length fun _ => 0)) hi
    rw [← est] at ef
    obtain ⟨g, eg⟩ : ∃ g, st.1.getLast? = some g := by
      cases e : st.1.getLast? with
      | none => exact absurd (List.getLast?_eq_none_iff.mp e) ro.ne
      | some g => exact ⟨g, rfl⟩
    have sg : Sh N g := ro.sh g (List.mem_of_getLast? eg)
    have e1 := q1 N g c (allT N) o sg sc
    have e2 : r2 [.c (netD N)] = some (.ok (.c (.tuple ((allT N).map nD))) [.gone]) := q2 N o
    have bs := beat_sh sg sc (allT N)
    have erf : runF N st c = (st.1 ++ [(beatA N g c (allT N)).1], addL (st.2, (beatA N g c (allT N)).2)) := by unfold runF; rw [eg]; rfl
    generalize (beatA N g c (allT N)) = bb at *
    have hz : st.1.length < sizeLine := Nat.lt_of_le_of_lt (show st.1.length ≤ 2000 by omega) (by decide)
    refine ⟨[.c (netD N), .c (hD h), .c (rowsD rows), mpT hD st.1, rowT st.2, .c (hD c), j6, j7, .gone, .gone], rfl, ?_⟩
    have kd : kidT (mpT hD st.1) (-1) = some (.c (hD g)) := by simp [mpT, atI_m1, eg]
    refine Run.nx (Γ1 := [.c (netD N), .c (hD h), .c (rowsD rows), mpT hD st.1, rowT st.2, .c (hD c), .c (hD bb.1), .c (lnD bb.2), .gone, .gone]) ?_ ?_
    · simp only [mpT] at kd ⊢
      simp [kd, f1, f2, e1, e2]
    · refine Run.nx (Γ1 := [.c (netD N), .c (hD h), .c (rowsD rows), mpT hD (st.1 ++ [bb.1]), rowT st.2, .c (hD c), .c (hD bb.1), .c (lnD bb.2), .gone, .gone]) (by
        have ma : mpT hD (st.1 ++ [bb.1]) = .l ((st.1.map fun x => .c (hD x)) ++ [.c (hD bb.1)]) := by simp [mpT]
        rw [ma]
        simp [mpT, hz]) ?_
      generalize eS : mpT hD (st.1 ++ [bb.1]) = S1
      have e := ev_addL (F := F) (Γ := [.c (netD N), .c (hD h), .c (rowsD rows), S1, rowT st.2, .c (hD c), .c (hD bb.1), .c (lnD bb.2), .gone, .gone]) (Γ2 := [.c (netD N), .c (hD h), .c (rowsD rows), S1, .c (.list (st.2.map iD)), .c (hD c), .c (hD bb.1), .c (lnD bb.2), .gone, .gone]) (a := st.2) (b := bb.2) (x := 8) (y := 9) (e1 := .var 4) (e2 := .var 7) (d1 := .list (st.2.map iD)) (d2 := lnD bb.2) (by simp) (by simp) (by decide) ⟨_, .c (.list (st.2.map iD)), .c (lnD bb.2), by
        have := rowT_frz st.2
        simp only [rowT, mpT] at this ⊢
        simp [this]; rfl, by simp, by simp, rfl⟩ rfl rfl (by rw [ro.len]; omega)
      have stp := ro.step sc
      rw [erf] at stp
      refine Run.nx (Γ1 := [.c (netD N), .c (hD h), .c (rowsD rows), S1, rowT (addL (st.2, bb.2)), .c (hD c), .c (hD bb.1), .c (lnD bb.2), .gone, .gone]) (by rw [sx1, e]; simp [rowT]) (Run.nil ⟨(st.1 ++ [bb.1], addL (st.2, bb.2)), _, _, _, _, by rw [eS], by rw [ef, erf], stp, by simp [sl], rfl⟩)
  · rintro Γ ⟨st, x4, j5, j6, j7, rfl, est, ro, sl, _⟩
    rw [List.take_length] at est
    have e0 : st = runA N h rows := est
    rw [← e0]
    have f3 : frz (mpT hD st.1) = some (rowsD st.1) := mpT_frz hD st.1
    have t1 : biEv .tuple [rowT st.2] = some (.c (lnD st.2)) := tuple_m iD st.2
    refine Run.rt (t := .c (.tuple [rowsD st.1, lnD st.2])) (Γ1 := [.c (netD N), .c (hD h), .c (rowsD rows), .c (rowsD st.1), rowT st.2, j5, j6, j7, .gone, .gone]) ?_ ⟨_, rfl, rfl⟩
    have ok4 : ∀ a b c d Γ, slotOk (a :: b :: c :: d :: rowT st.2 :: Γ) 4 = true := fun _ _ _ _ _ => rfl
    simp only [mpT] at f3 ⊢
    simp [f3, t1, ok4]
def S_need_rows (run : List Tr → Option FR) : Prop := ∀ N rows, OkN N → (∀ c ∈ rows, OkH 9 N c) → rows.length ≤ 1000 → run [.c (netD N), .c (rowsD rows)] = some (.ok (.c .none) [.gone, .gone])
theorem w_need_rows {F : Genv} (h1 : Fn F "need_comers" (S_need_lines 9 "NoComers")) (g : F.gl "MOST_BEATS" = some (.int 1000)) : S_need_rows (r_need_rows F) := by
  obtain ⟨r1, f1, q1⟩ := h1
  intro N rows o oc hl
  refine run_none rfl (by decide) ?_
  refine Run.skip (Γ1 := [.c (netD N), .c (rowsD rows), .gone]) (by simp [rowsD, isLst]) ?_
  refine Run.skip (Γ1 := [.c (netD N), .c (rowsD rows), .gone]) (by simp [rowsD, g]; omega) ?_
  refine Run.forM (c := hD) (xs := rows) (Γ1 := [.c (netD N), .c (rowsD rows), .gone]) (fun i Γ => ∃ j, Γ = [.c (netD N), .c (rowsD rows), j]) (by simp [rowsD]) ⟨_, rfl⟩ ?_ ?_
  · rintro i c Γ hi ⟨j, rfl⟩
    have := q1.1 N c o (oc c (List.mem_of_getElem? hi))
    exact ⟨[.c (netD N), .c (rowsD rows), .c (hD c)], rfl, Run.nx (Γ1 := [.c (netD N), .c (rowsD rows), .c (hD c)]) (by simp [f1, this]) (Run.nil ⟨_, rfl⟩)⟩
  · rintro Γ ⟨j, rfl⟩
    exact Run.nil ⟨_, rfl, rfl⟩
def S_run (run : List Tr → Option FR) : Prop := ∀ N h rows, OkN N → OkH 1000000000 N h → (∀ c ∈ rows, OkH 9 N c) → rows.length ≤ 1000 → run [.c (netD N), .c (hD h), .c (rowsD rows)] = some (.ok (.c (.tuple [rowsD (runA N h rows).1, lnD (runA N h rows).2])) [.gone, .gone, .gone])
theorem w_run {F : Genv} (h1 : Fn F "need_net" S_need_net) (h2 : Fn F "need_heaps" (S_need_lines 1000000000 "NoHeaps")) (h3 : Fn F "need_rows" S_need_rows) (h4 : Fn F "run_in" S_run_in) : S_run (r_run F) := by
  obtain ⟨r1, f1, q1⟩ := h1
  obtain ⟨r2, f2, q2⟩ := h2
  obtain ⟨r3, f3, q3⟩ := h3
  obtain ⟨r4, f4, q4⟩ := h4
  intro N h rows o oh oc hl
  refine run_ret rfl (by decide) ?_
  refine Run.nx (Γ1 := [.c (netD N), .c (hD h), .c (rowsD rows)]) (by simp [f1, q1.1 N o]) ?_
  refine Run.nx (Γ1 := [.c (netD N), .c (hD h), .c (rowsD rows)]) (by simp [f2, q2.1 N h o oh]) ?_
  refine Run.nx (Γ1 := [.c (netD N), .c (hD h), .c (rowsD rows)]) (by simp [f3, q3 N rows o oc hl]) ?_
  exact Run.rt (t := .c (.tuple [rowsD (runA N h rows).1, lnD (runA N h rows).2])) (Γ1 := [.c (netD N), .c (hD h), .c (rowsD rows)]) (by simp [f4, q4 N h rows o oh.sh (fun c hc => (oc c hc).sh) hl]) ⟨_, rfl, rfl⟩
end Hp
set_option Elab.async false
set_option linter.all false
set_option maxRecDepth 100000
set_option maxHeartbeats 400000
namespace Hp
open PySem PySem.Spec PyProof.Rows L2 Hw
def rs (H : List (List Int)) (k : Nat) : Int := ((H[k]?).getD []).sum
theorem sum_set : ∀ {l : List Int} {p : Nat} {x : Int}, p < l.length → (l.set p x).sum = l.sum + (x - (l[p]?).getD 0)
  | [], p, x, h => by simp at h
  | y :: l, 0, x, _ => by simp; omega
  | y :: l, p + 1, x, h => by
    have := sum_set (l := l) (p := p) (x := x) (by simpa using h)
    simp only [List.set_cons_succ, List.sum_cons, List.getElem?_cons_succ]
    omega
theorem rs_setC {N : Net} {H : List (List Int)} (s : Sh N H) {k p : Nat} (hk : k < N.ends.length) (hp : p < N.n) (x : Int) (k' : Nat) : rs (setC H k p x) k' = rs H k' + if k' = k then x - cell H k p else 0 := by
  have hk' : k < H.length := by rw [s.len]; exact hk
  obtain ⟨l, g1, g2, gl⟩ := s.get hk hp
  have ll := s.l l gl
  unfold Hp.setC rs
  by_cases e : k' = k
  · subst e
    rw [List.getElem?_set_self hk', if_pos rfl, g1]
    show (l.set p x).sum = l.sum + _
    rw [sum_set (by omega), g2]; rfl
  · rw [List.getElem?_set_ne (fun z => e z.symm), if_neg e]; omega
structure Nn (N : Net) (H : List (List Int)) : Prop where
  sh : Sh N H
  nn : ∀ k p, k < N.ends.length → p < N.n → 0 ≤ cell H k p
  z : ∀ k e, N.ends[k]? = some e → cell H k e = 0
theorem OkH.nn {high : Int} {N : Net} {h : List (List Int)} (o : OkH high N h) : Nn N h := ⟨o.sh, fun k p hk hp => by
  obtain ⟨l, g1, g2, gl⟩ := o.sh.get hk hp
  exact (o.b l gl _ (List.mem_of_getElem? g2)).1, fun k e he => by
  have hk : k < h.length := by rw [o.len]; exact (List.getElem?_eq_some_iff.mp he).1
  have := (o.l k e _ he (List.getElem?_eq_getElem hk)).z
  unfold cell
  rw [List.getElem?_eq_getElem hk]
  show ((h[k])[e]?).getD 0 = 0
  rw [this]; rfl⟩
theorem Nn.ok {high : Int} {N : Net} {h : List (List Int)} (o : OkN N) (n : Nn N h) (b : ∀ l ∈ h, ∀ x ∈ l, x ≤ high) : OkH high N h := by
  refine ⟨n.sh.len, fun k e l he hl => ?_⟩
  have gl := List.mem_of_getElem? hl
  have ll := n.sh.l l gl
  have hk : k < N.ends.length := (List.getElem?_eq_some_iff.mp he).1
  have cl : ∀ p, cell h k p = (l[p]?).getD 0 := fun p => by unfold cell; rw [hl]; rfl
  refine ⟨ll, fun x hx => ⟨?_, b l gl x hx⟩, ?_⟩
  · obtain ⟨p, hp⟩ := List.mem_iff_getElem?.mp hx
    have hp2 := (List.getElem?_eq_some_iff.mp hp).1
    have := n.nn k p hk (by omega)
    rw [cl, hp] at this
    exact this
  · have he2 := o.e e (List.mem_of_getElem? he)
    have := n.z k e he
    rw [cl, List.getElem?_eq_getElem (by omega)] at this
    rw [List.getElem?_eq_getElem (by omega)]
    simp at this
    rw [this]
def movesR (H : List (List Int)) : List (Tie × Option Nat) → List Mv
  | [] => []
  | p :: ps => (mvS H p).2 :: movesR (mvS H p).1 ps
theorem mv_eq : ∀ (ps : List (Tie × Option Nat)) (H : List (List Int)) (acc : List Mv), (ps.foldl mvF (H, acc)).2 = acc ++ movesR H ps
  | [], H, acc => by simp [movesR]
  | p :: ps, H, acc => by
    have := mv_eq ps (mvS H p).1 (acc ++ [(mvS H p).2])
    show (ps.foldl mvF ((mvS H p).1, acc ++ [(mvS H p).2])).2 = _
    rw [this, List.append_assoc]; rfl
structure Jn (N : Net) (S : Nat → Int) (H G : List (List Int)) (hm : List Int) : Prop where
  sH : Sh N H
  sG : Sh N G
  len : hm.length = N.ends.length
  le : ∀ k p, k < N.ends.length → p < N.n → 0 ≤ cell H k p ∧ cell H k p ≤ cell G k p
  z : ∀ k e, N.ends[k]? = some e → cell G k e = 0
  c : ∀ k, k < N.ends.length → rs G k + (hm[k]?).getD 0 = S k
theorem Jn.step {N : Net} {S : Nat → Int} {H G : List (List Int)} {hm : List Int} (on : OkN N) (j : Jn N S H G hm) {t : Tie} (ot : OkT N.n t) {o : Option Nat} (ho : ∀ k, o = some k → k < N.ends.length) :
    Jn N S (mvS H (t, o)).1 (goF N (G, hm) (t, (mvS H (t, o)).2)).1 (goF N (G, hm) (t, (mvS H (t, o)).2)).2 := by
  cases o with
  | none => exact j
  | some k =>
    have hk := ho k rfl
    have oi := ot.i
    have oj := ot.j
    have lo := ot.lo
    have a := j.le k t.i hk oi
    generalize hm' : (if cell H k t.i < t.m then cell H k t.i else t.m) = m
    have m1 : m ≤ cell H k t.i := by rw [← hm']; split <;> omega
    have m2 : 0 ≤ m := by rw [← hm']; split <;> omega
    have e1 : (mvS H (t, some k)).1 = setC H k t.i (cell H k t.i - m) := by rw [← hm']; rfl
    have e2 : (mvS H (t, some k)).2 = if 0 < m then some (k, m) else none := by rw [← hm']; rfl
    rw [e1, e2]
    have cH := fun k' p' => cell_setC j.sH hk oi (cell H k t.i - m) k' p'
    have sH' := j.sH.setC hk t.i (cell H k t.i - m)
    by_cases mp : 0 < m
    · rw [if_pos mp]
      have cG := fun k' p' => cell_setC j.sG hk oi (cell G k t.i - m) k' p'
      have sG' := j.sG.setC hk t.i (cell G k t.i - m)
      have rG := fun k' => rs_setC j.sG hk oi (cell G k t.i - m) k'
      have nz : ∀ e, N.ends[k]? = some e → t.i ≠ e := fun e he z => by
        have h1 := j.z k e he
        have h2 := j.le k e hk (on.e e (List.mem_of_getElem? he))
        rw [z] at m1; omega
      by_cases en : N.ends[k]? = some t.j
      · have eg : goF N (G, hm) (t, some (k, m)) = (setC G k t.i (cell G k t.i - m), hm.set k ((hm[k]?).getD 0 + m)) := by
          show (if N.ends[k]? = some t.j then _ else _) = _
          rw [if_pos en]
        rw [eg]
        refine ⟨sH', sG', by simpa using j.len, fun k' p' hk' hp' => ?_, fun k' e he => ?_, fun k' hk' => ?_⟩
        · rw [cH, cG]
          have := j.le k' p' hk' hp'
          split <;> omega
        · rw [cG]
          have := j.z k' e he
          split
          · rename_i q; obtain ⟨rfl, rfl⟩ := q; exact absurd rfl (nz _ he)
          · exact this
        · have := j.c k' hk'
          have hl : k < hm.length := by rw [j.len]; exact hk
          show rs (setC G k t.i (cell G k t.i - m)) k' + ((hm.set k ((hm[k]?).getD 0 + m))[k']?).getD 0 = _
          rw [rG]
          by_cases q : k' = k
          · subst q
            rw [if_pos rfl, List.getElem?_set_self hl]
            show _ + ((hm[k']?).getD 0 + m) = _
            omega
          · rw [if_neg q, List.getElem?_set_ne (fun z => q z.symm)]; omega
      · have eg : goF N (G, hm) (t, some (k, m)) = (setC (setC G k t.i (cell G k t.i - m)) k t.j (cell (setC G k t.i (cell G k t.i - m)) k t.j + m), hm) := by
          show (if N.ends[k]? = some t.j then _ else _) = _
          rw [if_neg en]
        rw [eg]
        generalize setC G k t.i (cell G k t.i - m) = G1 at *
        have cG1 := fun k' p' => cell_setC sG' hk oj (cell G1 k t.j + m) k' p'
        have rG1 := fun k' => rs_setC sG' hk oj (cell G1 k t.j + m) k'
        refine ⟨sH', sG'.setC hk _ _, j.len, fun k' p' hk' hp' => ?_, fun k' e he => ?_, fun k' hk' => ?_⟩
        · show 0 ≤ cell (setC H k t.i (cell H k t.i - m)) k' p' ∧ _ ≤ cell (setC G1 k t.j (cell G1 k t.j + m)) k' p'
          have := j.le k' p' hk' hp'
          have q1 := cH k' p'
          have q2 := cG k' p'
          rw [q1, cG1]
          by_cases q : k' = k ∧ p' = t.j
          · have hq : cell G1 k' p' = cell G1 k t.j := by rw [q.1, q.2]
            rw [if_pos q, ← hq, q2]
            split <;> omega
          · rw [if_neg q, q2]
            split <;> omega
        · show cell (setC G1 k t.j (cell G1 k t.j + m)) k' e = 0
          rw [cG1]
          by_cases q : k' = k ∧ e = t.j
          · obtain ⟨rfl, rfl⟩ := q; exact absurd he en
          · rw [if_neg q, cG]
            have := j.z k' e he
            split
            · rename_i q; obtain ⟨rfl, rfl⟩ := q; exact absurd rfl (nz _ he)
            · exact this
        · have := j.c k' hk'
          show rs (setC G1 k t.j (cell G1 k t.j + m)) k' + (hm[k']?).getD 0 = _
          rw [rG1, rG]
          by_cases q : k' = k
          · subst q; rw [if_pos rfl, if_pos rfl]; omega
          · rw [if_neg q, if_neg q]; omega
    · rw [if_neg mp]
      refine ⟨sH', j.sG, j.len, fun k' p' hk' hp' => ?_, j.z, j.c⟩
      rw [cH]
      have := j.le k' p' hk' hp'
      show _ ∧ _ ≤ cell G k' p'
      split
      · rename_i q; obtain ⟨rfl, rfl⟩ := q; omega
      · exact this
theorem jn_fold {N : Net} {S : Nat → Int} (on : OkN N) : ∀ (ts : List Tie) (os : List (Option Nat)) (H G : List (List Int)) (hm : List Int), (∀ t ∈ ts, OkT N.n t) → (∀ o ∈ os, ∀ k, o = some k → k < N.ends.length) → Jn N S H G hm →
    ∃ H', Jn N S H' ((ts.zip (movesR H (ts.zip os))).foldl (goF N) (G, hm)).1 ((ts.zip (movesR H (ts.zip os))).foldl (goF N) (G, hm)).2
  | [], _, H, G, hm, _, _, j => ⟨H, by simpa using j⟩
  | t :: ts, [], H, G, hm, _, _, j => ⟨H, by simpa [movesR] using j⟩
  | t :: ts, o :: os, H, G, hm, ht, ho, j => by
    have st := j.step on (ht t List.mem_cons_self) (ho o List.mem_cons_self)
    exact jn_fold on ts os (mvS H (t, o)).1 (goF N (G, hm) (t, (mvS H (t, o)).2)).1 (goF N (G, hm) (t, (mvS H (t, o)).2)).2 (fun x hx => ht x (List.mem_cons_of_mem _ hx)) (fun x hx => ho x (List.mem_cons_of_mem _ hx)) st
theorem gone_facts {N : Net} (on : OkN N) {h : List (List Int)} (n : Nn N h) {os : List (Option Nat)} (oo : OkO N os) : ∃ H', Jn N (rs h) H' (goneA N h (movesA N h os)).1 (goneA N h (movesA N h os)).2 := by
  have e : movesA N h os = movesR h (N.ties.zip os) := by
    have := mv_eq (N.ties.zip os) h []
    exact this
  rw [e]
  refine jn_fold on N.ties os h h (rowA h.length fun _ => 0) on.t (fun o ho k e => oo.k k (e ▸ ho)) ⟨n.sh, n.sh, by rw [rowA_len]; exact n.sh.len, fun k p hk hp => ⟨n.nn k p hk hp, Int.le_refl _⟩, n.z, fun k hk => ?_⟩
  rw [rowA_get (by rw [n.sh.len]; exact hk)]
  simp
theorem sum_addL : ∀ {a b : List Int}, a.length = b.length → (addL (a, b)).sum = a.sum + b.sum
  | [], [], _ => rfl
  | [], _ :: _, h => by simp at h
  | _ :: _, [], h => by simp at h
  | x :: a, y :: b, h => by
    have := sum_addL (a := a) (b := b) (by simpa using h)
    simp only [addL] at this ⊢
    simp only [List.zip_cons_cons, List.map_cons, List.sum_cons, this]
    omega
theorem addL_get {a b : List Int} {p : Nat} {x y : Int} (h1 : a[p]? = some x) (h2 : b[p]? = some y) : (addL (a, b))[p]? = some (x + y) := by
  simp only [addL]
  rw [List.getElem?_map]
  have : (a.zip b)[p]? = some (x, y) := by
    rw [List.getElem?_zip_eq_some]; exact ⟨h1, h2⟩
  rw [this]; rfl
theorem addH_get {h c : List (List Int)} {k : Nat} {l r : List Int} (h1 : h[k]? = some l) (h2 : c[k]? = some r) : (addH h c)[k]? = some (addL (l, r)) := by
  simp only [addH]
  rw [List.getElem?_map]
  have : (h.zip c)[k]? = some (l, r) := by
    rw [List.getElem?_zip_eq_some]; exact ⟨h1, h2⟩
  rw [this]; rfl
theorem cell_addH {N : Net} {h c : List (List Int)} (s : Sh N h) (r : Sh N c) {k p : Nat} (hk : k < N.ends.length) (hp : p < N.n) : cell (addH h c) k p = cell h k p + cell c k p := by
  obtain ⟨l, g1, g2, _⟩ := s.get hk hp
  obtain ⟨l', g3, g4, _⟩ := r.get hk hp
  unfold cell at g2 g4 ⊢
  rw [addH_get g1 g3]
  show ((addL (l, l'))[p]?).getD 0 = _
  rw [addL_get g2 g4]; rfl
theorem rs_addH {N : Net} {h c : List (List Int)} (on : OkN N) (s : Sh N h) (r : Sh N c) {k : Nat} (hk : k < N.ends.length) : rs (addH h c) k = rs h k + rs c k := by
  obtain ⟨l, g1, _, gl⟩ := s.get hk (p := 0) on.n1
  obtain ⟨l', g3, _, gl'⟩ := r.get hk (p := 0) on.n1
  unfold rs
  rw [addH_get g1 g3, g1, g3]
  exact sum_addL (by rw [s.l l gl, r.l l' gl'])
def bt (N : Net) (H c : List (List Int)) : List (List Int) × List Int := beatA N H c (allT N)
def standsR (N : Net) : List (List Int) → List (List (List Int)) → List (List (List Int))
  | _, [] => []
  | H, c :: rows => (bt N H c).1 :: standsR N (bt N H c).1 rows
def homesR (N : Net) : List (List Int) → List (List (List Int)) → List (List Int)
  | _, [] => []
  | H, c :: rows => (bt N H c).2 :: homesR N (bt N H c).1 rows
def addAll (a : List Int) (hs : List (List Int)) : List Int := hs.foldl (fun a b => addL (a, b)) a
theorem run_fold_eq (N : Net) : ∀ (rows : List (List (List Int))) (acc : List (List (List Int))) (H : List (List Int)) (hm : List Int), rows.foldl (runF N) (acc ++ [H], hm) = (acc ++ [H] ++ standsR N H rows, addAll hm (homesR N H rows))
  | [], acc, H, hm => by simp [standsR, homesR, addAll]
  | c :: rows, acc, H, hm => by
    have e : runF N (acc ++ [H], hm) c = ((acc ++ [H]) ++ [(bt N H c).1], addL (hm, (bt N H c).2)) := by
      unfold runF bt
      simp
    show rows.foldl (runF N) (runF N (acc ++ [H], hm) c) = _
    rw [e, run_fold_eq N rows (acc ++ [H]) _ _]
    simp [standsR, homesR, addAll]
theorem runA_eq (N : Net) (h : List (List Int)) (rows : List (List (List Int))) : runA N h rows = (h :: standsR N h rows, addAll (rowA h.length fun _ => 0) (homesR N h rows)) := by
  have := run_fold_eq N rows [] h (rowA h.length fun _ => 0)
  unfold runA
  simpa using this
theorem stands_len (N : Net) : ∀ (rows : List (List (List Int))) (H : List (List Int)), (standsR N H rows).length = rows.length
  | [], _ => rfl
  | c :: rows, H => by simp [standsR, stands_len N rows]
end Hp
set_option Elab.async false
set_option linter.all false
set_option maxRecDepth 100000
set_option maxHeartbeats 400000
namespace Hp
open PySem PySem.Spec PyProof.Rows L2 Hw
theorem lT_mpT {α : Type} (h : α → PyData) (xs : List α) : lT (xs.map h) = mpT h xs := by
  unfold lT mpT; rw [List.map_map]; rfl
theorem settle_mpT {α : Type} (c : α → PyData) (xs : List α) : Hw.settle (mpT c xs) = some (.c (.list (xs.map c))) := by
  have := mpT_frz c xs
  simp only [mpT] at this ⊢
  simp [Hw.settle, this]
def mx : List Int → Int
  | [] => 0
  | x :: xs => xs.foldl max x
theorem mx_le {l : List Int} : ∀ x ∈ l, x ≤ mx l := by
  cases l with
  | nil => intro x h; cases h
  | cons y ys =>
    obtain ⟨_, h1, h2⟩ := foldl_max ys y
    intro x hx
    rcases List.mem_cons.mp hx with rfl | hx
    · exact h1
    · exact h2 x hx
theorem max_t {l : List Int} (h : l ≠ []) : biEv .max1 [.c (lnD l)] = some (.c (.int (mx l))) := by
  cases l with
  | nil => exact absurd rfl h
  | cons x xs =>
    have e : intsOf ((x :: xs).map iD) = some (x :: xs) := by
      have := intsOf_map (fun x : Int => x) (x :: xs)
      rw [List.map_id'] at this
      exact this
    simp only [biEv, lnD, asList_t, asTup_c, e]; rfl
theorem max_l {α : Type} (f : α → Int) {xs : List α} (h : xs ≠ []) : biEv .max1 [.l (xs.map fun x => .c (.int (f x)))] = some (.c (.int (mx (xs.map f)))) := by
  simp only [biEv, asList_l]
  rw [stl_map (fun x => PyData.int (f x))]
  simp only [intsOf_map]
  cases xs with
  | nil => exact absurd rfl h
  | cons x xs => rfl
theorem CD.ln (l : List Int) : CD 1 (lnD l) := CD.tuple fun d hd => by obtain ⟨x, _, rfl⟩ := List.mem_map.mp hd; exact CD.int x
theorem CD.h (h : List (List Int)) : CD 2 (hD h) := CD.tuple fun d hd => by obtain ⟨x, _, rfl⟩ := List.mem_map.mp hd; exact CD.ln x
theorem CD.rows (h : List (List (List Int))) : CD 3 (rowsD h) := CD.list fun d hd => by obtain ⟨x, _, rfl⟩ := List.mem_map.mp hd; exact CD.h x
theorem Sh.row {N : Net} {h : List (List Int)} (on : OkN N) (s : Sh N h) {k : Nat} (hk : k < N.ends.length) : ∃ l, h[k]? = some l ∧ l.sum = rs h k := by
  obtain ⟨l, g1, _, _⟩ := s.get hk (p := 0) on.n1
  exact ⟨l, g1, by unfold rs; rw [g1]; rfl⟩
end Hp
set_option Elab.async false
set_option linter.all false
set_option maxRecDepth 100000
set_option maxHeartbeats 400000
namespace Hp
open PySem PySem.Spec PyProof.Rows L2 Hw
theorem runA_len {N : Net} (h : List (List Int)) (rows : List (List (List Int))) : (runA N h rows).1.length = rows.length + 1 := by
  rw [runA_eq]; simp [stands_len]
end Hp
set_option Elab.async false
set_option linter.all false
set_option maxRecDepth 100000
set_option maxHeartbeats 400000
namespace Hp
open PySem PySem.Spec PyProof.Rows L2 Hw
theorem OkO.none {N : Net} : OkO N (List.replicate N.ties.length none) := ⟨by simp, fun b hb => by have := List.eq_of_mem_replicate hb; cases this⟩
theorem OkO.set {N : Net} {os : List (Option Nat)} (oo : OkO N os) (a : Nat) {o : Option Nat} (ho : ∀ k, o = some k → k < N.ends.length) : OkO N (os.set a o) := ⟨by rw [List.length_set]; exact oo.len, fun b hb => by
  rcases List.mem_or_eq_of_mem_set hb with h | h
  · exact oo.k b h
  · exact ho b h.symm⟩
theorem movesA_R (N : Net) (h : List (List Int)) (os : List (Option Nat)) : movesA N h os = movesR h (N.ties.zip os) := mv_eq (N.ties.zip os) h []
end Hp
set_option Elab.async false
set_option linter.all false
set_option maxRecDepth 100000
set_option maxHeartbeats 400000
namespace Hp
open PySem PySem.Spec PyProof.Rows L2 Hw
end Hp
set_option Elab.async false
set_option linter.all false
set_option maxRecDepth 100000
set_option maxHeartbeats 400000
namespace Hp
open PySem PySem.Spec PyProof.Rows L2 Hw
theorem mvS_sh {N : Net} {H : List (List Int)} (s : Sh N H) (t : Tie) {o : Option Nat} (ho : ∀ k, o = some k → k < N.ends.length) : Sh N (mvS H (t, o)).1 := mv_sh (s := (H, [])) (p := (t, o)) s ho
end Hp
set_option Elab.async false
set_option linter.all false
set_option maxRecDepth 100000
set_option maxHeartbeats 400000
namespace Hp
open PySem PySem.Spec PyProof.Rows L2 Hw
theorem ev_varM {F : Genv} {α : Type} (c : α → PyData) (xs : List α) {Γ : List Tr} {i : Nat} (h : Γ[i]? = some (mpT c xs)) : ev F (.var i) Γ = some (.ok (.c (.list (xs.map c))) (Γ.set i (.c (.list (xs.map c))))) := by
  have fz := mpT_frz c xs
  unfold mpT at h fz
  simp only [ev, h, fz]; rfl
theorem CD.os (os : List (Option Nat)) : CD 1 (osD os) := CD.list fun d hd => by
  obtain ⟨x, _, rfl⟩ := List.mem_map.mp hd
  cases x with
  | none => exact CD.none
  | some k => exact CD.int _
end Hp
set_option Elab.async false
set_option linter.all false
set_option maxRecDepth 100000
set_option maxHeartbeats 400000
namespace Hp
open PySem PySem.Spec PyProof.Rows L2 Hw
end Hp
set_option Elab.async false
set_option linter.all false
set_option maxRecDepth 100000
namespace Hp
open PySem PySem.Spec PyProof.Rows L2 Hw
end Hp
set_option Elab.async false
set_option linter.all false
set_option maxRecDepth 100000
set_option maxHeartbeats 400000
namespace Hp
open PySem PySem.Spec PyProof.Rows L2 Hw
end Hp
set_option Elab.async false
set_option linter.all false
set_option maxRecDepth 100000
set_option maxHeartbeats 400000
namespace Hp
open PySem PySem.Spec PyProof.Rows L2 Hw
theorem sum_addF {α : Type} (f g : α → Int) : ∀ xs : List α, (xs.map fun x => f x + g x).sum = (xs.map f).sum + (xs.map g).sum
  | [] => rfl
  | x :: xs => by
    have := sum_addF f g xs
    simp only [List.map_cons, List.sum_cons]
    omega
theorem sum_zeroF {α : Type} {f : α → Int} : ∀ {xs : List α}, (∀ x ∈ xs, f x = 0) → (xs.map f).sum = 0
  | [], _ => rfl
  | x :: xs, h => by
    have h1 := h x List.mem_cons_self
    have := sum_zeroF (f := f) (xs := xs) fun y hy => h y (List.mem_cons_of_mem _ hy)
    simp only [List.map_cons, List.sum_cons]
    omega
theorem sum_mulF {α : Type} (c : Int) (f : α → Int) : ∀ xs : List α, (xs.map fun x => c * f x).sum = c * (xs.map f).sum
  | [] => by simp
  | x :: xs => by
    have := sum_mulF c f xs
    simp only [List.map_cons, List.sum_cons, Int.mul_add, this]
theorem sum_congrF {α : Type} {f g : α → Int} {xs : List α} (h : ∀ x ∈ xs, f x = g x) : (xs.map f).sum = (xs.map g).sum := by rw [List.map_congr_left h]
theorem sum_swapF {α β : Type} (f : α → β → Int) : ∀ (xs : List α) (ys : List β), (xs.map fun x => (ys.map (f x)).sum).sum = (ys.map fun y => (xs.map fun x => f x y).sum).sum
  | [], ys => by
    have := sum_zeroF (f := fun y : β => (([] : List α).map fun x => f x y).sum) (xs := ys) fun _ _ => rfl
    rw [this]; rfl
  | x :: xs, ys => by
    have ih := sum_swapF f xs ys
    have h := sum_addF (f x) (fun y => (xs.map fun x => f x y).sum) ys
    simp only [List.map_cons, List.sum_cons, ih]
    exact h.symm
theorem sum_pickF (v : Int) : ∀ (n i : Nat), ((List.range n).map fun p => if p = i then v else 0).sum = if i < n then v else 0
  | 0, i => by simp
  | n + 1, i => by
    have ih := sum_pickF v n i
    rw [List.range_succ, List.map_append, List.sum_append, ih]
    simp only [List.map_cons, List.map_nil, List.sum_cons, List.sum_nil]
    by_cases h : i < n
    · rw [if_pos h, if_neg (by omega), if_pos (by omega)]; omega
    · rw [if_neg h]
      by_cases e : n = i
      · subst e; rw [if_pos rfl, if_pos (by omega)]; omega
      · rw [if_neg e, if_neg (by omega)]; omega
def dsum (K n : Nat) (f : Nat → Nat → Int) : Int := ((List.range K).map fun k => ((List.range n).map (f k)).sum).sum
theorem dsum_congr {K n : Nat} {f g : Nat → Nat → Int} (h : ∀ k p, k < K → p < n → f k p = g k p) : dsum K n f = dsum K n g :=
  sum_congrF fun k hk => sum_congrF fun p hp => h k p (List.mem_range.mp hk) (List.mem_range.mp hp)
theorem dsum_mono {K n : Nat} {f g : Nat → Nat → Int} (h : ∀ k p, k < K → p < n → f k p ≤ g k p) : dsum K n f ≤ dsum K n g :=
  sum_mono fun k hk => sum_mono fun p hp => h k p (List.mem_range.mp hk) (List.mem_range.mp hp)
theorem dsum_add (K n : Nat) (f g : Nat → Nat → Int) : dsum K n (fun k p => f k p + g k p) = dsum K n f + dsum K n g := by
  unfold dsum
  rw [← sum_addF]
  exact sum_congrF fun k _ => sum_addF _ _ _
theorem dsum_mul (K n : Nat) (c : Int) (f : Nat → Nat → Int) : dsum K n (fun k p => c * f k p) = c * dsum K n f := by
  unfold dsum
  rw [← sum_mulF]
  exact sum_congrF fun k _ => sum_mulF _ _ _
theorem dsum_zero {K n : Nat} {f : Nat → Nat → Int} (h : ∀ k p, k < K → p < n → f k p = 0) : dsum K n f = 0 :=
  sum_zeroF fun k hk => sum_zeroF fun p hp => h k p (List.mem_range.mp hk) (List.mem_range.mp hp)
theorem dsum_pick {K n k0 p0 : Nat} (v : Int) (hk : k0 < K) (hp : p0 < n) : dsum K n (fun k p => if k = k0 ∧ p = p0 then v else 0) = v := by
  have e : dsum K n (fun k p => if k = k0 ∧ p = p0 then v else 0) = ((List.range K).map fun k => if k = k0 then v else 0).sum := by
    refine sum_congrF fun k _ => ?_
    by_cases h : k = k0
    · have := sum_pickF v n p0
      rw [if_pos hp] at this
      rw [if_pos h]
      exact Eq.trans (sum_congrF fun p _ => by simp [h]) this
    · rw [if_neg h]
      exact sum_zeroF fun p _ => by simp [h]
  rw [e, sum_pickF, if_pos hk]
theorem dsum_list {α : Type} (K n : Nat) (f : α → Nat → Nat → Int) (xs : List α) : dsum K n (fun k p => (xs.map fun x => f x k p).sum) = (xs.map fun x => dsum K n (f x)).sum := by
  unfold dsum
  have h1 : ((List.range K).map fun k => ((List.range n).map fun p => (xs.map fun x => f x k p).sum).sum).sum = ((List.range K).map fun k => (xs.map fun x => ((List.range n).map fun p => f x k p).sum).sum).sum :=
    sum_congrF fun k _ => sum_swapF (fun p x => f x k p) _ _
  rw [h1]
  exact sum_swapF (fun k x => ((List.range n).map fun p => f x k p).sum) _ _
theorem sum_idx {α : Type} (g : α → Int) (d : α) : ∀ (l : List α), (l.map g).sum = ((List.range l.length).map fun i => g ((l[i]?).getD d)).sum
  | [] => rfl
  | x :: l => by
    rw [List.length_cons, List.range_succ_eq_map, List.map_cons, List.map_cons, List.sum_cons, List.sum_cons, sum_idx g d l, List.map_map]
    rfl
theorem rows_dsum {N : Net} {h : List (List Int)} (s : Sh N h) (w : Nat → Int) : ((List.range N.ends.length).map fun k => w k * sqL ((h[k]?).getD [])).sum = dsum N.ends.length N.n (fun k p => w k * (cell h k p * cell h k p)) := by
  refine sum_congrF fun k hk => ?_
  have hk := List.mem_range.mp hk
  have hk' : k < h.length := by rw [s.len]; exact hk
  rw [sum_mulF]
  congr 1
  unfold sqL
  rw [sum_idx (fun x => x * x) 0]
  have l : ((h[k]?).getD []).length = N.n := by
    rw [List.getElem?_eq_getElem hk']
    exact s.l _ (List.getElem_mem hk')
  rw [l]; rfl
theorem sq_dsum {N : Net} {h : List (List Int)} (s : Sh N h) : sqH h = dsum N.ends.length N.n (fun k p => cell h k p * cell h k p) := by
  have := rows_dsum s fun _ => 1
  simp only [Int.one_mul] at this
  rw [← this]
  unfold sqH
  rw [sum_idx sqL [], s.len]
theorem zip_idx {α β : Type} (g : α → β → Int) (a : α) (b : β) : ∀ (l : List α) (r : List β), l.length = r.length → ((l.zip r).map fun p => g p.1 p.2).sum = ((List.range l.length).map fun i => g ((l[i]?).getD a) ((r[i]?).getD b)).sum
  | [], [], _ => rfl
  | [], _ :: _, h => by simp at h
  | _ :: _, [], h => by simp at h
  | x :: l, y :: r, h => by
    rw [List.length_cons, List.range_succ_eq_map, List.zip_cons_cons, List.map_cons, List.map_cons, List.sum_cons, List.sum_cons, zip_idx g a b l r (by simpa using h), List.map_map]
    rfl
theorem heaped_dsum {N : Net} {h c : List (List Int)} (s : Sh N h) (r : Sh N c) : heapedA h c = dsum N.ends.length N.n (fun k p => cell h k p * cell c k p) := by
  unfold heapedA
  have e : ((h.zip c).map hpL).sum = ((h.zip c).map fun p => (fun a b : List Int => ((a.zip b).map fun q => q.1 * q.2).sum) p.1 p.2).sum := rfl
  rw [e, zip_idx (fun a b : List Int => ((a.zip b).map fun q => q.1 * q.2).sum) [] [] h c (by rw [s.len, r.len]), s.len]
  refine sum_congrF fun k hk => ?_
  have hk := List.mem_range.mp hk
  have hk' : k < h.length := by rw [s.len]; exact hk
  have hc' : k < c.length := by rw [r.len]; exact hk
  have l1 : ((h[k]?).getD []).length = N.n := by rw [List.getElem?_eq_getElem hk']; exact s.l _ (List.getElem_mem hk')
  have l2 : ((c[k]?).getD []).length = N.n := by rw [List.getElem?_eq_getElem hc']; exact r.l _ (List.getElem_mem hc')
  rw [zip_idx (fun a b : Int => a * b) 0 0 _ _ (by rw [l1, l2]), l1]
  rfl
def muchF (N : Net) (c : List (List Int)) (os : List (Option Nat)) (k p : Nat) : Int := if N.ends[k]? = some p then 0 else sqr (offeredA N os k p false) + sqr (offeredA N os k p true + cell c k p)
theorem places_sum (n e : Nat) (f : Nat → Int) : ((placesOf n e).map f).sum = ((List.range n).map fun p => if p = e then 0 else f p).sum := by
  unfold placesOf
  rw [fil_ite]
  refine sum_congrF fun p _ => ?_
  by_cases h : p = e <;> simp [h]
theorem much_dsum (N : Net) (c : List (List Int)) (os : List (Option Nat)) : muchA N c os = dsum N.ends.length N.n (muchF N c os) := by
  unfold muchA dsum
  rw [sum_idx (fun p : Nat × Nat => ((placesOf N.n p.1).map (muchK N c os p)).sum) (0, 0), List.length_zipIdx]
  refine sum_congrF fun k hk => ?_
  have hk := List.mem_range.mp hk
  rw [List.getElem?_zipIdx, List.getElem?_eq_getElem hk]
  show ((placesOf N.n N.ends[k]).map (muchK N c os (N.ends[k], 0 + k))).sum = _
  rw [places_sum]
  refine sum_congrF fun p _ => ?_
  unfold muchF muchK
  rw [Nat.zero_add, List.getElem?_eq_getElem hk]
  by_cases h : p = N.ends[k]
  · rw [if_pos h, if_pos (by rw [h])]
  · rw [if_neg h, if_neg (fun z => h (by simpa using z.symm))]
def wtW (w : Nat → Int) (h : List (List Int)) (p : Tie × Option Nat) : Int := match p.2 with
  | none => 0
  | some k => w k * (p.1.m * fallA h k p.1)
theorem offK_is (side : Bool) (k p : Nat) (t : Tie) (k0 : Nat) : offK side k p (t, some k0) = if k = k0 ∧ p = endp side t then t.m else 0 := by
  unfold offK
  by_cases a : k = k0
  · subst a
    by_cases c : p = endp side t
    · subst c; simp
    · have c' : ¬ endp side t = p := fun z => c z.symm
      simp [c, c']
  · have a' : ¬ k0 = k := fun z => a z.symm
    simp [a, a']
theorem one_dsum {N : Net} (w : Nat → Int) (h : List (List Int)) {t : Tie} (ot : OkT N.n t) {o : Option Nat} (ho : ∀ k, o = some k → k < N.ends.length) :
    dsum N.ends.length N.n (fun k p => w k * (cell h k p * (offK true k p (t, o) - offK false k p (t, o)))) = - wtW w h (t, o) := by
  cases o with
  | none => exact dsum_zero fun k p _ _ => by simp [offK]
  | some k0 =>
    have hk := ho k0 rfl
    have e : dsum N.ends.length N.n (fun k p => w k * (cell h k p * (offK true k p (t, some k0) - offK false k p (t, some k0)))) = dsum N.ends.length N.n (fun k p => (if k = k0 ∧ p = t.j then w k0 * (cell h k0 t.j * t.m) else 0) + (if k = k0 ∧ p = t.i then - (w k0 * (cell h k0 t.i * t.m)) else 0)) := by
      refine dsum_congr fun k p _ _ => ?_
      have ne := ot.ne
      unfold offK endp
      by_cases a : k = k0
      · subst a
        by_cases b : p = t.j
        · subst b
          simp [ne, ne.symm]
        · have b' : ¬ t.j = p := fun z => b z.symm
          by_cases c : p = t.i
          · subst c
            simp [ne.symm, b, Int.mul_neg]
          · have c' : ¬ t.i = p := fun z => c z.symm
            simp [b, c, b', c']
      · have a' : ¬ k0 = k := fun z => a z.symm
        simp [a, a']
    rw [e, dsum_add, dsum_pick _ hk ot.j, dsum_pick _ hk ot.i]
    unfold wtW fallA
    grind
theorem weight_dsum {N : Net} (on : OkN N) (w : Nat → Int) (h : List (List Int)) {os : List (Option Nat)} (oo : OkO N os) :
    dsum N.ends.length N.n (fun k p => w k * (cell h k p * (offeredA N os k p true - offeredA N os k p false))) = - ((N.ties.zip os).map (wtW w h)).sum := by
  have e : dsum N.ends.length N.n (fun k p => w k * (cell h k p * (offeredA N os k p true - offeredA N os k p false))) = dsum N.ends.length N.n (fun k p => ((N.ties.zip os).map fun q => w k * (cell h k p * (offK true k p q - offK false k p q))).sum) := by
    refine dsum_congr fun k p _ _ => ?_
    rw [offered_ite, offered_ite, sum_mulF (w k), sum_mulF (cell h k p)]
    congr 2
    have := sum_addF (offK true k p) (fun q => - offK false k p q) (N.ties.zip os)
    have n := sum_mulF (-1) (offK false k p) (N.ties.zip os)
    have n2 : ((N.ties.zip os).map fun q => - offK false k p q).sum = ((N.ties.zip os).map fun q => -1 * offK false k p q).sum := sum_congrF fun q _ => by omega
    have n3 : ((N.ties.zip os).map fun q => offK true k p q - offK false k p q).sum = ((N.ties.zip os).map fun q => offK true k p q + - offK false k p q).sum := sum_congrF fun q _ => by omega
    rw [n3, this, n2, n]
    omega
  rw [e, dsum_list (f := fun q k p => w k * (cell h k p * (offK true k p q - offK false k p q)))]
  have : ((N.ties.zip os).map fun q => dsum N.ends.length N.n fun k p => w k * (cell h k p * (offK true k p q - offK false k p q))).sum = ((N.ties.zip os).map fun q => -1 * wtW w h q).sum := by
    refine sum_congrF fun q hq => ?_
    obtain ⟨q1, q2⟩ := q
    have hm := List.of_mem_zip (a := q1) (b := q2) hq
    have := one_dsum w h (on.t q1 hm.1) (o := q2) fun k hk => oo.k k (hk ▸ hm.2)
    rw [this]; omega
  rw [this, sum_mulF]
  omega
theorem mv_gone_cells {N : Net} (on : OkN N) (k p : Nat) (hk : k < N.ends.length) (hp : p < N.n) (x : Int) (hx : 0 ≤ x) : ∀ (ts : List Tie) (os : List (Option Nat)) (H G : List (List Int)) (hm : List Int) (a b : Int), (∀ t ∈ ts, OkT N.n t) → (∀ o ∈ os, ∀ k, o = some k → k < N.ends.length) → Sh N H → Sh N G → hm.length = N.ends.length →
    0 ≤ a → cell H k p = max (x - a) 0 → (N.ends[k]? ≠ some p → cell G k p ≤ cell H k p + b) →
    (N.ends[k]? ≠ some p → cell ((ts.zip (movesR H (ts.zip os))).foldl (goF N) (G, hm)).1 k p ≤ max (x - (a + ((ts.zip os).map (offK false k p)).sum)) 0 + (b + ((ts.zip os).map (offK true k p)).sum))
  | [], os, H, G, hm, a, b, _, _, _, _, _, _, h1, h2 => fun z => by
    have := h2 z
    simp
    omega
  | t :: ts, [], H, G, hm, a, b, _, _, _, _, _, _, h1, h2 => fun z => by
    have := h2 z
    simp [movesR]
    omega
  | t :: ts, o :: os, H, G, hm, a, b, ht, ho, sH, sG, hl, a0, h1, h2 => fun z => by
    have ot := ht t List.mem_cons_self
    have oo := ho o List.mem_cons_self
    have lo := ot.lo
    have h2 := h2 z
    have sH' : Sh N (mvS H (t, o)).1 := mvS_sh sH t oo
    have gs := go_sh (s := (G, hm)) (p := (t, (mvS H (t, o)).2)) sG hl (fun q hq => by
      cases o with
      | none => simp [mvS] at hq
      | some k0 =>
        have : (mvS H (t, some k0)).2 = if 0 < (if cell H k0 t.i < t.m then cell H k0 t.i else t.m) then some (k0, if cell H k0 t.i < t.m then cell H k0 t.i else t.m) else none := rfl
        have hq : (mvS H (t, some k0)).2 = some q := hq
        rw [this] at hq
        generalize (if cell H k0 t.i < t.m then cell H k0 t.i else t.m) = mm at hq
        by_cases zm : 0 < mm
        · rw [if_pos zm] at hq
          have hq : (k0, mm) = q := by simpa using hq
          rw [← hq]; exact oo k0 rfl
        · rw [if_neg zm] at hq; simp at hq)
    have key : cell (mvS H (t, o)).1 k p = max (x - (a + offK false k p (t, o))) 0 ∧ cell (goF N (G, hm) (t, (mvS H (t, o)).2)).1 k p ≤ cell (mvS H (t, o)).1 k p + (b + offK true k p (t, o)) := by
      cases o with
      | none =>
        refine ⟨by simpa [mvS, offK] using h1, ?_⟩
        show cell G k p ≤ cell H k p + _
        simp [offK]; omega
      | some k0 =>
        have hk0 := oo k0 rfl
        generalize hm' : (if cell H k0 t.i < t.m then cell H k0 t.i else t.m) = m
        have e1 : (mvS H (t, some k0)).1 = setC H k0 t.i (cell H k0 t.i - m) := by rw [← hm']; rfl
        have e2 : (mvS H (t, some k0)).2 = if 0 < m then some (k0, m) else none := by rw [← hm']; rfl
        rw [e1, e2]
        have cH := cell_setC sH hk0 ot.i (cell H k0 t.i - m) k p
        rw [cH]
        have ne := ot.ne
        have oF : offK false k p (t, some k0) = if k = k0 ∧ p = t.i then t.m else 0 := offK_is false k p t k0
        have oT : offK true k p (t, some k0) = if k = k0 ∧ p = t.j then t.m else 0 := offK_is true k p t k0
        rw [oF, oT]
        have mle : m ≤ t.m := by rw [← hm']; split <;> omega
        refine ⟨?_, ?_⟩
        · by_cases q : k = k0 ∧ p = t.i
          · obtain ⟨rfl, rfl⟩ := q
            simp only [and_self, if_true]
            rw [← hm', h1]
            split <;> omega
          · rw [if_neg q, if_neg q]; simpa using h1
        · by_cases mp : 0 < m
          · rw [if_pos mp]
            have cG := cell_setC sG hk0 ot.i (cell G k0 t.i - m) k p
            by_cases en : N.ends[k0]? = some t.j
            · have eg : goF N (G, hm) (t, some (k0, m)) = (setC G k0 t.i (cell G k0 t.i - m), hm.set k0 ((hm[k0]?).getD 0 + m)) := by
                show (if N.ends[k0]? = some t.j then _ else _) = _
                rw [if_pos en]
              rw [eg]
              show cell (setC G k0 t.i (cell G k0 t.i - m)) k p ≤ _
              rw [cG]
              by_cases q : k = k0 ∧ p = t.i
              · obtain ⟨rfl, rfl⟩ := q
                simp only [and_self, if_true]
                split <;> omega
              · rw [if_neg q, if_neg q]
                split <;> omega
            · have eg : goF N (G, hm) (t, some (k0, m)) = (setC (setC G k0 t.i (cell G k0 t.i - m)) k0 t.j (cell (setC G k0 t.i (cell G k0 t.i - m)) k0 t.j + m), hm) := by
                show (if N.ends[k0]? = some t.j then _ else _) = _
                rw [if_neg en]
              rw [eg]
              have sG' := sG.setC hk0 t.i (cell G k0 t.i - m)
              have cG2 := cell_setC sG' hk0 ot.j (cell (setC G k0 t.i (cell G k0 t.i - m)) k0 t.j + m) k p
              show cell (setC (setC G k0 t.i (cell G k0 t.i - m)) k0 t.j (cell (setC G k0 t.i (cell G k0 t.i - m)) k0 t.j + m)) k p ≤ _
              rw [cG2]
              by_cases q2 : k = k0 ∧ p = t.j
              · obtain ⟨rfl, rfl⟩ := q2
                rw [if_pos ⟨rfl, rfl⟩, cG, if_neg (fun z => ne z.2.symm), if_neg (fun z => ne z.2.symm), if_pos ⟨rfl, rfl⟩]
                omega
              · rw [if_neg q2, cG, if_neg q2]
                by_cases q : k = k0 ∧ p = t.i
                · obtain ⟨rfl, rfl⟩ := q
                  simp only [and_self, if_true]
                  omega
                · rw [if_neg q, if_neg q]; omega
          · rw [if_neg mp]
            show cell G k p ≤ _
            have m0 : 0 ≤ cell H k0 t.i ∨ ¬ (k = k0 ∧ p = t.i) := by
              by_cases q : k = k0 ∧ p = t.i
              · left; obtain ⟨rfl, rfl⟩ := q; rw [h1]; omega
              · exact .inr q
            by_cases q : k = k0 ∧ p = t.i
            · have m0 : 0 ≤ cell H k0 t.i := m0.resolve_right (fun z => z q)
              have : m = 0 := by rw [← hm'] at mp ⊢; split at mp <;> split <;> omega
              rw [if_pos q, this]
              obtain ⟨rfl, rfl⟩ := q
              split <;> omega
            · rw [if_neg q]
              split <;> omega
    have ofn : 0 ≤ offK false k p (t, o) := by
      unfold offK; split
      · show 0 ≤ t.m; omega
      · exact Int.le_refl _
    have := mv_gone_cells on k p hk hp x hx ts os (mvS H (t, o)).1 (goF N (G, hm) (t, (mvS H (t, o)).2)).1 (goF N (G, hm) (t, (mvS H (t, o)).2)).2 (a + offK false k p (t, o)) (b + offK true k p (t, o)) (fun x hx => ht x (List.mem_cons_of_mem _ hx)) (fun x hx => ho x (List.mem_cons_of_mem _ hx)) sH' gs.1 gs.2 (by omega) key.1 (fun _ => key.2) z
    simp only [List.zip_cons_cons, List.map_cons, List.sum_cons, movesR, List.foldl_cons]
    exact Int.le_trans this (by omega)
theorem gone_cell {N : Net} (on : OkN N) {h : List (List Int)} (n : Nn N h) {os : List (Option Nat)} (oo : OkO N os) {k p : Nat} (hk : k < N.ends.length) (hp : p < N.n) (ne : N.ends[k]? ≠ some p) :
    cell (goneA N h (movesA N h os)).1 k p ≤ max (cell h k p - offeredA N os k p false) 0 + offeredA N os k p true := by
  have nn := n.nn k p hk hp
  have := mv_gone_cells on k p hk hp (cell h k p) nn N.ties os h h (rowA h.length fun _ => 0) 0 0 on.t (fun o ho k e => oo.k k (e ▸ ho)) n.sh n.sh (by rw [rowA_len]; exact n.sh.len) (Int.le_refl _) (by omega) (fun _ => by omega) ne
  rw [offered_ite, offered_ite]
  unfold goneA
  rw [movesA_R]
  simpa using this
theorem sq_cell {x h o i c : Int} (x0 : 0 ≤ x) (h0 : 0 ≤ h) (o0 : 0 ≤ o) (i0 : 0 ≤ i) (c0 : 0 ≤ c) (hx : x ≤ max (h - o) 0 + i + c) : x * x ≤ h * h + (sqr o + sqr (i + c)) + 2 * (h * c) + 2 * (h * (i - o)) := by
  have e1 : x * x ≤ (max (h - o) 0 + (i + c)) * (max (h - o) 0 + (i + c)) := Int.mul_le_mul (by omega) (by omega) x0 (by omega)
  unfold sqr
  by_cases z : o ≤ h
  · have e : max (h - o) 0 = h - o := by omega
    rw [e] at e1
    have e2 : 0 ≤ o * (i + c) := Int.mul_nonneg o0 (by omega)
    grind
  · have e : max (h - o) 0 = 0 := by omega
    rw [e] at e1
    have e2 : 0 ≤ (o - h) * (o - h) := by
      have := Int.mul_nonneg (a := o - h) (b := o - h) (by omega) (by omega)
      exact this
    have e3 : 0 ≤ h * (i + c) := Int.mul_nonneg h0 (by omega)
    grind
theorem squares_rise {N : Net} (on : OkN N) (w : Nat → Int) (hw : ∀ k, 0 ≤ w k) {h c : List (List Int)} (n : Nn N h) (nc : Nn N c) {os : List (Option Nat)} (oo : OkO N os) :
    dsum N.ends.length N.n (fun k p => w k * (cell (addH (goneA N h (movesA N h os)).1 c) k p * cell (addH (goneA N h (movesA N h os)).1 c) k p)) ≤
      dsum N.ends.length N.n (fun k p => w k * (cell h k p * cell h k p)) + dsum N.ends.length N.n (fun k p => w k * muchF N c os k p) + 2 * dsum N.ends.length N.n (fun k p => w k * (cell h k p * cell c k p)) - 2 * ((N.ties.zip os).map (wtW w h)).sum := by
  obtain ⟨H', j⟩ := gone_facts on n oo
  have gc := fun k p (hk : k < N.ends.length) (hp : p < N.n) (ne : N.ends[k]? ≠ some p) => gone_cell on n oo hk hp ne
  generalize goneA N h (movesA N h os) = g at *
  have wd := weight_dsum on w h oo
  have main : dsum N.ends.length N.n (fun k p => w k * (cell (addH g.1 c) k p * cell (addH g.1 c) k p)) ≤ dsum N.ends.length N.n (fun k p => w k * (cell h k p * cell h k p) + (w k * muchF N c os k p + (2 * (w k * (cell h k p * cell c k p)) + 2 * (w k * (cell h k p * (offeredA N os k p true - offeredA N os k p false)))))) := by
    refine dsum_mono fun k p hk hp => ?_
    have a := cell_addH j.sG nc.sh hk hp
    have h0 := n.nn k p hk hp
    have c0 := nc.nn k p hk hp
    have g0 := j.le k p hk hp
    by_cases e : N.ends[k]? = some p
    · have z1 := n.z k p e
      have z2 := nc.z k p e
      have z3 := j.z k p e
      rw [a, z1, z2, z3]
      simp [muchF, e]
    · have b := gc k p hk hp e
      have o1 := offeredA_b on os k p false
      have o2 := offeredA_b on os k p true
      rw [a]
      have s := sq_cell (x := cell g.1 k p + cell c k p) (h := cell h k p) (o := offeredA N os k p false) (i := offeredA N os k p true) (c := cell c k p) (by omega) h0 o1.1 o2.1 c0 (by omega)
      have m := Int.mul_le_mul_of_nonneg_left s (hw k)
      have mf : muchF N c os k p = sqr (offeredA N os k p false) + sqr (offeredA N os k p true + cell c k p) := by unfold muchF; rw [if_neg e]
      rw [mf]
      grind
  rw [dsum_add, dsum_add, dsum_add, dsum_mul, dsum_mul, wd] at main
  omega
end Hp
set_option Elab.async false
set_option linter.all false
set_option maxRecDepth 100000
set_option maxHeartbeats 400000
namespace Hp
open PySem PySem.Spec PyProof.Rows L2 Hw
structure OkW (N : Net) (ws : List Int) : Prop where
  len : ws.length = N.ends.length
  b : ∀ w ∈ ws, 1 ≤ w ∧ w ≤ 99
def wt (ws : List Int) (k : Nat) : Int := (ws[k]?).getD 0
theorem OkW.get {N : Net} {ws : List Int} (o : OkW N ws) {k : Nat} (hk : k < N.ends.length) : ws[k]? = some (wt ws k) ∧ 1 ≤ wt ws k ∧ wt ws k ≤ 99 := by
  have hl : k < ws.length := by rw [o.len]; exact hk
  have h : ws[k]? = some ws[k] := List.getElem?_eq_getElem hl
  have e : wt ws k = ws[k] := by unfold wt; rw [h]; rfl
  rw [e]
  exact ⟨h, o.b _ (List.mem_of_getElem? h)⟩
end Hp
set_option Elab.async false
set_option linter.all false
set_option maxRecDepth 100000
set_option maxHeartbeats 400000
namespace Hp
open PySem PySem.Spec PyProof.Rows L2 Hw
theorem ev_draw {F : Genv} {ns : List Int} {s u cnt M : Nat} {N : Net} {cn : CE} {h : Tr} {t1 : Tr} {Γ : List Tr} (on : OkN N) {run : List Tr → Option FR} (hf : F.fn "_law_b_comers" = some run) (hq : S_heaps 9 ns run) (hs : s < (h :: t1 :: Γ).length) (s2 : 2 ≤ s) (u2 : 2 ≤ u) (hsu : s ≠ u)
    (hcn : ∃ t2, ev F cn (h :: t1 :: Γ) = some (.ok (.c (.int (cnt : Nat))) (h :: t2 :: Γ)) ∧ Tp ns M t2) (hc : cnt ≤ 1000) (hM : M + cnt * 60 + 3000 < 2 ^ 39) (hu : (h :: t1 :: Γ)[u]? = some (.c (netD N))) :
    ∃ t' rows, ev F (.lc [s] (.nm s) (.rng1 cn) [] (.call ("_law_b_comers" : Str) [.io 1, .e (.var u)])) (h :: t1 :: Γ) = some (.ok (mpT hD rows) ((h :: t' :: Γ).set s .gone)) ∧ Tp ns (M + cnt * 60) t' ∧ rows.length = cnt ∧ ∀ c ∈ rows, OkH 9 N c := by
  obtain ⟨t2, e2, ht2⟩ := hcn
  obtain ⟨s', rfl⟩ : ∃ s', s = s' + 2 := ⟨s - 2, by omega⟩
  obtain ⟨u', rfl⟩ : ∃ u', u = u' + 2 := ⟨u - 2, by omega⟩
  have hu : Γ[u']? = some (.c (netD N)) := by simpa using hu
  have hs : s' < Γ.length := by simpa using hs
  obtain ⟨Γl, rl, el, t', rows, rfl, ht', rfl, lr, orr⟩ := lc_inv (F := F) (own := [s' + 2]) (tg := .nm (s' + 2)) (it := .rng1 cn) (elt := .call ("_law_b_comers" : Str) [.io 1, .e (.var (u' + 2))]) (cond := [])
    (Γ := h :: t1 :: Γ) (Γ1 := h :: t2 :: Γ) (ds := (List.range cnt).map nD)
    (fun i G acc => ∃ t' rows, G = h :: t' :: Γ.set s' .gone ∧ Tp ns (M + i * 60) t' ∧ acc = (rows : List (List (List Int))).map (fun c => .c (hD c)) ∧ rows.length = i ∧ ∀ c ∈ rows, OkH 9 N c)
    (it_rng e2 (by omega)) ⟨t2, [], rfl, ht2.mono (by omega), rfl, rfl, fun _ z => by cases z⟩
    (by
      rintro i d G acc hd ⟨t', rows, rfl, ht', rfl, lr, orr⟩
      have hi' := (List.getElem?_eq_some_iff.mp hd).1
      rw [List.length_map, List.length_range] at hi'
      have hle : i * 60 ≤ cnt * 60 := Nat.mul_le_mul_right 60 (by omega)
      obtain ⟨c, t4, e4, oc, ht4⟩ := hq _ t' N ht' (by omega) on
      refine ⟨h :: t' :: Γ.set s' (.c d), by simp [bindTg], .inl ⟨h :: t' :: Γ.set s' (.c d), h :: t4 :: Γ.set s' (.c d), .c (hD c), by rw [evC], ?_, t4, rows ++ [c], by simp [wipe1, wipe0], ht4.mono (by omega), by simp, by simp [lr], fun x hx => ?_⟩⟩
      · have g : (Γ.set s' (.c d))[u']? = some (.c (netD N)) := by rw [List.getElem?_set_ne (by omega)]; exact hu
        have s1 : ∀ b0 Γ, slotOk (b0 :: t' :: Γ) 1 = true := fun b0 Γ => by obtain ⟨a, c, rfl, _⟩ := ht'; rfl
        simp [hf, s1, g, e4]
      · rcases List.mem_append.mp hx with hx | hx
        · exact orr x hx
        · simp at hx; subst hx; exact oc) (sz (by simp; omega))
  rw [List.length_map, List.length_range] at ht' lr
  exact ⟨t', rows, by simpa [mpT] using el, ht', lr, orr⟩
end Hp
set_option Elab.async false
set_option linter.all false
set_option maxRecDepth 100000
set_option maxHeartbeats 400000
namespace Hp
open PySem PySem.Spec PyProof.Rows L2 Hw
structure RD (b : Bool) (k s : Nat) (d : PyData) : Prop where
  ok : (if b then noDict d else noLst d) = true
  sh : PyData.showable d = true
  dp : PyData.depth d ≤ k
  sz : szD d ≤ s
theorem nl_all : ∀ {ds : List PyData}, (∀ d ∈ ds, noLst d = true) → noLst.noLstL ds = true
  | [], _ => rfl
  | d :: ds, h => by unfold noLst.noLstL; rw [h d List.mem_cons_self, nl_all fun x hx => h x (List.mem_cons_of_mem _ hx)]; rfl
theorem RD.mono {b : Bool} {k s k' s' : Nat} {d : PyData} (h : RD b k s d) (l : k ≤ k') (m : s ≤ s') : RD b k' s' d := ⟨h.ok, h.sh, Nat.le_trans h.dp l, Nat.le_trans h.sz m⟩
theorem RD.plainR {b : Bool} {k s : Nat} {d : PyData} (h : RD b k s d) (l : k ≤ 60) (m : s ≤ 16777216) : plainR d = true := by
  unfold Hw.plainR
  have := h.dp
  have := h.sz
  have := h.ok
  have e : sizeLine = 16777216 := sizeLine_eq
  simp only [Bool.and_eq_true, Bool.or_eq_true, decide_eq_true_eq]
  refine ⟨⟨⟨?_, h.sh⟩, by omega⟩, by omega⟩
  cases b
  · exact .inr this
  · exact .inl this
theorem RD.of {b : Bool} {k s : Nat} {d : PyData} (h : PD k s d) (n : noLst d = true) : RD b k s d := ⟨by cases b; exact n; exact h.nd, h.sh, h.dp, h.sz⟩
theorem RD.int {b : Bool} {i : Int} (h : i.natAbs < 2 ^ 1000) : RD b 0 1010 (.int i) := RD.of (PD.big h) rfl
theorem RD.none {b : Bool} : RD b 0 1010 .none := RD.of (PD.none.mono (Nat.le_refl _) (by decide)) rfl
theorem RD.bool {b : Bool} (x : Bool) : RD b 0 1010 (.bool x) := RD.of ((PD.bool x).mono (Nat.le_refl _) (by decide)) rfl
theorem RD.emp : RD false 1 1010 (.dict []) := ⟨rfl, by simp [PyData.showable, PyData.showableKv], by simp [PyData.depth, PyData.depthKv], by simp [szD]⟩
theorem RD.tuple {b : Bool} {k s n : Nat} {ds : List PyData} (h : ∀ d ∈ ds, RD b k s d) (l : ds.length ≤ n) : RD b (k + 1) (3 + n * (s + 2)) (.tuple ds) := by
  refine ⟨?_, ?_, ?_, ?_⟩
  · cases b
    · show noLst (.tuple ds) = true
      unfold noLst; exact nl_all fun d hd => (h d hd).ok
    · show noDict (.tuple ds) = true
      unfold noDict; exact nd_all fun d hd => (h d hd).ok
  · simp only [PyData.showable]; exact sh_all fun d hd => (h d hd).sh
  · simp only [PyData.depth]; have := dp_all fun d hd => (h d hd).dp; omega
  · simp only [szD]
    have := sz_all fun d hd => (h d hd).sz
    have := Nat.mul_le_mul_right (s + 2) l
    omega
theorem RD.list {k s n : Nat} {ds : List PyData} (h : ∀ d ∈ ds, RD true k s d) (l : ds.length ≤ n) : RD true (k + 1) (3 + n * (s + 2)) (.list ds) := by
  refine ⟨?_, ?_, ?_, ?_⟩
  · show noDict (.list ds) = true
    unfold noDict; exact nd_all fun d hd => (h d hd).ok
  · simp only [PyData.showable]; exact sh_all fun d hd => (h d hd).sh
  · simp only [PyData.depth]; have := dp_all fun d hd => (h d hd).dp; omega
  · simp only [szD]
    have := sz_all fun d hd => (h d hd).sz
    have := Nat.mul_le_mul_right (s + 2) l
    omega
theorem RD.str {b : Bool} {x : Str} (h : (reprText x).length ≤ 1010) : RD b 0 1010 (.str x) := ⟨by cases b <;> rfl, rfl, Nat.le_refl _, h⟩
def SD (k s : Nat) (d : PyData) : Prop := ∃ b, RD b k s d
theorem SD.plainR {k s : Nat} {d : PyData} (h : SD k s d) (l : k ≤ 60) (m : s ≤ 16777216) : plainR d = true := let ⟨_, h⟩ := h; h.plainR l m
theorem SD.mono {k s k' s' : Nat} {d : PyData} (h : SD k s d) (l : k ≤ k') (m : s ≤ s') : SD k' s' d := let ⟨b, h⟩ := h; ⟨b, h.mono l m⟩
end Hp
set_option Elab.async false
set_option linter.all false
set_option maxRecDepth 100000
set_option maxHeartbeats 400000
namespace Hp
open PySem PySem.Spec PyProof.Rows L2 Hw
end Hp
set_option Elab.async false
set_option linter.all false
set_option maxRecDepth 100000
set_option maxHeartbeats 400000
namespace Hp
open PySem PySem.Spec PyProof.Rows L2 Hw
def S_are (high : Int) (run : List Tr → Option FR) : Prop := ∀ N d, OkN N → run [.c (netD N), .c d] = some (.ok (.c (.bool (tr (LinesP N high d)))) [.gone, .gone])
theorem w_are_heaps {F : Genv} (h0 : Fn F "need_net" S_need_net) (h1 : Fn F "are_lines" S_are_lines) (g : F.gl "MOST_HEAP" = some (.int 1000000000)) : S_are 1000000000 (r_are_heaps F) := by
  obtain ⟨r0, f0, q0⟩ := h0
  obtain ⟨r1, f1, q1⟩ := h1
  intro N d on
  refine run_ret rfl (by decide) ?_
  refine Run.nx (Γ1 := [.c (netD N), .c d]) (by simp [f0, q0.1 N on]) ?_
  exact Run.rt (t := .c (.bool (tr (LinesP N 1000000000 d)))) (Γ1 := [.c (netD N), .c d]) (by simp [f1, g, q1 N d 1000000000 on]) ⟨_, rfl, rfl⟩
end Hp
set_option Elab.async false
set_option linter.all false
set_option maxRecDepth 100000
set_option maxHeartbeats 800000
namespace Hp
open PySem PySem.Spec PyProof.Rows L2 Hw
def AB (k s : Nat) (d : PyData) : Prop := ∀ b, RD b k s d
theorem AB.mono {k s k' s' : Nat} {d : PyData} (h : AB k s d) (l : k ≤ k') (m : s ≤ s') : AB k' s' d := fun b => (h b).mono l m
theorem AB.tuple {k s n : Nat} {ds : List PyData} (h : ∀ d ∈ ds, AB k s d) (l : ds.length ≤ n) : AB (k + 1) (3 + n * (s + 2)) (.tuple ds) := fun b => RD.tuple (fun d hd => h d hd b) l
theorem AB.list {k s n : Nat} {ds : List PyData} (h : ∀ d ∈ ds, AB k s d) (l : ds.length ≤ n) : SD (k + 1) (3 + n * (s + 2)) (.list ds) := ⟨true, RD.list (fun d hd => h d hd true) l⟩
theorem AB.int {i : Int} (h : i.natAbs < 2 ^ 100) : AB 0 1010 (.int i) := fun b => RD.int (Nat.lt_of_lt_of_le h (Nat.pow_le_pow_right (by decide) (by decide)))
theorem AB.none : AB 0 1010 .none := fun b => RD.none
theorem AB.bool (x : Bool) : AB 0 1010 (.bool x) := fun b => RD.bool x
theorem AB.str {x : Str} (h : (reprText x).length ≤ 1010) : AB 0 1010 (.str x) := fun b => RD.str h
theorem SD.emp : SD 1 1010 (.dict []) := ⟨false, RD.emp⟩
theorem AB.ln {l : List Int} {n : Nat} (h : ∀ x ∈ l, 0 ≤ x ∧ x ≤ 1000000000) (hl : l.length ≤ n) : AB 1 (3 + n * 1012) (lnD l) := AB.tuple (k := 0) (s := 1010) (fun d hd => by
  obtain ⟨x, hx, rfl⟩ := List.mem_map.mp hd
  have := h x hx
  exact AB.int (Nat.lt_of_lt_of_le (show x.natAbs < 2 ^ 64 by omega) (Nat.pow_le_pow_right (by decide) (by decide)))) (by simpa using hl)
end Hp
set_option Elab.async false
set_option linter.all false
set_option maxRecDepth 100000
set_option maxHeartbeats 800000
namespace Hp
open PySem PySem.Spec PyProof.Rows L2 Hw
end Hp
set_option Elab.async false
set_option linter.all false
set_option maxRecDepth 100000
set_option maxHeartbeats 400000
namespace Hp
open PySem PySem.Spec PyProof.Rows L2 Hw
abbrev Hs := List (List Int)
abbrev Of := Hs → List (Option Nat)
def btO (N : Net) (of : Of) (H c : Hs) : Hs × List Int := (addH (goneA N H (movesA N H (of H))).1 c, (goneA N H (movesA N H (of H))).2)
def ofD (N : Net) : Of := fun H => N.ties.map (offerA H)
theorem bt_is (N : Net) (H c : Hs) : bt N H c = btO N (ofD N) H c := by
  unfold bt beatA btO ofD
  rw [show offO N H (allT N) = N.ties.map (offerA H) from offO_all N H]
theorem btO_nn {N : Net} (on : OkN N) {of : Of} {h c : Hs} (n : Nn N h) (nc : Nn N c) (oo : OkO N (of h)) : Nn N (btO N of h c).1 ∧ (btO N of h c).2.length = N.ends.length ∧ ∀ k, k < N.ends.length → rs h k + rs c k = rs (btO N of h c).1 k + (((btO N of h c).2)[k]?).getD 0 := by
  obtain ⟨H', j⟩ := gone_facts on n oo
  unfold btO
  generalize goneA N h (movesA N h (of h)) = g at *
  refine ⟨⟨addH_sh j.sG nc.sh, fun k p hk hp => ?_, fun k e he => ?_⟩, j.len, fun k hk => ?_⟩
  · show 0 ≤ cell (addH g.1 c) k p
    rw [cell_addH j.sG nc.sh hk hp]
    have := j.le k p hk hp
    have := nc.nn k p hk hp
    omega
  · show cell (addH g.1 c) k e = 0
    rw [cell_addH j.sG nc.sh (List.getElem?_eq_some_iff.mp he).1 (on.e e (List.mem_of_getElem? he)), j.z k e he, nc.z k e he]; rfl
  · show _ = rs (addH g.1 c) k + (g.2[k]?).getD 0
    rw [rs_addH on j.sG nc.sh hk]
    have := j.c k hk
    omega
theorem cell_le {N : Net} {H : Hs} {B : Int} (s : Sh N H) (h : ∀ l ∈ H, ∀ x ∈ l, x ≤ B) {k p : Nat} (hk : k < N.ends.length) (hp : p < N.n) : cell H k p ≤ B := by
  obtain ⟨l, g1, g2, gl⟩ := s.get hk hp
  exact h l gl _ (List.mem_of_getElem? g2)
end Hp
set_option Elab.async false
set_option linter.all false
set_option maxRecDepth 100000
set_option maxHeartbeats 800000
namespace Hp
open PySem PySem.Spec PyProof.Rows L2 Hw
def ov (ws : List Int) (h : Hs) (p : Tie × Option Nat) : Int := match p.2 with
  | none => 0
  | some k => 2 * p.1.m * wt ws k * fallA h k p.1
end Hp
set_option Elab.async false
set_option linter.all false
set_option maxRecDepth 100000
set_option maxHeartbeats 800000
namespace Hp
open PySem PySem.Spec PyProof.Rows L2 Hw
theorem hD_inj {a b : Hs} (h : hD a = hD b) : a = b := by
  have h : a.map lnD = b.map lnD := by simpa [hD] using h
  exact map_inj (fun _ _ => lnD_inj) h
end Hp
set_option Elab.async false
set_option linter.all false
set_option maxRecDepth 100000
set_option maxHeartbeats 400000
namespace Hw
open PySem PySem.Spec PyProof.Rows L2
section
variable {F : Genv} {s : CS} {ss : List CS} {Γ Γ1 : List Tr} {Q : SR → Prop} {t : Tr} {x : Str}
def RS (F : Genv) (ss : List CS) (Q : SR → Prop) : Option SR → Prop
  | some (.nx Γ) => Run F ss Γ Q
  | some r => Q r
  | none => False
@[simp] theorem RS_nx : RS F ss Q (some (.nx Γ)) = Run F ss Γ Q := rfl
@[simp] theorem RS_rt : RS F ss Q (some (.rt t Γ)) = Q (.rt t Γ) := rfl
@[simp] theorem RS_ex : RS F ss Q (some (.ex x Γ)) = Q (.ex x Γ) := rfl
@[simp] theorem RS_bk : RS F ss Q (some (.bk Γ)) = Q (.bk Γ) := rfl
@[simp] theorem RS_ct : RS F ss Q (some (.ct Γ)) = Q (.ct Γ) := rfl
@[simp] theorem Run_nil : Run F [] Γ Q = Q (.nx Γ) := propext ⟨fun ⟨r, e, q⟩ => by rw [exB] at e; cases e; exact q, fun q => Run.nil q⟩
theorem Run_cons : Run F (s :: ss) Γ Q = RS F ss Q (exS F s Γ) := by
  apply propext
  constructor
  · rintro ⟨r, e, q⟩
    rw [exB] at e
    cases h : exS F s Γ with
    | none => rw [h] at e; cases e
    | some r1 =>
      rw [h] at e
      cases r1 with
      | nx Γ1 => exact ⟨r, e, q⟩
      | rt t Γ1 => cases e; exact q
      | bk Γ1 => cases e; exact q
      | ct Γ1 => cases e; exact q
      | ex x Γ1 => cases e; exact q
  · intro h
    cases e : exS F s Γ with
    | none => rw [e] at h; exact h.elim
    | some r1 =>
      rw [e] at h
      cases r1 with
      | nx Γ1 => exact Run.nx e h
      | rt t Γ1 => exact Run.rt e h
      | bk Γ1 => exact Run.bk e h
      | ct Γ1 => exact ⟨_, by rw [exB, e], h⟩
      | ex x Γ1 => exact Run.ex e h
@[simp] theorem Run_set (i : Nat) (e : CE) : Run F (.set i e :: ss) Γ Q = RS F ss Q (exS F (.set i e) Γ) := Run_cons
@[simp] theorem Run_setT (is : List Nat) (e : CE) : Run F (.setT is e :: ss) Γ Q = RS F ss Q (exS F (.setT is e) Γ) := Run_cons
@[simp] theorem Run_par (i j : Nat) (a b : CE) : Run F (.par i j a b :: ss) Γ Q = RS F ss Q (exS F (.par i j a b) Γ) := Run_cons
@[simp] theorem Run_setp (i : Nat) (es : List CE) (l e : CE) : Run F (.setp i es l e :: ss) Γ Q = RS F ss Q (exS F (.setp i es l e) Γ) := Run_cons
@[simp] theorem Run_app (i : Nat) (es : List CE) (e : CE) : Run F (.app i es e :: ss) Γ Q = RS F ss Q (exS F (.app i es e) Γ) := Run_cons
@[simp] theorem Run_clr (i : Nat) (es : List CE) : Run F (.clr i es :: ss) Γ Q = RS F ss Q (exS F (.clr i es) Γ) := Run_cons
@[simp] theorem Run_ext (i : Nat) (e : CE) : Run F (.ext i e :: ss) Γ Q = RS F ss Q (exS F (.ext i e) Γ) := Run_cons
@[simp] theorem Run_ex (e : CE) : Run F (.ex e :: ss) Γ Q = RS F ss Q (exS F (.ex e) Γ) := Run_cons
@[simp] theorem Run_ret (e : CE) : Run F (.ret e :: ss) Γ Q = RS F ss Q (exS F (.ret e) Γ) := Run_cons
@[simp] theorem Run_retN : Run F (.retN :: ss) Γ Q = RS F ss Q (exS F .retN Γ) := Run_cons
@[simp] theorem Run_brk : Run F (.brk :: ss) Γ Q = Q (.bk Γ) := by rw [Run_cons, sxb]; rfl
@[simp] theorem Run_cnt : Run F (.cnt :: ss) Γ Q = Q (.ct Γ) := by rw [Run_cons, sxc]; rfl
@[simp] theorem Run_pass : Run F (.pass :: ss) Γ Q = Run F ss Γ Q := by rw [Run_cons, sxp]; rfl
@[simp] theorem Run_doc : Run F (.doc :: ss) Γ Q = Run F ss Γ Q := by rw [Run_cons, sxd]; rfl
@[simp] theorem Run_rais (x : Str) : Run F (.rais x :: ss) Γ Q = Q (.ex x Γ) := by rw [Run_cons, sxr]; rfl
def RT (F : Genv) (a b : List CS) (Q : SR → Prop) : Option TR → Prop
  | some (.ok k Γ) => if k = true then Run F a Γ Q else Run F b Γ Q
  | some (.ex x Γ) => Q (.ex x Γ)
  | none => False
@[simp] theorem RT_ok (a b : List CS) (k : Bool) : RT F a b Q (some (.ok k Γ)) = if k = true then Run F a Γ Q else Run F b Γ Q := rfl
@[simp] theorem RT_ex (a b : List CS) : RT F a b Q (some (.ex x Γ)) = Q (.ex x Γ) := rfl
@[simp] theorem Run_ite (c : CT) (a b : List CS) : Run F (.ite c a b :: ss) Γ Q = RT F a b (Aft F ss Q) (evT F c Γ) := by
  have key : ∀ d Γ1, Run F d Γ1 (Aft F ss Q) = RS F ss Q (exB F d Γ1) := by
    intro d Γ1
    apply propext
    constructor
    · rintro ⟨r, e, q⟩
      rw [e]
      cases r <;> exact q
    · intro h
      cases e : exB F d Γ1 with
      | none => rw [e] at h; exact h.elim
      | some r => rw [e] at h; exact ⟨r, e, by cases r <;> exact h⟩
  rw [Run_cons, exS]
  cases evT F c Γ with
  | none => rfl
  | some r =>
    cases r with
    | ex x Γ1 => rfl
    | ok k Γ1 =>
      cases k with
      | true => rw [RT_ok, if_pos rfl, key]
      | false => rw [RT_ok, if_neg Bool.false_ne_true, key]
@[simp] theorem Aft_nx : Aft F ss Q (.nx Γ) = Run F ss Γ Q := rfl
@[simp] theorem Aft_rt : Aft F ss Q (.rt t Γ) = Q (.rt t Γ) := rfl
@[simp] theorem Aft_ex : Aft F ss Q (.ex x Γ) = Q (.ex x Γ) := rfl
@[simp] theorem Aft_bk : Aft F ss Q (.bk Γ) = Q (.bk Γ) := rfl
@[simp] theorem Aft_ct : Aft F ss Q (.ct Γ) = Q (.ct Γ) := rfl
@[simp] theorem Turn_nx {P B : List Tr → Prop} : Turn P B Q (.nx Γ) = P Γ := rfl
@[simp] theorem Turn_ct {P B : List Tr → Prop} : Turn P B Q (.ct Γ) = P Γ := rfl
@[simp] theorem Turn_bk {P B : List Tr → Prop} : Turn P B Q (.bk Γ) = B Γ := rfl
@[simp] theorem Turn_rt {P B : List Tr → Prop} : Turn P B Q (.rt t Γ) = Q (.rt t Γ) := rfl
@[simp] theorem Turn_ex {P B : List Tr → Prop} : Turn P B Q (.ex x Γ) = Q (.ex x Γ) := rfl
end
@[simp] theorem slotOk_n1 (a0 : Tr) (Γ : List Tr) : slotOk (a0 :: Γ) 1 = slotOk Γ 0 := rfl
@[simp] theorem slotOk_n2 (a0 a1 : Tr) (Γ : List Tr) : slotOk (a0 :: a1 :: Γ) 2 = slotOk Γ 0 := rfl
@[simp] theorem slotOk_n3 (a0 a1 a2 : Tr) (Γ : List Tr) : slotOk (a0 :: a1 :: a2 :: Γ) 3 = slotOk Γ 0 := rfl
@[simp] theorem slotOk_n4 (a0 a1 a2 a3 : Tr) (Γ : List Tr) : slotOk (a0 :: a1 :: a2 :: a3 :: Γ) 4 = slotOk Γ 0 := rfl
@[simp] theorem slotOk_n5 (a0 a1 a2 a3 a4 : Tr) (Γ : List Tr) : slotOk (a0 :: a1 :: a2 :: a3 :: a4 :: Γ) 5 = slotOk Γ 0 := rfl
@[simp] theorem slotOk_n6 (a0 a1 a2 a3 a4 a5 : Tr) (Γ : List Tr) : slotOk (a0 :: a1 :: a2 :: a3 :: a4 :: a5 :: Γ) 6 = slotOk Γ 0 := rfl
@[simp] theorem slotOk_n7 (a0 a1 a2 a3 a4 a5 a6 : Tr) (Γ : List Tr) : slotOk (a0 :: a1 :: a2 :: a3 :: a4 :: a5 :: a6 :: Γ) 7 = slotOk Γ 0 := rfl
@[simp] theorem slotOk_n8 (a0 a1 a2 a3 a4 a5 a6 a7 : Tr) (Γ : List Tr) : slotOk (a0 :: a1 :: a2 :: a3 :: a4 :: a5 :: a6 :: a7 :: Γ) 8 = slotOk Γ 0 := rfl
@[simp] theorem slotOk_n9 (a0 a1 a2 a3 a4 a5 a6 a7 a8 : Tr) (Γ : List Tr) : slotOk (a0 :: a1 :: a2 :: a3 :: a4 :: a5 :: a6 :: a7 :: a8 :: Γ) 9 = slotOk Γ 0 := rfl
@[simp] theorem slotOk_n10 (a0 a1 a2 a3 a4 a5 a6 a7 a8 a9 : Tr) (Γ : List Tr) : slotOk (a0 :: a1 :: a2 :: a3 :: a4 :: a5 :: a6 :: a7 :: a8 :: a9 :: Γ) 10 = slotOk Γ 0 := rfl
@[simp] theorem slotOk_n11 (a0 a1 a2 a3 a4 a5 a6 a7 a8 a9 a10 : Tr) (Γ : List Tr) : slotOk (a0 :: a1 :: a2 :: a3 :: a4 :: a5 :: a6 :: a7 :: a8 :: a9 :: a10 :: Γ) 11 = slotOk Γ 0 := rfl
@[simp] theorem slotOk_n12 (a0 a1 a2 a3 a4 a5 a6 a7 a8 a9 a10 a11 : Tr) (Γ : List Tr) : slotOk (a0 :: a1 :: a2 :: a3 :: a4 :: a5 :: a6 :: a7 :: a8 :: a9 :: a10 :: a11 :: Γ) 12 = slotOk Γ 0 := rfl
@[simp] theorem slotOk_n13 (a0 a1 a2 a3 a4 a5 a6 a7 a8 a9 a10 a11 a12 : Tr) (Γ : List Tr) : slotOk (a0 :: a1 :: a2 :: a3 :: a4 :: a5 :: a6 :: a7 :: a8 :: a9 :: a10 :: a11 :: a12 :: Γ) 13 = slotOk Γ 0 := rfl
@[simp] theorem slotOk_n14 (a0 a1 a2 a3 a4 a5 a6 a7 a8 a9 a10 a11 a12 a13 : Tr) (Γ : List Tr) : slotOk (a0 :: a1 :: a2 :: a3 :: a4 :: a5 :: a6 :: a7 :: a8 :: a9 :: a10 :: a11 :: a12 :: a13 :: Γ) 14 = slotOk Γ 0 := rfl
@[simp] theorem slotOk_n15 (a0 a1 a2 a3 a4 a5 a6 a7 a8 a9 a10 a11 a12 a13 a14 : Tr) (Γ : List Tr) : slotOk (a0 :: a1 :: a2 :: a3 :: a4 :: a5 :: a6 :: a7 :: a8 :: a9 :: a10 :: a11 :: a12 :: a13 :: a14 :: Γ) 15 = slotOk Γ 0 := rfl
@[simp] theorem slotOk_n16 (a0 a1 a2 a3 a4 a5 a6 a7 a8 a9 a10 a11 a12 a13 a14 a15 : Tr) (Γ : List Tr) : slotOk (a0 :: a1 :: a2 :: a3 :: a4 :: a5 :: a6 :: a7 :: a8 :: a9 :: a10 :: a11 :: a12 :: a13 :: a14 :: a15 :: Γ) 16 = slotOk Γ 0 := rfl
@[simp] theorem slotOk_n17 (a0 a1 a2 a3 a4 a5 a6 a7 a8 a9 a10 a11 a12 a13 a14 a15 a16 : Tr) (Γ : List Tr) : slotOk (a0 :: a1 :: a2 :: a3 :: a4 :: a5 :: a6 :: a7 :: a8 :: a9 :: a10 :: a11 :: a12 :: a13 :: a14 :: a15 :: a16 :: Γ) 17 = slotOk Γ 0 := rfl
@[simp] theorem slotOk_n18 (a0 a1 a2 a3 a4 a5 a6 a7 a8 a9 a10 a11 a12 a13 a14 a15 a16 a17 : Tr) (Γ : List Tr) : slotOk (a0 :: a1 :: a2 :: a3 :: a4 :: a5 :: a6 :: a7 :: a8 :: a9 :: a10 :: a11 :: a12 :: a13 :: a14 :: a15 :: a16 :: a17 :: Γ) 18 = slotOk Γ 0 := rfl
@[simp] theorem slotOk_n19 (a0 a1 a2 a3 a4 a5 a6 a7 a8 a9 a10 a11 a12 a13 a14 a15 a16 a17 a18 : Tr) (Γ : List Tr) : slotOk (a0 :: a1 :: a2 :: a3 :: a4 :: a5 :: a6 :: a7 :: a8 :: a9 :: a10 :: a11 :: a12 :: a13 :: a14 :: a15 :: a16 :: a17 :: a18 :: Γ) 19 = slotOk Γ 0 := rfl
@[simp] theorem slotOk_n20 (a0 a1 a2 a3 a4 a5 a6 a7 a8 a9 a10 a11 a12 a13 a14 a15 a16 a17 a18 a19 : Tr) (Γ : List Tr) : slotOk (a0 :: a1 :: a2 :: a3 :: a4 :: a5 :: a6 :: a7 :: a8 :: a9 :: a10 :: a11 :: a12 :: a13 :: a14 :: a15 :: a16 :: a17 :: a18 :: a19 :: Γ) 20 = slotOk Γ 0 := rfl
@[simp] theorem slotOk_n21 (a0 a1 a2 a3 a4 a5 a6 a7 a8 a9 a10 a11 a12 a13 a14 a15 a16 a17 a18 a19 a20 : Tr) (Γ : List Tr) : slotOk (a0 :: a1 :: a2 :: a3 :: a4 :: a5 :: a6 :: a7 :: a8 :: a9 :: a10 :: a11 :: a12 :: a13 :: a14 :: a15 :: a16 :: a17 :: a18 :: a19 :: a20 :: Γ) 21 = slotOk Γ 0 := rfl
@[simp] theorem slotOk_n22 (a0 a1 a2 a3 a4 a5 a6 a7 a8 a9 a10 a11 a12 a13 a14 a15 a16 a17 a18 a19 a20 a21 : Tr) (Γ : List Tr) : slotOk (a0 :: a1 :: a2 :: a3 :: a4 :: a5 :: a6 :: a7 :: a8 :: a9 :: a10 :: a11 :: a12 :: a13 :: a14 :: a15 :: a16 :: a17 :: a18 :: a19 :: a20 :: a21 :: Γ) 22 = slotOk Γ 0 := rfl
@[simp] theorem slotOk_n23 (a0 a1 a2 a3 a4 a5 a6 a7 a8 a9 a10 a11 a12 a13 a14 a15 a16 a17 a18 a19 a20 a21 a22 : Tr) (Γ : List Tr) : slotOk (a0 :: a1 :: a2 :: a3 :: a4 :: a5 :: a6 :: a7 :: a8 :: a9 :: a10 :: a11 :: a12 :: a13 :: a14 :: a15 :: a16 :: a17 :: a18 :: a19 :: a20 :: a21 :: a22 :: Γ) 23 = slotOk Γ 0 := rfl
@[simp] theorem slotOk_n24 (a0 a1 a2 a3 a4 a5 a6 a7 a8 a9 a10 a11 a12 a13 a14 a15 a16 a17 a18 a19 a20 a21 a22 a23 : Tr) (Γ : List Tr) : slotOk (a0 :: a1 :: a2 :: a3 :: a4 :: a5 :: a6 :: a7 :: a8 :: a9 :: a10 :: a11 :: a12 :: a13 :: a14 :: a15 :: a16 :: a17 :: a18 :: a19 :: a20 :: a21 :: a22 :: a23 :: Γ) 24 = slotOk Γ 0 := rfl
@[simp] theorem slotOk_n25 (a0 a1 a2 a3 a4 a5 a6 a7 a8 a9 a10 a11 a12 a13 a14 a15 a16 a17 a18 a19 a20 a21 a22 a23 a24 : Tr) (Γ : List Tr) : slotOk (a0 :: a1 :: a2 :: a3 :: a4 :: a5 :: a6 :: a7 :: a8 :: a9 :: a10 :: a11 :: a12 :: a13 :: a14 :: a15 :: a16 :: a17 :: a18 :: a19 :: a20 :: a21 :: a22 :: a23 :: a24 :: Γ) 25 = slotOk Γ 0 := rfl
@[simp] theorem slotOk_n26 (a0 a1 a2 a3 a4 a5 a6 a7 a8 a9 a10 a11 a12 a13 a14 a15 a16 a17 a18 a19 a20 a21 a22 a23 a24 a25 : Tr) (Γ : List Tr) : slotOk (a0 :: a1 :: a2 :: a3 :: a4 :: a5 :: a6 :: a7 :: a8 :: a9 :: a10 :: a11 :: a12 :: a13 :: a14 :: a15 :: a16 :: a17 :: a18 :: a19 :: a20 :: a21 :: a22 :: a23 :: a24 :: a25 :: Γ) 26 = slotOk Γ 0 := rfl
@[simp] theorem slotOk_n27 (a0 a1 a2 a3 a4 a5 a6 a7 a8 a9 a10 a11 a12 a13 a14 a15 a16 a17 a18 a19 a20 a21 a22 a23 a24 a25 a26 : Tr) (Γ : List Tr) : slotOk (a0 :: a1 :: a2 :: a3 :: a4 :: a5 :: a6 :: a7 :: a8 :: a9 :: a10 :: a11 :: a12 :: a13 :: a14 :: a15 :: a16 :: a17 :: a18 :: a19 :: a20 :: a21 :: a22 :: a23 :: a24 :: a25 :: a26 :: Γ) 27 = slotOk Γ 0 := rfl
@[simp] theorem slotOk_n28 (a0 a1 a2 a3 a4 a5 a6 a7 a8 a9 a10 a11 a12 a13 a14 a15 a16 a17 a18 a19 a20 a21 a22 a23 a24 a25 a26 a27 : Tr) (Γ : List Tr) : slotOk (a0 :: a1 :: a2 :: a3 :: a4 :: a5 :: a6 :: a7 :: a8 :: a9 :: a10 :: a11 :: a12 :: a13 :: a14 :: a15 :: a16 :: a17 :: a18 :: a19 :: a20 :: a21 :: a22 :: a23 :: a24 :: a25 :: a26 :: a27 :: Γ) 28 = slotOk Γ 0 := rfl
@[simp] theorem slotOk_n29 (a0 a1 a2 a3 a4 a5 a6 a7 a8 a9 a10 a11 a12 a13 a14 a15 a16 a17 a18 a19 a20 a21 a22 a23 a24 a25 a26 a27 a28 : Tr) (Γ : List Tr) : slotOk (a0 :: a1 :: a2 :: a3 :: a4 :: a5 :: a6 :: a7 :: a8 :: a9 :: a10 :: a11 :: a12 :: a13 :: a14 :: a15 :: a16 :: a17 :: a18 :: a19 :: a20 :: a21 :: a22 :: a23 :: a24 :: a25 :: a26 :: a27 :: a28 :: Γ) 29 = slotOk Γ 0 := rfl
@[simp] theorem slotOk_n30 (a0 a1 a2 a3 a4 a5 a6 a7 a8 a9 a10 a11 a12 a13 a14 a15 a16 a17 a18 a19 a20 a21 a22 a23 a24 a25 a26 a27 a28 a29 : Tr) (Γ : List Tr) : slotOk (a0 :: a1 :: a2 :: a3 :: a4 :: a5 :: a6 :: a7 :: a8 :: a9 :: a10 :: a11 :: a12 :: a13 :: a14 :: a15 :: a16 :: a17 :: a18 :: a19 :: a20 :: a21 :: a22 :: a23 :: a24 :: a25 :: a26 :: a27 :: a28 :: a29 :: Γ) 30 = slotOk Γ 0 := rfl
@[simp] theorem slotOk_mp {α : Type} (h : α → PyData) (xs : List α) (Γ : List Tr) : slotOk (mpT h xs :: Γ) 0 = true := rfl
@[simp] theorem slotOk_d (d : List (List Int × Int)) (Γ : List Tr) : slotOk (.d d :: Γ) 0 = true := rfl
@[simp] theorem slotOk_x (x : Str) (Γ : List Tr) : slotOk (.x x :: Γ) 0 = true := rfl
end Hw
set_option Elab.async false
set_option linter.all false
set_option maxRecDepth 100000
set_option maxHeartbeats 400000
namespace Hw
open PySem PySem.Spec PyProof.Rows L2
@[simp] theorem ix_ct (ds : List PyData) (i : Int) : ixEv (.c (.tuple ds)) (.c (.int i)) = (atI ds i).map .c := rfl
@[simp] theorem ix_cl (ds : List PyData) (i : Int) : ixEv (.c (.list ds)) (.c (.int i)) = (atI ds i).map .c := rfl
end Hw
set_option Elab.async false
set_option linter.all false
set_option maxRecDepth 100000
set_option maxHeartbeats 800000
namespace Hp
open PySem PySem.Spec PyProof.Rows L2 Hw
theorem mx_mem : ∀ {l : List Int}, l ≠ [] → mx l ∈ l := by
  intro l h
  cases l with
  | nil => exact absurd rfl h
  | cons y ys =>
    have : ∀ (ys : List Int) (y : Int), ys.foldl max y = y ∨ ys.foldl max y ∈ ys := by
      intro ys
      induction ys with
      | nil => intro y; exact .inl rfl
      | cons z zs ih =>
        intro y
        rw [List.foldl_cons]
        rcases ih (max y z) with e | e
        · rcases (show max y z = y ∨ max y z = z by omega) with e2 | e2
          · exact .inl (e.trans e2)
          · exact .inr (by rw [e, e2]; exact List.mem_cons_self)
        · exact .inr (List.mem_cons_of_mem _ e)
    rcases this ys y with e | e
    · show ys.foldl max y ∈ y :: ys
      rw [e]; exact List.mem_cons_self
    · exact List.mem_cons_of_mem _ e
theorem wtW_one (h : Hs) : wtW (fun _ => 1) h = wtA h := by
  funext p
  unfold wtW wtA
  cases p.2 with
  | none => rfl
  | some k => simp
theorem beat_squares {N : Net} (on : OkN N) {h c : Hs} (nh : Nn N h) (nc : Nn N c) : sqH (bt N h c).1 ≤ sqH h + muchA N c (N.ties.map (offerA h)) + 2 * heapedA h c - 2 * weightA N h (N.ties.map (offerA h)) := by
  have oo := OkO.of nh.sh (N := N)
  have b := squares_rise on (fun _ => 1) (fun _ => by decide) nh nc oo
  have nb := (btO_nn on (of := ofD N) nh nc oo).1
  simp only [Int.one_mul, wtW_one] at b
  have e : (bt N h c).1 = addH (goneA N h (movesA N h (N.ties.map (offerA h)))).1 c := by rw [bt_is]; rfl
  have nb' : Nn N (addH (goneA N h (movesA N h (N.ties.map (offerA h)))).1 c) := nb
  rw [e, sq_dsum nb'.sh, sq_dsum nh.sh, much_dsum, heaped_dsum nh.sh nc.sh]
  unfold weightA
  exact b
theorem muchA_nn (N : Net) (c : Hs) (os : List (Option Nat)) : 0 ≤ muchA N c os := by
  rw [much_dsum]
  have : dsum N.ends.length N.n (fun _ _ => 0) ≤ dsum N.ends.length N.n (muchF N c os) := dsum_mono fun k p _ _ => by
    unfold muchF sqr
    have sq : ∀ x : Int, 0 ≤ x * x := fun x => by
      rcases Int.le_total 0 x with h | h
      · exact Int.mul_nonneg h h
      · exact Int.mul_nonneg_of_nonpos_of_nonpos h h
    split
    · exact Int.le_refl _
    · have := sq (offeredA N os k p false); have := sq (offeredA N os k p true + cell c k p); omega
  rw [dsum_zero (fun _ _ _ _ => rfl)] at this
  exact this
theorem heapedA_nn {N : Net} {h c : Hs} (nh : Nn N h) (nc : Nn N c) : 0 ≤ heapedA h c := by
  rw [heaped_dsum nh.sh nc.sh]
  have : dsum N.ends.length N.n (fun _ _ => 0) ≤ dsum N.ends.length N.n (fun k p => cell h k p * cell c k p) := dsum_mono fun k p hk hp => Int.mul_nonneg (nh.nn k p hk hp) (nc.nn k p hk hp)
  rw [dsum_zero (fun _ _ _ _ => rfl)] at this
  exact this
theorem dsum_const (n : Nat) (B : Int) : ((List.range n).map fun _ => B).sum = n * B := by
  induction n with
  | zero => simp
  | succ n ih => rw [List.range_succ, List.map_append, List.sum_append, ih]; simp; rw [Int.add_mul]; omega
theorem heapedA_b {N : Net} (on : OkN N) {h c : Hs} (oh : OkH 1000000000 N h) (oc : OkH 9 N c) : heapedA h c ≤ 288000000000 := by
  rw [heaped_dsum oh.sh oc.sh]
  have : dsum N.ends.length N.n (fun k p => cell h k p * cell c k p) ≤ dsum N.ends.length N.n (fun _ _ => 9000000000) := dsum_mono fun k p hk hp => by
    have a := cell_le oh.sh (fun l hl x hx => (oh.b l hl x hx).2) hk hp
    have b := cell_le oc.sh (fun l hl x hx => (oc.b l hl x hx).2) hk hp
    have a0 := oh.nn.nn k p hk hp
    have b0 := oc.nn.nn k p hk hp
    exact Int.mul_le_mul a b b0 (by decide)
  have e : dsum N.ends.length N.n (fun _ _ => 9000000000) = (N.ends.length : Int) * ((N.n : Int) * 9000000000) := by
    unfold dsum; rw [dsum_const, dsum_const]
  rw [e] at this
  have e4 := on.e4
  have n8 := on.n8
  have : (N.ends.length : Int) * ((N.n : Int) * 9000000000) ≤ 4 * (8 * 9000000000) := Int.mul_le_mul (by omega) (by omega) (by omega) (by decide)
  omega
theorem weight_b {N : Net} (on : OkN N) {h : Hs} (oh : OkH 1000000000 N h) {os : List (Option Nat)} (oo : OkO N os) : (weightA N h os).natAbs < 2 ^ 64 := by
  have l64 := on.tlen
  have : ∀ (ps : List (Tie × Option Nat)), (∀ p ∈ ps, OkT N.n p.1 ∧ ∀ k, p.2 = some k → k < N.ends.length) → -(9000000000 * (ps.length : Int)) ≤ (ps.map (wtA h)).sum ∧ (ps.map (wtA h)).sum ≤ 9000000000 * ps.length := by
    intro ps
    induction ps with
    | nil => intro _; simp
    | cons p ps ih =>
      intro hp
      have i := ih fun q hq => hp q (List.mem_cons_of_mem _ hq)
      have h0 := hp p List.mem_cons_self
      have : -9000000000 ≤ wtA h p ∧ wtA h p ≤ 9000000000 := by
        unfold wtA
        cases e : p.2 with
        | none => simp
        | some k =>
          have hk := h0.2 k e
          have ot := h0.1
          have a := cell_le oh.sh (fun l hl x hx => (oh.b l hl x hx).2) hk ot.i
          have b := cell_le oh.sh (fun l hl x hx => (oh.b l hl x hx).2) hk ot.j
          have a0 := oh.nn.nn k p.1.i hk ot.i
          have b0 := oh.nn.nn k p.1.j hk ot.j
          have lo := ot.lo; have hi := ot.hi
          dsimp only
          unfold fallA
          have u : (p.1.m) * (cell h k p.1.i - cell h k p.1.j) ≤ 9 * 1000000000 := by
            rcases Int.le_total 0 (cell h k p.1.i - cell h k p.1.j) with z | z
            · exact Int.mul_le_mul hi (by omega) z (by decide)
            · have := Int.mul_nonpos_of_nonneg_of_nonpos (a := p.1.m) (by omega) z; omega
          have l : -(9 * 1000000000) ≤ (p.1.m) * (cell h k p.1.i - cell h k p.1.j) := by
            rcases Int.le_total 0 (cell h k p.1.i - cell h k p.1.j) with z | z
            · have := Int.mul_nonneg (a := p.1.m) (by omega) z; omega
            · have : p.1.m * (-(cell h k p.1.i - cell h k p.1.j)) ≤ 9 * 1000000000 := Int.mul_le_mul hi (by omega) (by omega) (by decide)
              rw [Int.mul_neg] at this; omega
          omega
      simp only [List.map_cons, List.sum_cons, List.length_cons]
      omega
  have t := this (N.ties.zip os) fun p hp => by
    have := List.of_mem_zip (a := p.1) (b := p.2) hp
    exact ⟨on.t _ this.1, fun k e => oo.k k (by rw [← e]; exact this.2)⟩
  have : (N.ties.zip os).length ≤ 64 := by rw [List.length_zip]; omega
  unfold weightA
  omega
def S_beat_right14 (run : List Tr → Option FR) : Prop := ∀ N h c, OkN N → OkH 1000000000 N h → OkH 9 N c → run [.c (netD N), .c (hD h), .c (hD c)] = some (.ok (.c (.bool true)) [.gone, .gone, .gone])
theorem w_beat_right14 {F : Genv} (h1 : Fn F "rise" S_rise) (h2 : Fn F "greatest" S_greatest) (h3 : Fn F "beat" S_beat) (h4 : Fn F "are_heaps" (S_are 1000000000)) (h5 : Fn F "squares" S_squares) (h6 : Fn F "weight" S_weight) (h7 : Fn F "offer" S_offer) : S_beat_right14 (r_law_b_beat_right F) := by
  obtain ⟨r1, f1, q1⟩ := h1
  obtain ⟨r2, f2, q2⟩ := h2
  obtain ⟨r3, f3, q3⟩ := h3
  obtain ⟨r4, f4, q4⟩ := h4
  obtain ⟨r5, f5, q5⟩ := h5
  obtain ⟨r6, f6, q6⟩ := h6
  obtain ⟨r7, f7, q7⟩ := h7
  intro N h c on oh oc
  have oo := OkO.of oh.sh (N := N)
  have e1 := q1 N h c on oh oc
  have e3 := q3 N h c on oh oc
  have e5 := q5 N h on oh
  have e6 := q6 N h _ on oh oo
  have e7 := q7 N h on oh
  have cl : c ≠ [] := fun z => by
    have a := oc.len
    have b := on.e1
    rw [z] at a
    simp at a
    omega
  have ll : ∀ l ∈ c, l ≠ [] := fun l hl z => by
    have a := oc.sh.l l hl
    have b := on.n1
    rw [z] at a
    simp at a
    omega
  have hM : OkH (mx (c.map mx)) N c ∧ 0 ≤ mx (c.map mx) ∧ mx (c.map mx) ≤ 9 := by
    have hm := mx_mem (l := c.map mx) (by simpa using cl)
    obtain ⟨l, hl, e⟩ := List.mem_map.mp hm
    have hb := oc.b l hl _ (mx_mem (ll l hl))
    rw [e] at hb
    refine ⟨oc.nn.ok on fun l hl x hx => ?_, hb.1, hb.2⟩
    have a := mx_le x hx
    have b := mx_le (l := c.map mx) (mx l) (List.mem_map.mpr ⟨l, hl, rfl⟩)
    omega
  have e2 := q2 N _ on hM.2.1 hM.2.2
  have hml := much_le on hM.1 (N.ties.map (offerA h))
  have hm0 := muchA_nn N c (N.ties.map (offerA h))
  have hg := great_b on hM.2.1 hM.2.2
  have hh0 := heapedA_nn oh.nn oc.nn
  have hhb := heapedA_b on oh oc
  have hwb := weight_b on oh oo
  have bs := beat_squares on oh.nn oc.nn
  have e4 := q4 N (hD (bt N h c).1) on
  have eb : beatA N h c (allT N) = bt N h c := rfl
  rw [eb] at e3
  have elc : ev F (.lc [8] (.nm 8) (.sq (.var 2)) [] (.prim (.bi .max1) [.pk 8])) [.c (netD N), .c (hD h), .c (hD c), .gone, .gone, .gone, .c (.int (muchA N c (N.ties.map (offerA h)))), .c (.int (heapedA h c)), .gone]
      = some (.ok (.l (c.map fun l => .c (.int (mx l)))) [.c (netD N), .c (hD h), .c (hD c), .gone, .gone, .gone, .c (.int (muchA N c (N.ties.map (offerA h)))), .c (.int (heapedA h c)), .gone]) := by
    refine lc_map (c := lnD) (xs := c) (Γ1 := [.c (netD N), .c (hD h), .c (hD c), .gone, .gone, .gone, .c (.int (muchA N c (N.ties.map (offerA h)))), .c (.int (heapedA h c)), .gone]) (fun l => .c (.int (mx l))) (by simp [hD]) (by simp) (fun l hl => ?_) (sz (by have := oc.len; have := on.e4; omega))
    exact ⟨_, [.c (netD N), .c (hD h), .c (hD c), .gone, .gone, .gone, .c (.int (muchA N c (N.ties.map (offerA h)))), .c (.int (heapedA h c)), .c (lnD l)], rfl, by simp [max_t (ll l hl)], by simp⟩
  have ml := max_l mx cl
  generalize muchA N c (N.ties.map (offerA h)) = mu at *
  generalize heapedA h c = he at *
  generalize hsm : mx (c.map mx) = M at *
  have sM : Hw.settle (mpT kD (N.ties.map (offerA h))) = some (.c (osD (N.ties.map (offerA h)))) := settle_mpT kD _
  generalize weightA N h (N.ties.map (offerA h)) = we at *
  generalize N.ties.map (offerA h) = os at *
  have m1 := mul_sm (i := 2) (j := he) (sm64 (by decide)) (sm64 (by omega))
  have m2 := mul_sm (i := 2) (j := we) (sm64 (by decide)) (sm64 hwb)
  have n1 : ¬ greatA N M < mu := by omega
  have n2 : ¬ mu < 0 := by omega
  have n3 : ¬ he < 0 := by omega
  refine run_ret rfl (by decide) ?_
  unfold b_law_b_beat_right
  generalize mpT kD os = Y at *
  generalize (List.map (fun l => Tr.c (PyData.int (mx l))) c) = Z at *
  by_cases hP : LinesP N 1000000000 (hD (bt N h c).1)
  · rw [tr_t hP] at e4
    obtain ⟨h', eh, oh'⟩ := hP
    have eh' : (bt N h c).1 = h' := hD_inj eh
    have e5' := q5 N (bt N h c).1 on (by rw [eh']; exact oh')
    generalize (bt N h c) = b at *
    generalize netD N = nd at *
    simp [f1, e1, elc, ml, f2, e2, f3, e3, f4, e4, f5, e5, e5', f6, e6, f7, e7, sM, m1, m2, n1, n2, n3]
    exact ⟨_, ⟨bs, rfl⟩, rfl⟩
  · rw [tr_f hP] at e4
    generalize (bt N h c) = b at *
    generalize netD N = nd at *
    simp [f1, e1, elc, ml, f2, e2, f3, e3, f4, e4, f5, e5, f6, e6, f7, e7, sM, m1, m2, n1, n2, n3]
end Hp
set_option Elab.async false
set_option linter.all false
set_option maxRecDepth 100000
set_option maxHeartbeats 400000
namespace Hg
open PySem PySem.Spec PyProof.Rows L2 Hw
def top (i : Nat) : Stmt := PySem.Challenge.pw_heapward_k14_whole_squares_rise_no_more.main.body.getD i (.Pass ⟨0, 0, 0, 0⟩)
def d_is_number : DD where
  x := ("is_number" : Str)
  N := [("thing" : Str), ("low" : Str), ("high" : Str)]
  pn := [("thing" : Str), ("low" : Str), ("high" : Str)]
  ps := [false, false, false]
  st := top 14
  body := Hp.b_is_number
def d_is_tie : DD where
  x := ("is_tie" : Str)
  N := [("n" : Str), ("thing" : Str)]
  pn := [("n" : Str), ("thing" : Str)]
  ps := [false, false]
  st := top 15
  body := Hp.b_is_tie
def d_are_ends : DD where
  x := ("are_ends" : Str)
  N := [("n" : Str), ("thing" : Str), ("end" : Str)]
  pn := [("n" : Str), ("thing" : Str)]
  ps := [false, false]
  st := top 16
  body := Hp.b_are_ends
def d_are_ties : DD where
  x := ("are_ties" : Str)
  N := [("n" : Str), ("thing" : Str), ("at" : Str), ("tie" : Str)]
  pn := [("n" : Str), ("thing" : Str)]
  ps := [false, false]
  st := top 17
  body := Hp.b_are_ties
def d_is_net : DD where
  x := ("is_net" : Str)
  N := [("thing" : Str)]
  pn := [("thing" : Str)]
  ps := [false]
  st := top 18
  body := Hp.b_is_net
def d_need_net : DD where
  x := ("need_net" : Str)
  N := [("net" : Str)]
  pn := [("net" : Str)]
  ps := [false]
  st := top 19
  body := Hp.b_need_net
def d_is_line : DD where
  x := ("is_line" : Str)
  N := [("n" : Str), ("end" : Str), ("thing" : Str), ("high" : Str), ("one" : Str)]
  pn := [("n" : Str), ("end" : Str), ("thing" : Str), ("high" : Str)]
  ps := [false, false, false, false]
  st := top 20
  body := Hp.b_is_line
def d_are_lines : DD where
  x := ("are_lines" : Str)
  N := [("net" : Str), ("thing" : Str), ("high" : Str), ("end" : Str), ("line" : Str)]
  pn := [("net" : Str), ("thing" : Str), ("high" : Str)]
  ps := [false, false, false]
  st := top 21
  body := Hp.b_are_lines
def d_are_heaps : DD where
  x := ("are_heaps" : Str)
  N := [("net" : Str), ("thing" : Str)]
  pn := [("net" : Str), ("thing" : Str)]
  ps := [false, false]
  st := top 22
  body := Hp.b_are_heaps
def d_need_heaps : DD where
  x := ("need_heaps" : Str)
  N := [("net" : Str), ("heaps" : Str)]
  pn := [("net" : Str), ("heaps" : Str)]
  ps := [false, false]
  st := top 23
  body := Hp.b_need_heaps
def d_need_comers : DD where
  x := ("need_comers" : Str)
  N := [("net" : Str), ("comers" : Str)]
  pn := [("net" : Str), ("comers" : Str)]
  ps := [false, false]
  st := top 24
  body := Hp.b_need_comers
def d_fall_along : DD where
  x := ("fall_along" : Str)
  N := [("heaps" : Str), ("kind" : Str), ("tie" : Str)]
  pn := [("heaps" : Str), ("kind" : Str), ("tie" : Str)]
  ps := [false, false, false]
  st := top 26
  body := Hp.b_fall_along
def d_offer_along : DD where
  x := ("offer_along" : Str)
  N := [("heaps" : Str), ("tie" : Str), ("best" : Str), ("kind" : Str), ("here" : Str)]
  pn := [("heaps" : Str), ("tie" : Str)]
  ps := [false, false]
  st := top 27
  body := Hp.b_offer_along
def d_all_ties : DD where
  x := ("all_ties" : Str)
  N := [("net" : Str)]
  pn := [("net" : Str)]
  ps := [false]
  st := top 28
  body := Hp.b_all_ties
def d_offer_over : DD where
  x := ("offer_over" : Str)
  N := [("net" : Str), ("heaps" : Str), ("standing" : Str), ("found" : Str), ("number" : Str), ("tie" : Str)]
  pn := [("net" : Str), ("heaps" : Str), ("standing" : Str)]
  ps := [false, false, false]
  st := top 29
  body := Hp.b_offer_over
def d_offer : DD where
  x := ("offer" : Str)
  N := [("net" : Str), ("heaps" : Str)]
  pn := [("net" : Str), ("heaps" : Str)]
  ps := [false, false]
  st := top 30
  body := Hp.b_offer
def d_moves_of : DD where
  x := ("moves_of" : Str)
  N := [("net" : Str), ("heaps" : Str), ("offered" : Str), ("left" : Str), ("found" : Str), ("tie" : Str), ("kind" : Str), ("many" : Str), ("line" : Str)]
  pn := [("net" : Str), ("heaps" : Str), ("offered" : Str)]
  ps := [false, false, false]
  st := top 31
  body := Hp.b_moves_of
def d_moves_over : DD where
  x := ("moves_over" : Str)
  N := [("net" : Str), ("heaps" : Str), ("standing" : Str)]
  pn := [("net" : Str), ("heaps" : Str), ("standing" : Str)]
  ps := [false, false, false]
  st := top 32
  body := Hp.b_moves_over
def d_gone_by : DD where
  x := ("gone_by" : Str)
  N := [("net" : Str), ("heaps" : Str), ("some" : Str), ("lines" : Str), ("home" : Str), ("tie" : Str), ("one" : Str), ("line" : Str), ("kind" : Str), ("many" : Str)]
  pn := [("net" : Str), ("heaps" : Str), ("some" : Str)]
  ps := [false, false, false]
  st := top 33
  body := Hp.b_gone_by
def d_with_comers : DD where
  x := ("with_comers" : Str)
  N := [("heaps" : Str), ("comers" : Str), ("found" : Str), ("line" : Str), ("other" : Str), ("one" : Str), ("more" : Str)]
  pn := [("heaps" : Str), ("comers" : Str)]
  ps := [false, false]
  st := top 34
  body := Hp.b_with_comers
def d_beat_over : DD where
  x := ("beat_over" : Str)
  N := [("net" : Str), ("heaps" : Str), ("comers" : Str), ("standing" : Str), ("behind" : Str), ("home" : Str)]
  pn := [("net" : Str), ("heaps" : Str), ("comers" : Str), ("standing" : Str)]
  ps := [false, false, false, false]
  st := top 35
  body := Hp.b_beat_over
def d_beat : DD where
  x := ("beat" : Str)
  N := [("net" : Str), ("heaps" : Str), ("comers" : Str)]
  pn := [("net" : Str), ("heaps" : Str), ("comers" : Str)]
  ps := [false, false, false]
  st := top 36
  body := Hp.b_beat
def d_squares_of : DD where
  x := ("squares_of" : Str)
  N := [("heaps" : Str), ("line" : Str), ("one" : Str)]
  pn := [("heaps" : Str)]
  ps := [false]
  st := top 38
  body := Hp.b_squares_of
def d_squares : DD where
  x := ("squares" : Str)
  N := [("net" : Str), ("heaps" : Str)]
  pn := [("net" : Str), ("heaps" : Str)]
  ps := [false, false]
  st := top 39
  body := Hp.b_squares
def d_is_offer : DD where
  x := ("is_offer" : Str)
  N := [("net" : Str), ("thing" : Str), ("kind" : Str)]
  pn := [("net" : Str), ("thing" : Str)]
  ps := [false, false]
  st := top 40
  body := Hp.b_is_offer
def d_weight_of : DD where
  x := ("weight_of" : Str)
  N := [("net" : Str), ("heaps" : Str), ("some" : Str), ("total" : Str), ("tie" : Str), ("kind" : Str)]
  pn := [("net" : Str), ("heaps" : Str), ("some" : Str)]
  ps := [false, false, false]
  st := top 41
  body := Hp.b_weight_of
def d_weight : DD where
  x := ("weight" : Str)
  N := [("net" : Str), ("heaps" : Str), ("some" : Str)]
  pn := [("net" : Str), ("heaps" : Str), ("some" : Str)]
  ps := [false, false, false]
  st := top 42
  body := Hp.b_weight
def d_offered_at : DD where
  x := ("offered_at" : Str)
  N := [("net" : Str), ("some" : Str), ("kind" : Str), ("place" : Str), ("side" : Str), ("tie" : Str), ("one" : Str)]
  pn := [("net" : Str), ("some" : Str), ("kind" : Str), ("place" : Str), ("side" : Str)]
  ps := [false, false, false, false, false]
  st := top 43
  body := Hp.b_offered_at
def d_much_of : DD where
  x := ("much_of" : Str)
  N := [("net" : Str), ("comers" : Str), ("some" : Str), ("total" : Str), ("kind" : Str), ("end" : Str), ("place" : Str), ("out" : Str), ("into" : Str), ("one" : Str)]
  pn := [("net" : Str), ("comers" : Str), ("some" : Str)]
  ps := [false, false, false]
  st := top 44
  body := Hp.b_much_of
def d_heaped_of : DD where
  x := ("heaped_of" : Str)
  N := [("heaps" : Str), ("comers" : Str), ("line" : Str), ("other" : Str), ("one" : Str), ("more" : Str)]
  pn := [("heaps" : Str), ("comers" : Str)]
  ps := [false, false]
  st := top 45
  body := Hp.b_heaped_of
def d_rise : DD where
  x := ("rise" : Str)
  N := [("net" : Str), ("heaps" : Str), ("comers" : Str), ("some" : Str)]
  pn := [("net" : Str), ("heaps" : Str), ("comers" : Str)]
  ps := [false, false, false]
  st := top 46
  body := Hp.b_rise
def d_greatest_in : DD where
  x := ("greatest_in" : Str)
  N := [("net" : Str), ("number" : Str), ("total" : Str), ("end" : Str), ("place" : Str), ("out" : Str), ("into" : Str), ("one" : Str), ("tie" : Str)]
  pn := [("net" : Str), ("number" : Str)]
  ps := [false, false]
  st := top 47
  body := Hp.b_greatest_in
def d_greatest : DD where
  x := ("greatest" : Str)
  N := [("net" : Str), ("number" : Str)]
  pn := [("net" : Str), ("number" : Str)]
  ps := [false, false]
  st := top 48
  body := Hp.b_greatest
def d_run_in : DD where
  x := ("run_in" : Str)
  N := [("net" : Str), ("heaps" : Str), ("rows" : Str), ("stands" : Str), ("home" : Str), ("comers" : Str), ("behind" : Str), ("came" : Str), ("one" : Str), ("more" : Str)]
  pn := [("net" : Str), ("heaps" : Str), ("rows" : Str)]
  ps := [false, false, false]
  st := top 51
  body := Hp.b_run_in
def d_need_rows : DD where
  x := ("need_rows" : Str)
  N := [("net" : Str), ("rows" : Str), ("comers" : Str)]
  pn := [("net" : Str), ("rows" : Str)]
  ps := [false, false]
  st := top 52
  body := Hp.b_need_rows
def d_run : DD where
  x := ("run" : Str)
  N := [("net" : Str), ("heaps" : Str), ("rows" : Str)]
  pn := [("net" : Str), ("heaps" : Str), ("rows" : Str)]
  ps := [false, false, false]
  st := top 53
  body := Hp.b_run
def d_law_b_mixed : DD where
  x := ("_law_b_mixed" : Str)
  N := [("cell" : Str), ("at" : Str), ("one" : Str), ("two" : Str), ("three" : Str)]
  pn := [("cell" : Str), ("at" : Str)]
  ps := [false, false]
  st := top 55
  body := Hp.b_law_b_mixed
def d_law_b_take : DD where
  x := ("_law_b_take" : Str)
  N := [("tape" : Str), ("many" : Str), ("found" : Str), ("at" : Str), ("cell" : Str)]
  pn := [("tape" : Str), ("many" : Str)]
  ps := [true, false]
  st := top 56
  body := Hp.b_law_b_take
def d_law_b_net : DD where
  x := ("_law_b_net" : Str)
  N := [("tape" : Str), ("places" : Str), ("kinds" : Str), ("n" : Str), ("ends" : Str), ("often" : Str), ("sort" : Str), ("ties" : Str), ("i" : Str), ("j" : Str), ("kind" : Str), ("other" : Str)]
  pn := [("tape" : Str), ("places" : Str), ("kinds" : Str)]
  ps := [true, false, false]
  st := top 57
  body := Hp.b_law_b_net
def d_law_b_lines : DD where
  x := ("_law_b_lines" : Str)
  N := [("tape" : Str), ("net" : Str), ("far" : Str), ("found" : Str), ("end" : Str), ("place" : Str)]
  pn := [("tape" : Str), ("net" : Str), ("far" : Str)]
  ps := [true, false, false]
  st := top 58
  body := Hp.b_law_b_lines
def d_law_b_heaps : DD where
  x := ("_law_b_heaps" : Str)
  N := [("tape" : Str), ("net" : Str)]
  pn := [("tape" : Str), ("net" : Str)]
  ps := [true, false]
  st := top 59
  body := Hp.b_law_b_heaps
def d_law_b_comers : DD where
  x := ("_law_b_comers" : Str)
  N := [("tape" : Str), ("net" : Str)]
  pn := [("tape" : Str), ("net" : Str)]
  ps := [true, false]
  st := top 60
  body := Hp.b_law_b_comers
def d_law_b_beat_right : DD where
  x := ("_law_b_beat_right" : Str)
  N := [("net" : Str), ("heaps" : Str), ("comers" : Str), ("most_comer" : Str), ("behind" : Str), ("bound_here" : Str), ("much" : Str), ("heaped" : Str), ("line" : Str)]
  pn := [("net" : Str), ("heaps" : Str), ("comers" : Str)]
  ps := [false, false, false]
  st := top 61
  body := Hp.b_law_b_beat_right
def d_law : DD where
  x := ("law" : Str)
  N := [("script" : Str), ("tape" : Str), ("k" : Str), ("net" : Str), ("heaps" : Str), ("rows" : Str), ("stands" : Str), ("stand" : Str), ("comers" : Str), ("turn" : Str)]
  pn := [("script" : Str)]
  ps := [false]
  st := top 62
  body :=
  [.set 1 (.lst [.e (.var 0), .e (.lit (.int 0)), .e (.lit (.int 0))]),
  .for_ (.nm 2) (.rng1 (.lit (.int 3)))
    [.ite (.and_ (.e (.prim (.cmp .Gt) [.pk 2, .e (.lit (.int 1))])) (.e (.prim (.cmp .GtE) [.e (.pth 1 [.lit (.int 1)]), .e (.prim (.bi .len) [.pk 0])])))
      [.brk]
      [],
    .set 3 (.call ("_law_b_net" : Str) [.io 1, .e (.prim .ix [.e (.lst [.e (.lit (.int 8)), .e (.lit (.int 5)), .e (.lit (.int 4))]), .pk 2]), .e (.lit (.int 4))]),
    .set 4 (.call ("_law_b_heaps" : Str) [.io 1, .e (.var 3)]),
    .set 5 (.lc [9] (.nm 9) (.rng1 (.call ("_law_b_take" : Str) [.io 1, .e (.lit (.int 11))])) [] (.call ("_law_b_comers" : Str) [.io 1, .e (.var 3)])),
    .set 6 (.prim .ix [.e (.call ("run" : Str) [.e (.var 3), .e (.var 4), .e (.var 5)]), .e (.lit (.int 0))]),
    .for_ (.tp [7, 8]) (.sq (.prim (.sl false true) [.e (.prim .lzp [.pk 6, .pk 5]), .e (.prim .ix [.e (.lst [.e (.lit (.int 3)), .e (.lit (.int 10)), .e (.lit (.int 10))]), .pk 2])]))
      [.ite (.and_ (.e (.prim (.cmp .Is) [.e (.call ("are_heaps" : Str) [.e (.var 3), .e (.var 7)]), .e (.lit (.bool true))])) (.not_ (.e (.call ("_law_b_beat_right" : Str) [.e (.var 3), .e (.var 7), .e (.var 8)]))))
        [.ret (.lit (.bool false))]
        []]],
  .ret (.lit (.bool true))]
def ds : List DD := [d_law_b_beat_right, d_law_b_comers, d_law_b_heaps, d_law_b_lines, d_law_b_net, d_law_b_take, d_law_b_mixed, d_run, d_need_rows, d_run_in, d_greatest, d_greatest_in, d_rise, d_heaped_of, d_much_of, d_offered_at, d_weight, d_weight_of, d_is_offer, d_squares, d_squares_of, d_beat, d_beat_over, d_with_comers, d_gone_by, d_moves_over, d_moves_of, d_offer, d_offer_over, d_all_ties, d_offer_along, d_fall_along, d_need_comers, d_need_heaps, d_are_heaps, d_are_lines, d_is_line, d_need_net, d_is_net, d_are_ties, d_are_ends, d_is_tie, d_is_number]
def exs : List Str := [("NoNet" : Str), ("NoHeaps" : Str), ("NoComers" : Str), ("NoOffer" : Str), ("NoNumber" : Str), ("TooMany" : Str)]
def xc : XC := ⟨exs, [], []⟩
def gls : List (Str × Int) := [(("MOST_PLACES" : Str), 8), (("MOST_KINDS" : Str), 4), (("MOST_OVER" : Str), 9), (("MOST_HEAP" : Str), 1000000000), (("MOST_COMING" : Str), 9), (("MOST_BEATS" : Str), 1000)]
abbrev Gt (i : Nat) : Genv := genv (glI gls) (ds.drop i)
theorem s_is_number : Hp.S_is_number (Hp.r_is_number (Gt 43)) := Hp.w_is_number (Gt 43)
theorem s_is_tie : Hp.S_is_tie (Hp.r_is_tie (Gt 42)) := Hp.w_is_tie ⟨_, by kernel_rfl, s_is_number⟩ (by kernel_rfl)
theorem s_are_ends : Hp.S_are_ends (Hp.r_are_ends (Gt 41)) := Hp.w_are_ends ⟨_, by kernel_rfl, s_is_number⟩ (by kernel_rfl)
theorem s_are_ties : Hp.S_are_ties (Hp.r_are_ties (Gt 40)) := Hp.w_are_ties ⟨_, by kernel_rfl, s_is_tie⟩
theorem s_is_net : Hp.S_is_net (Hp.r_is_net (Gt 39)) := Hp.w_is_net ⟨_, by kernel_rfl, s_is_number⟩ ⟨_, by kernel_rfl, s_are_ends⟩ ⟨_, by kernel_rfl, s_are_ties⟩ (by kernel_rfl)
theorem s_need_net : Hp.S_need_net (Hp.r_need_net (Gt 38)) := Hp.w_need_net ⟨_, by kernel_rfl, s_is_net⟩
theorem s_is_line : Hp.S_is_line (Hp.r_is_line (Gt 37)) := Hp.w_is_line ⟨_, by kernel_rfl, s_is_number⟩
theorem s_are_lines : Hp.S_are_lines (Hp.r_are_lines (Gt 36)) := Hp.w_are_lines ⟨_, by kernel_rfl, s_is_line⟩
theorem s_are_heaps : (Hp.S_are 1000000000) (Hp.r_are_heaps (Gt 35)) := Hp.w_are_heaps ⟨_, by kernel_rfl, s_need_net⟩ ⟨_, by kernel_rfl, s_are_lines⟩ (by kernel_rfl)
theorem s_need_heaps : (Hp.S_need_lines 1000000000 "NoHeaps") (Hp.r_need_heaps (Gt 34)) := Hp.w_need_heaps ⟨_, by kernel_rfl, s_are_lines⟩ (by kernel_rfl)
theorem s_need_comers : (Hp.S_need_lines 9 "NoComers") (Hp.r_need_comers (Gt 33)) := Hp.w_need_comers ⟨_, by kernel_rfl, s_are_lines⟩ (by kernel_rfl)
theorem s_fall_along : Hp.S_fall_along (Hp.r_fall_along (Gt 32)) := Hp.w_fall_along (Gt 32)
theorem s_offer_along : Hp.S_offer_along (Hp.r_offer_along (Gt 31)) := Hp.w_offer_along ⟨_, by kernel_rfl, s_fall_along⟩
theorem s_all_ties : Hp.S_all_ties (Hp.r_all_ties (Gt 30)) := Hp.w_all_ties (Gt 30)
theorem s_offer_over : Hp.S_offer_over (Hp.r_offer_over (Gt 29)) := Hp.w_offer_over ⟨_, by kernel_rfl, s_offer_along⟩
theorem s_offer : Hp.S_offer (Hp.r_offer (Gt 28)) := Hp.w_offer ⟨_, by kernel_rfl, s_need_net⟩ ⟨_, by kernel_rfl, s_need_heaps⟩ ⟨_, by kernel_rfl, s_offer_over⟩ ⟨_, by kernel_rfl, s_all_ties⟩
theorem s_moves_of : Hp.S_moves_of (Hp.r_moves_of (Gt 27)) := Hp.w_moves_of (Gt 27)
theorem s_moves_over : Hp.S_moves_over (Hp.r_moves_over (Gt 26)) := Hp.w_moves_over ⟨_, by kernel_rfl, s_moves_of⟩ ⟨_, by kernel_rfl, s_offer_over⟩
theorem s_gone_by : Hp.S_gone_by (Hp.r_gone_by (Gt 25)) := Hp.w_gone_by (Gt 25)
theorem s_with_comers : Hp.S_with_comers (Hp.r_with_comers (Gt 24)) := Hp.w_with_comers (Gt 24)
theorem s_beat_over : Hp.S_beat_over (Hp.r_beat_over (Gt 23)) := Hp.w_beat_over ⟨_, by kernel_rfl, s_gone_by⟩ ⟨_, by kernel_rfl, s_moves_over⟩ ⟨_, by kernel_rfl, s_with_comers⟩
theorem s_beat : Hp.S_beat (Hp.r_beat (Gt 22)) := Hp.w_beat ⟨_, by kernel_rfl, s_need_net⟩ ⟨_, by kernel_rfl, s_need_heaps⟩ ⟨_, by kernel_rfl, s_need_comers⟩ ⟨_, by kernel_rfl, s_beat_over⟩ ⟨_, by kernel_rfl, s_all_ties⟩
theorem s_squares_of : Hp.S_squares_of (Hp.r_squares_of (Gt 21)) := Hp.w_squares_of (Gt 21)
theorem s_squares : Hp.S_squares (Hp.r_squares (Gt 20)) := Hp.w_squares ⟨_, by kernel_rfl, s_need_net⟩ ⟨_, by kernel_rfl, s_need_heaps⟩ ⟨_, by kernel_rfl, s_squares_of⟩
theorem s_is_offer : Hp.S_is_offer (Hp.r_is_offer (Gt 19)) := Hp.w_is_offer ⟨_, by kernel_rfl, s_is_number⟩
theorem s_weight_of : Hp.S_weight_of (Hp.r_weight_of (Gt 18)) := Hp.w_weight_of ⟨_, by kernel_rfl, s_fall_along⟩
theorem s_weight : Hp.S_weight (Hp.r_weight (Gt 17)) := Hp.w_weight ⟨_, by kernel_rfl, s_need_net⟩ ⟨_, by kernel_rfl, s_need_heaps⟩ ⟨_, by kernel_rfl, s_is_offer⟩ ⟨_, by kernel_rfl, s_weight_of⟩
theorem s_offered_at : Hp.S_offered_at (Hp.r_offered_at (Gt 16)) := Hp.w_offered_at (Gt 16)
theorem s_much_of : Hp.S_much_of (Hp.r_much_of (Gt 15)) := Hp.w_much_of ⟨_, by kernel_rfl, s_offered_at⟩
theorem s_heaped_of : Hp.S_heaped_of (Hp.r_heaped_of (Gt 14)) := Hp.w_heaped_of (Gt 14)
theorem s_rise : Hp.S_rise (Hp.r_rise (Gt 13)) := Hp.w_rise ⟨_, by kernel_rfl, s_need_net⟩ ⟨_, by kernel_rfl, s_need_heaps⟩ ⟨_, by kernel_rfl, s_need_comers⟩ ⟨_, by kernel_rfl, s_offer_over⟩ ⟨_, by kernel_rfl, s_all_ties⟩ ⟨_, by kernel_rfl, s_much_of⟩ ⟨_, by kernel_rfl, s_heaped_of⟩
theorem s_greatest_in : Hp.S_greatest_in (Hp.r_greatest_in (Gt 12)) := Hp.w_greatest_in (Gt 12)
theorem s_greatest : Hp.S_greatest (Hp.r_greatest (Gt 11)) := Hp.w_greatest ⟨_, by kernel_rfl, s_need_net⟩ ⟨_, by kernel_rfl, s_is_number⟩ ⟨_, by kernel_rfl, s_greatest_in⟩ (by kernel_rfl)
theorem s_run_in : Hp.S_run_in (Hp.r_run_in (Gt 10)) := Hp.w_run_in ⟨_, by kernel_rfl, s_beat_over⟩ ⟨_, by kernel_rfl, s_all_ties⟩
theorem s_need_rows : Hp.S_need_rows (Hp.r_need_rows (Gt 9)) := Hp.w_need_rows ⟨_, by kernel_rfl, s_need_comers⟩ (by kernel_rfl)
theorem s_run : Hp.S_run (Hp.r_run (Gt 8)) := Hp.w_run ⟨_, by kernel_rfl, s_need_net⟩ ⟨_, by kernel_rfl, s_need_heaps⟩ ⟨_, by kernel_rfl, s_need_rows⟩ ⟨_, by kernel_rfl, s_run_in⟩
theorem s_law_b_mixed : Hp.S_mixed (Hp.r_law_b_mixed (Gt 7)) := Hp.w_mixed (Gt 7)
theorem s_law_b_take (ns : List Int) : (Hp.S_take ns) (Hp.r_law_b_take (Gt 6)) := Hp.w_take ⟨_, by kernel_rfl, s_law_b_mixed⟩
theorem s_law_b_net (ns : List Int) : (Hp.S_net ns) (Hp.r_law_b_net (Gt 5)) := Hp.w_net ⟨_, by kernel_rfl, s_law_b_take ns⟩
theorem s_law_b_lines (ns : List Int) : (Hp.S_lines ns) (Hp.r_law_b_lines (Gt 4)) := Hp.w_lines ⟨_, by kernel_rfl, s_law_b_take ns⟩
theorem s_law_b_heaps (ns : List Int) : (Hp.S_heaps 1000000000 ns) (Hp.r_law_b_heaps (Gt 3)) := Hp.w_heaps ⟨_, by kernel_rfl, s_law_b_take ns⟩ ⟨_, by kernel_rfl, s_law_b_lines ns⟩
theorem s_law_b_comers (ns : List Int) : (Hp.S_heaps 9 ns) (Hp.r_law_b_comers (Gt 2)) := Hp.w_comers ⟨_, by kernel_rfl, s_law_b_take ns⟩ ⟨_, by kernel_rfl, s_law_b_lines ns⟩
theorem s_law_b_beat_right : Hp.S_beat_right14 (Hp.r_law_b_beat_right (Gt 1)) := Hp.w_beat_right14 ⟨_, by kernel_rfl, s_rise⟩ ⟨_, by kernel_rfl, s_greatest⟩ ⟨_, by kernel_rfl, s_beat⟩ ⟨_, by kernel_rfl, s_are_heaps⟩ ⟨_, by kernel_rfl, s_squares⟩ ⟨_, by kernel_rfl, s_weight⟩ ⟨_, by kernel_rfl, s_offer⟩
end Hg
set_option Elab.async false
set_option linter.all false
set_option maxRecDepth 100000
set_option maxHeartbeats 800000
namespace Hg
open PySem PySem.Spec PyProof.Rows L2 Hw Hp
abbrev pD (p : List (List Int) × List (List Int)) : PyData := .tuple [hD p.1, hD p.2]
theorem take_l (xs : List PyData) (a : Nat) : slEv (lT xs) none (some (a : Int)) = some (lT (xs.take a)) := by
  have e : asList (lT xs) = some xs := stl_c xs
  have c : Hw.cutD xs none (some (a : Int)) = xs.take a := by
    have h1 : HT.sIx xs.length 0 none = 0 := rfl
    have h2 : HT.sIx xs.length xs.length (some (a : Int)) = min a xs.length := HT.sIx_nat _ _ a
    unfold Hw.cutD
    rw [h1, h2, List.drop_zero, Nat.sub_zero]
    exact (List.take_eq_take_min ..).symm
  unfold slEv
  rw [e]
  simp only [c]
theorem w_law {F : Genv} {ns : List Int} (h0 : Fn F "_law_b_take" (S_take ns)) (h1 : Fn F "_law_b_net" (S_net ns)) (h2 : Fn F "_law_b_heaps" (S_heaps 1000000000 ns)) (h3 : Fn F "_law_b_comers" (S_heaps 9 ns)) (h4 : Fn F "run" S_run) (h5 : Fn F "are_heaps" (S_are 1000000000)) (h6 : Fn F "_law_b_beat_right" S_beat_right14) :
    ∃ Γ, exB F d_law.body (.s ns :: .gone :: .gone :: List.replicate 7 .gone) = some (.rt (.c (.bool true)) Γ) := by
  obtain ⟨r0, f0, q0⟩ := h0
  obtain ⟨r1, f1, q1⟩ := h1
  obtain ⟨r2, f2, q2⟩ := h2
  obtain ⟨r3, f3, q3⟩ := h3
  obtain ⟨r4, f4, q4⟩ := h4
  obtain ⟨r5, f5, q5⟩ := h5
  obtain ⟨r6, f6, q6⟩ := h6
  refine law_loop (K := 3) (c := 1) (m := 7) (by decide) fun k t J hk hJ ht => ?_
  match J, hJ with
  | [j3, j4, j5, j6, j7, j8, j9], _ =>
    obtain ⟨p, ep, p1, p6⟩ : ∃ p : Nat, ixEv (.l [.c (.int 8), .c (.int 5), .c (.int 4)]) (.c (.int (k : Nat))) = some (.c (.int (p : Nat))) ∧ 1 ≤ p ∧ p ≤ 8 := by
      rcases (by omega : k = 0 ∨ k = 1 ∨ k = 2) with rfl | rfl | rfl
      · exact ⟨8, rfl, by decide, by decide⟩
      · exact ⟨5, rfl, by decide, by decide⟩
      · exact ⟨4, rfl, by decide, by decide⟩
    obtain ⟨N, t1, e1, on, ht1, _, _⟩ := q1 (k * 100000) _ p 4 ht (by omega) p1 (by omega) (by decide) (by decide)
    have n8 := on.n8
    have ne4 := on.e4
    have ne1 := on.e1
    obtain ⟨h, t2, e2, oh, ht2⟩ := q2 _ t1 N ht1 (by omega) on
    refine Run.nx (Γ1 := [.s ns, t1, .c (.int k), .c (netD N), j4, j5, j6, j7, j8, j9]) (by simp at e1; simp [f1, ht.ok, ep, e1]) ?_
    refine Run.nx (Γ1 := [.s ns, t2, .c (.int k), .c (netD N), .c (hD h), j5, j6, j7, j8, j9]) (by simp [f2, ht1.ok, e2]) ?_
    obtain ⟨n, t4, e4, ht4, hn⟩ := q0 _ t2 11 ht2 (by omega) (by decide) (by decide)
    obtain ⟨t5, rows, ed, ht5, lr, orr⟩ := ev_draw (F := F) (ns := ns) (s := 9) (u := 3) (cnt := n) (M := k * 100000 + 1000 + 50 + 1) (N := N) (cn := .call ("_law_b_take" : Str) [.io 1, .e (.lit (.int 11))]) (h := .s ns) (t1 := t2) (Γ := [.c (.int k), .c (netD N), .c (hD h), j5, j6, j7, j8, j9])
      on f3 q3 (by simp) (by decide) (by decide) (by decide) ⟨t4, by simp [f0, ht2.ok, e4], ht4.mono (by omega)⟩ (by omega) (by omega) rfl
    refine Run.nx (Γ1 := [.s ns, t5, .c (.int k), .c (netD N), .c (hD h), mpT hD rows, j6, j7, j8, .gone]) (by simp [ed]) ?_
    have ev5 := ev_varM (F := F) hD rows (Γ := [.s ns, t5, .c (.int k), .c (netD N), .c (hD h), mpT hD rows, j6, j7, j8, .gone]) (i := 5) rfl
    have rD : ∀ xs, PyData.list (List.map hD xs) = rowsD xs := fun _ => rfl
    rw [rD] at ev5
    have e6 := q4 N h rows on oh orr (by omega)
    have lS := runA_len (N := N) h rows
    have hlz : (((runA N h rows).1.map hD).zip (rows.map hD)).map (fun p => PyData.tuple [p.1, p.2]) = ((runA N h rows).1.zip rows).map pD := by
      rw [List.zip_map, List.map_map]; rfl
    have orz : ∀ p ∈ (runA N h rows).1.zip rows, OkH 9 N p.2 := fun p hp => orr _ (List.of_mem_zip hp).2
    have lz : ((runA N h rows).1.zip rows).length ≤ 10 := by rw [List.length_zip]; omega
    have a6 : asList (.c (rowsD (runA N h rows).1)) = some ((runA N h rows).1.map hD) := rfl
    have a5 : asList (.c (rowsD rows)) = some (rows.map hD) := rfl
    have hmin : min ((runA N h rows).1.map hD).length (rows.map hD).length ≤ sizeLine := sz (by simp; omega)
    generalize mpT hD rows = Z at *
    have lzp : primEv .lzp [.c (rowsD (runA N h rows).1), .c (rowsD rows)] = some (lT (((runA N h rows).1.zip rows).map pD)) := by
      rw [p_lzp, a6, a5]
      simp only [Option.bind_some]
      rw [if_pos hmin, hlz]
    generalize (runA N h rows).1.zip rows = zs at *
    generalize (runA N h rows) = R at *
    refine Run.nx (Γ1 := [.s ns, t5, .c (.int k), .c (netD N), .c (hD h), .c (rowsD rows), .c (rowsD R.1), j7, j8, .gone]) (by
      have ix0 : ixEv (.c (.tuple [rowsD R.1, lnD R.2])) (.c (.int 0)) = some (.c (rowsD R.1)) := rfl
      simp [f4, ev5, e6, ix0]) ?_
    obtain ⟨m, em⟩ : ∃ m : Nat, ixEv (.l [.c (.int 3), .c (.int 10), .c (.int 10)]) (.c (.int (k : Nat))) = some (.c (.int (m : Nat))) := by
      rcases (by omega : k = 0 ∨ k = 1 ∨ k = 2) with rfl | rfl | rfl
      · exact ⟨3, rfl⟩
      · exact ⟨10, rfl⟩
      · exact ⟨10, rfl⟩
    have tk := take_l (zs.map pD) m
    rw [← List.map_take] at tk
    have st : asSeq (lT ((zs.take m).map pD)) = some ((zs.take m).map pD) := asSeq_l (stl_c _)
    have ozt : ∀ p ∈ zs.take m, OkH 9 N p.2 := fun p hp => orz p (List.mem_of_mem_take hp)
    generalize hts : zs.take m = ts at *
    generalize lT (zs.map pD) = Y1 at *
    generalize hY : lT (ts.map pD) = Y2 at *
    have ok5 : ∀ b0 b1 b2 b3 b4 x Γ, slotOk (b0 :: b1 :: b2 :: b3 :: b4 :: .c x :: Γ) 5 = true := fun _ _ _ _ _ _ _ => rfl
    have ok6 : ∀ b0 b1 b2 b3 b4 b5 x Γ, slotOk (b0 :: b1 :: b2 :: b3 :: b4 :: b5 :: .c x :: Γ) 6 = true := fun _ _ _ _ _ _ _ _ => rfl
    generalize rowsD rows = W5 at *
    generalize rowsD R.1 = W6 at *
    have frz2 : frz Y2 = some (.list (ts.map pD)) := by
      rw [← hY, lT_mpT]; exact mpT_frz pD _
    refine Run.forM (c := pD) (xs := ts) (Γ1 := [.s ns, t5, .c (.int k), .c (netD N), .c (hD h), .c W5, .c W6, j7, j8, .gone])
      (fun i Γ => ∃ j7 j8, Γ = [.s ns, t5, .c (.int k), .c (netD N), .c (hD h), .c W5, .c W6, j7, j8, .gone]) ?_ ⟨_, _, rfl⟩ ?_ ?_
    · rw [p_lzp] at lzp
      simp [ok5, ok6, em, lzp, tk, frz2, st]
      rw [← hY]
      rfl
    · rintro i pq Γ hi ⟨j7, j8, rfl⟩
      have oq := ozt pq (List.mem_of_getElem? hi)
      refine ⟨[.s ns, t5, .c (.int k), .c (netD N), .c (hD h), .c W5, .c W6, .c (hD pq.1), .c (hD pq.2), .gone], rfl, ?_⟩
      have e8 := q5 N (hD pq.1) on
      refine Run.skip (Γ1 := [.s ns, t5, .c (.int k), .c (netD N), .c (hD h), .c W5, .c W6, .c (hD pq.1), .c (hD pq.2), .gone]) ?_ (Run.nil ⟨_, _, rfl⟩)
      by_cases hP : LinesP N 1000000000 (hD pq.1)
      · rw [tr_t hP] at e8
        obtain ⟨h', eh, oh'⟩ := hP
        have eh' : pq.1 = h' := hD_inj eh
        have e9 := q6 N pq.1 pq.2 on (by rw [eh']; exact oh') oq
        simp [f5, e8, f6, e9]
      · rw [tr_f hP] at e8
        simp [f5, e8]
    · rintro Γ ⟨j7, j8, rfl⟩
      exact Run.nil ⟨t5, _, rfl, rfl, ht5.mono (by omega)⟩
theorem hrun : ∀ ns : List Int, ns.length ≤ 63 → (∀ z ∈ ns, PySem.Builtin.Int.intBits z ≤ 1048576) → ∃ os, runDef (genv (glI gls) ds) d_law.N.length d_law.ps d_law.body [.s ns] = some (.ok (bT true) os) := by
  intro ns _ _
  obtain ⟨Γ, e⟩ := w_law (F := Gt 0) (ns := ns) ⟨_, by kernel_rfl, s_law_b_take ns⟩ ⟨_, by kernel_rfl, s_law_b_net ns⟩ ⟨_, by kernel_rfl, s_law_b_heaps ns⟩ ⟨_, by kernel_rfl, s_law_b_comers ns⟩ ⟨_, by kernel_rfl, s_run⟩ ⟨_, by kernel_rfl, s_are_heaps⟩ ⟨_, by kernel_rfl, s_law_b_beat_right⟩
  exact ⟨_, run_rt (n := 10) (ps := [false]) (ts := [.s ns]) (Γ := Γ) rfl (by decide) e⟩
end Hg
namespace Hg
open PySem PySem.Spec PyProof.Rows L2 Hw
theorem glIn {K : PySem.W.Frag} {x : Str} {i : Int} {t : Tok} (h : PySem.W.nsIn K mainGlobals x = some (some (.int i t))) : ∃ t, PySem.W.nsIn K mainGlobals x = some (some (.int i t)) := ⟨t, h⟩
theorem ds_ok : ∀ d ∈ d_law :: ds, dOk xc d = true := List.all_eq_true.mp (by decide +kernel)
end Hg
open PySem PySem.W PyProof.Rows
set_option maxHeartbeats 0 in
theorem PySem.Challenge.cw_heapward_k14_whole_squares_rise_no_more_holds : PySem.Challenge.rw_heapward_k14_whole_squares_rise_no_more.Holds := by
  w_on; o_law; k_head; (case hw => w_witness2)
  k_fill
  refine Hq.walk_G (l := PySem.Challenge.rw_heapward_k14_whole_squares_rise_no_more) (n := 63) (k := 44) (x := "script") (sp := fun w => Hw.spLaw _) rfl (by decide) rfl ⟨rfl, by decide, by decide⟩ (fun w h Y => PySem.W.kIn_of Y) ?F (fun _ _ a ns hl hb _ hS => ⟨a, ns, rfl, hS, hl, hb, fun _ => rfl⟩)
  case F =>
    intro w mg fa h KX G hmg
    refine' Hw.law_mk KX G hmg (Hw.glI Hg.gls) Hg.xc Hg.d_law Hg.ds (Hw.gls_of (l := Hg.gls) ?G) Hg.ds_ok rfl rfl Hg.hrun ?D ?B (Hw.ExsIn.at (xs := Hg.xc.exs) ?E) (Hw.ClsIn.at (xs := Hg.xc.cls) ?CL) (Hw.XisIn.at (xs := Hg.xc.tr) ?XI)
    case D =>
      refine' ⟨Hw.defIn ?a0 ?l0 ?c0 ?k0 (fun _ _ _ _ _ _ us hl => match us, hl with | [_], _ => rfl), Hw.defIn ?a1 ?l1 ?c1 ?k1 (fun _ _ _ _ _ _ us hl => match us, hl with | [_, _, _], _ => rfl), Hw.defIn ?a2 ?l2 ?c2 ?k2 (fun _ _ _ _ _ _ us hl => match us, hl with | [_, _], _ => rfl), Hw.defIn ?a3 ?l3 ?c3 ?k3 (fun _ _ _ _ _ _ us hl => match us, hl with | [_, _], _ => rfl), Hw.defIn ?a4 ?l4 ?c4 ?k4 (fun _ _ _ _ _ _ us hl => match us, hl with | [_, _, _], _ => rfl), Hw.defIn ?a5 ?l5 ?c5 ?k5 (fun _ _ _ _ _ _ us hl => match us, hl with | [_, _, _], _ => rfl), Hw.defIn ?a6 ?l6 ?c6 ?k6 (fun _ _ _ _ _ _ us hl => match us, hl with | [_, _], _ => rfl), Hw.defIn ?a7 ?l7 ?c7 ?k7 (fun _ _ _ _ _ _ us hl => match us, hl with | [_, _], _ => rfl), Hw.defIn ?a8 ?l8 ?c8 ?k8 (fun _ _ _ _ _ _ us hl => match us, hl with | [_, _, _], _ => rfl), Hw.defIn ?a9 ?l9 ?c9 ?k9 (fun _ _ _ _ _ _ us hl => match us, hl with | [_, _], _ => rfl), Hw.defIn ?a10 ?l10 ?c10 ?k10 (fun _ _ _ _ _ _ us hl => match us, hl with | [_, _, _], _ => rfl), Hw.defIn ?a11 ?l11 ?c11 ?k11 (fun _ _ _ _ _ _ us hl => match us, hl with | [_, _], _ => rfl), Hw.defIn ?a12 ?l12 ?c12 ?k12 (fun _ _ _ _ _ _ us hl => match us, hl with | [_, _], _ => rfl), Hw.defIn ?a13 ?l13 ?c13 ?k13 (fun _ _ _ _ _ _ us hl => match us, hl with | [_, _, _], _ => rfl), Hw.defIn ?a14 ?l14 ?c14 ?k14 (fun _ _ _ _ _ _ us hl => match us, hl with | [_, _], _ => rfl), Hw.defIn ?a15 ?l15 ?c15 ?k15 (fun _ _ _ _ _ _ us hl => match us, hl with | [_, _, _], _ => rfl), Hw.defIn ?a16 ?l16 ?c16 ?k16 (fun _ _ _ _ _ _ us hl => match us, hl with | [_, _, _, _, _], _ => rfl), Hw.defIn ?a17 ?l17 ?c17 ?k17 (fun _ _ _ _ _ _ us hl => match us, hl with | [_, _, _], _ => rfl), Hw.defIn ?a18 ?l18 ?c18 ?k18 (fun _ _ _ _ _ _ us hl => match us, hl with | [_, _, _], _ => rfl), Hw.defIn ?a19 ?l19 ?c19 ?k19 (fun _ _ _ _ _ _ us hl => match us, hl with | [_, _], _ => rfl), Hw.defIn ?a20 ?l20 ?c20 ?k20 (fun _ _ _ _ _ _ us hl => match us, hl with | [_, _], _ => rfl), Hw.defIn ?a21 ?l21 ?c21 ?k21 (fun _ _ _ _ _ _ us hl => match us, hl with | [_], _ => rfl), Hw.defIn ?a22 ?l22 ?c22 ?k22 (fun _ _ _ _ _ _ us hl => match us, hl with | [_, _, _], _ => rfl), Hw.defIn ?a23 ?l23 ?c23 ?k23 (fun _ _ _ _ _ _ us hl => match us, hl with | [_, _, _, _], _ => rfl), Hw.defIn ?a24 ?l24 ?c24 ?k24 (fun _ _ _ _ _ _ us hl => match us, hl with | [_, _], _ => rfl), Hw.defIn ?a25 ?l25 ?c25 ?k25 (fun _ _ _ _ _ _ us hl => match us, hl with | [_, _, _], _ => rfl), Hw.defIn ?a26 ?l26 ?c26 ?k26 (fun _ _ _ _ _ _ us hl => match us, hl with | [_, _, _], _ => rfl), Hw.defIn ?a27 ?l27 ?c27 ?k27 (fun _ _ _ _ _ _ us hl => match us, hl with | [_, _, _], _ => rfl), Hw.defIn ?a28 ?l28 ?c28 ?k28 (fun _ _ _ _ _ _ us hl => match us, hl with | [_, _], _ => rfl), Hw.defIn ?a29 ?l29 ?c29 ?k29 (fun _ _ _ _ _ _ us hl => match us, hl with | [_, _, _], _ => rfl), Hw.defIn ?a30 ?l30 ?c30 ?k30 (fun _ _ _ _ _ _ us hl => match us, hl with | [_], _ => rfl), Hw.defIn ?a31 ?l31 ?c31 ?k31 (fun _ _ _ _ _ _ us hl => match us, hl with | [_, _], _ => rfl), Hw.defIn ?a32 ?l32 ?c32 ?k32 (fun _ _ _ _ _ _ us hl => match us, hl with | [_, _, _], _ => rfl), Hw.defIn ?a33 ?l33 ?c33 ?k33 (fun _ _ _ _ _ _ us hl => match us, hl with | [_, _], _ => rfl), Hw.defIn ?a34 ?l34 ?c34 ?k34 (fun _ _ _ _ _ _ us hl => match us, hl with | [_, _], _ => rfl), Hw.defIn ?a35 ?l35 ?c35 ?k35 (fun _ _ _ _ _ _ us hl => match us, hl with | [_, _], _ => rfl), Hw.defIn ?a36 ?l36 ?c36 ?k36 (fun _ _ _ _ _ _ us hl => match us, hl with | [_, _, _], _ => rfl), Hw.defIn ?a37 ?l37 ?c37 ?k37 (fun _ _ _ _ _ _ us hl => match us, hl with | [_, _, _, _], _ => rfl), Hw.defIn ?a38 ?l38 ?c38 ?k38 (fun _ _ _ _ _ _ us hl => match us, hl with | [_], _ => rfl), Hw.defIn ?a39 ?l39 ?c39 ?k39 (fun _ _ _ _ _ _ us hl => match us, hl with | [_], _ => rfl), Hw.defIn ?a40 ?l40 ?c40 ?k40 (fun _ _ _ _ _ _ us hl => match us, hl with | [_, _], _ => rfl), Hw.defIn ?a41 ?l41 ?c41 ?k41 (fun _ _ _ _ _ _ us hl => match us, hl with | [_, _], _ => rfl), Hw.defIn ?a42 ?l42 ?c42 ?k42 (fun _ _ _ _ _ _ us hl => match us, hl with | [_, _], _ => rfl), Hw.defIn ?a43 ?l43 ?c43 ?k43 (fun _ _ _ _ _ _ us hl => match us, hl with | [_, _, _], _ => rfl), trivial⟩
      (case a0 => k_is); (case l0 => k_is); (case c0 => k_is); (case k0 => k_is); (case a1 => k_is); (case l1 => k_is); (case c1 => k_is); (case k1 => k_is); (case a2 => k_is); (case l2 => k_is); (case c2 => k_is); (case k2 => k_is); (case a3 => k_is); (case l3 => k_is); (case c3 => k_is); (case k3 => k_is); (case a4 => k_is); (case l4 => k_is); (case c4 => k_is); (case k4 => k_is); (case a5 => k_is); (case l5 => k_is); (case c5 => k_is); (case k5 => k_is); (case a6 => k_is); (case l6 => k_is); (case c6 => k_is); (case k6 => k_is); (case a7 => k_is); (case l7 => k_is); (case c7 => k_is); (case k7 => k_is); (case a8 => k_is); (case l8 => k_is); (case c8 => k_is); (case k8 => k_is); (case a9 => k_is); (case l9 => k_is); (case c9 => k_is); (case k9 => k_is); (case a10 => k_is); (case l10 => k_is); (case c10 => k_is); (case k10 => k_is); (case a11 => k_is); (case l11 => k_is); (case c11 => k_is); (case k11 => k_is); (case a12 => k_is); (case l12 => k_is); (case c12 => k_is); (case k12 => k_is); (case a13 => k_is); (case l13 => k_is); (case c13 => k_is); (case k13 => k_is); (case a14 => k_is); (case l14 => k_is); (case c14 => k_is); (case k14 => k_is); (case a15 => k_is); (case l15 => k_is); (case c15 => k_is); (case k15 => k_is); (case a16 => k_is); (case l16 => k_is); (case c16 => k_is); (case k16 => k_is); (case a17 => k_is); (case l17 => k_is); (case c17 => k_is); (case k17 => k_is); (case a18 => k_is); (case l18 => k_is); (case c18 => k_is); (case k18 => k_is); (case a19 => k_is); (case l19 => k_is); (case c19 => k_is); (case k19 => k_is); (case a20 => k_is); (case l20 => k_is); (case c20 => k_is); (case k20 => k_is); (case a21 => k_is); (case l21 => k_is); (case c21 => k_is); (case k21 => k_is); (case a22 => k_is); (case l22 => k_is); (case c22 => k_is); (case k22 => k_is); (case a23 => k_is); (case l23 => k_is); (case c23 => k_is); (case k23 => k_is); (case a24 => k_is); (case l24 => k_is); (case c24 => k_is); (case k24 => k_is); (case a25 => k_is); (case l25 => k_is); (case c25 => k_is); (case k25 => k_is); (case a26 => k_is); (case l26 => k_is); (case c26 => k_is); (case k26 => k_is); (case a27 => k_is); (case l27 => k_is); (case c27 => k_is); (case k27 => k_is); (case a28 => k_is); (case l28 => k_is); (case c28 => k_is); (case k28 => k_is); (case a29 => k_is); (case l29 => k_is); (case c29 => k_is); (case k29 => k_is); (case a30 => k_is); (case l30 => k_is); (case c30 => k_is); (case k30 => k_is); (case a31 => k_is); (case l31 => k_is); (case c31 => k_is); (case k31 => k_is); (case a32 => k_is); (case l32 => k_is); (case c32 => k_is); (case k32 => k_is); (case a33 => k_is); (case l33 => k_is); (case c33 => k_is); (case k33 => k_is); (case a34 => k_is); (case l34 => k_is); (case c34 => k_is); (case k34 => k_is); (case a35 => k_is); (case l35 => k_is); (case c35 => k_is); (case k35 => k_is); (case a36 => k_is); (case l36 => k_is); (case c36 => k_is); (case k36 => k_is); (case a37 => k_is); (case l37 => k_is); (case c37 => k_is); (case k37 => k_is); (case a38 => k_is); (case l38 => k_is); (case c38 => k_is); (case k38 => k_is); (case a39 => k_is); (case l39 => k_is); (case c39 => k_is); (case k39 => k_is); (case a40 => k_is); (case l40 => k_is); (case c40 => k_is); (case k40 => k_is); (case a41 => k_is); (case l41 => k_is); (case c41 => k_is); (case k41 => k_is); (case a42 => k_is); (case l42 => k_is); (case c42 => k_is); (case k42 => k_is); (case a43 => k_is); (case l43 => k_is); (case c43 => k_is); (case k43 => k_is)
    case B =>
      refine' ⟨?z0, ?z1, ?z2, ?z3, ?z4, ?z5, ?z6, ?z7, ?z8, ?z9, ?z10, ?z11, ?z12, ?z13, ?z14, ?z15, ?z16, ?z17, ?z18, ?z19, ?z20, trivial⟩
      (case z0 => k_is); (case z1 => k_is); (case z2 => k_is); (case z3 => k_is); (case z4 => k_is); (case z5 => k_is); (case z6 => k_is); (case z7 => k_is); (case z8 => k_is); (case z9 => k_is); (case z10 => k_is); (case z11 => k_is); (case z12 => k_is); (case z13 => k_is); (case z14 => k_is); (case z15 => k_is); (case z16 => k_is); (case z17 => k_is); (case z18 => k_is); (case z19 => k_is); (case z20 => k_is)
    case G =>
      refine' ⟨Hg.glIn ?hwg0, Hg.glIn ?hwg1, Hg.glIn ?hwg2, Hg.glIn ?hwg3, Hg.glIn ?hwg4, Hg.glIn ?hwg5, trivial⟩
      (case hwg0 => k_is)
      (case hwg1 => k_is)
      (case hwg2 => k_is)
      (case hwg3 => k_is)
      (case hwg4 => k_is)
      (case hwg5 => k_is)
    case E =>
      refine' ⟨Hw.exIn ?hweg0 ?hweq0 ?hwek0 ?hweb0 ?hwet0, Hw.exIn ?hweg1 ?hweq1 ?hwek1 ?hweb1 ?hwet1, Hw.exIn ?hweg2 ?hweq2 ?hwek2 ?hweb2 ?hwet2, Hw.exIn ?hweg3 ?hweq3 ?hwek3 ?hweb3 ?hwet3, Hw.exIn ?hweg4 ?hweq4 ?hwek4 ?hweb4 ?hwet4, Hw.exIn ?hweg5 ?hweq5 ?hwek5 ?hweb5 ?hwet5, trivial⟩
      (case hweg0 => k_is); (case hweq0 => k_exc); (case hwek0 => k_is); (case hweb0 => k_is); (case hwet0 => k_is)
      (case hweg1 => k_is); (case hweq1 => k_exc); (case hwek1 => k_is); (case hweb1 => k_is); (case hwet1 => k_is)
      (case hweg2 => k_is); (case hweq2 => k_exc); (case hwek2 => k_is); (case hweb2 => k_is); (case hwet2 => k_is)
      (case hweg3 => k_is); (case hweq3 => k_exc); (case hwek3 => k_is); (case hweb3 => k_is); (case hwet3 => k_is)
      (case hweg4 => k_is); (case hweq4 => k_exc); (case hwek4 => k_is); (case hweb4 => k_is); (case hwet4 => k_is)
      (case hweg5 => k_is); (case hweq5 => k_exc); (case hwek5 => k_is); (case hweb5 => k_is); (case hwet5 => k_is)
    case CL =>
      exact trivial
    case XI =>
      exact trivial
