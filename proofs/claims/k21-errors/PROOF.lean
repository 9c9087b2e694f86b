import PyProof.Rows.All
import Wide.All
import OpenK.AllK
import Wide.FinOn
import KE.KStateDown
import HandS.ForMost
import HandS.ForSpec
import HandS.More
import HandS.Defaults
import HandS.Lambda
import HandS.HotCalls
import HandS.IsInst
import HandS.Deep
import HandS.TupMul
import HandS.TupAny
import HandS.TupLen
import HandS.Conv
import HandS.HeadHook1
import HandS.Wide
import HandS.Style
import KE.GoesMore
import KE.DatumOrd
import HandS.SortInts
import KE.GoesComp
import KE.KAsSuite
import HandS.HeadWalk
import HandS.ExcIs
import HandS.HeadHook4
import HandS.ExcValue
import HandS.Head0
import HandS.Head1
import HandS.Head2
import HandS.HeadEnd
import HandS.HeadHook2
import PySem.Challenge.RW_sparewear_k21_errors_apart
set_option Elab.async false
set_option linter.all false
set_option maxRecDepth 100000
set_option maxHeartbeats 4000000
/-! dict keys that are a pair of a tuple of ints and an int -/
namespace PySem
open L2
abbrev NKey := List Int × Int
def inlK (ws : List Int) : List Key := ws.map Sum.inl
def nHash (k : NKey) : Int := reduceHash (Builtin.Tuple.tupleHashOf [reduceHash (Builtin.Tuple.tupleHashOf (k.1.map hashInt)), hashInt k.2])
section
variable {prog : Program} {w : World}
theorem tup_hash (ws : List Int) : tupleKeyHash (mixKind prog w) (inlK ws) = reduceHash (Builtin.Tuple.tupleHashOf (ws.map hashInt)) := by
  unfold tupleKeyHash inlK
  rw [List.map_map]
  rfl
theorem inlK_inj {a b : List Int} (h : inlK a = inlK b) : a = b := by
  unfold inlK at h
  induction a generalizing b with
  | nil => cases b with | nil => rfl | cons x y => cases h
  | cons i a ih =>
    cases b with
    | nil => cases h
    | cons j b =>
      rw [List.map_cons, List.map_cons] at h
      injection h with h1 h2
      rw [Sum.inl.inj h1, ih h2]
def IsNKey (prog : Program) (w : World) (h : Heap) (k : NKey) (a : Addr) : Prop := ∃ o items n b t, h.get? a = some o ∧ o.cls = .type "tuple" ∧ o.data = .seq items n ∧ items.toList = [.ref b, .int k.2 t] ∧ IsTupleKey (mixKind prog w) h (inlK k.1) b
theorem IsNKey.typeIs {s : Shared} {k : NKey} {a : Addr} (x : IsNKey prog w s.heap k a) : s.TypeIs (.ref a) "tuple" := let ⟨o, _, _, _, _, ho, hc, _⟩ := x; ⟨o, ho, hc⟩
theorem IsNKey.inj {h : Heap} {a : Addr} {x y : NKey} (hx : IsNKey prog w h x a) (hy : IsNKey prog w h y a) : x = y := by
  obtain ⟨o, items, n, b, t, ho, _, hd, hi, hk⟩ := hx
  obtain ⟨o', items', n', b', t', ho', _, hd', hi', hk'⟩ := hy
  obtain rfl : o = o' := Option.some.inj (ho.symm.trans ho')
  rw [hd] at hd'
  injection hd' with h1 _
  subst h1
  rw [hi] at hi'
  injection hi' with e1 e2
  injection e1 with e1
  injection e2 with e2 _
  injection e2 with e2 _
  subst e1
  exact Prod.ext (inlK_inj (hk.inj hk')) e2
theorem IsNKey.keeps {h h' : Heap} {k : NKey} {a d : Addr} {o : Obj} {es ep} (x : IsNKey prog w h k a) (ho : h.get? d = some o) (hd : o.data = .dict es ep) (hs : Heap.SameBut d h h') : IsNKey prog w h' k a := by
  obtain ⟨o', items, n, b, t, ho', hc, hd', hi, hk⟩ := x
  have hne : a ≠ d := by
    rintro rfl
    obtain rfl : o' = o := Option.some.inj (ho'.symm.trans ho)
    rw [hd] at hd'; exact nomatch hd'
  exact ⟨o', items, n, b, t, (hs.2 a hne).trans ho', hc, hd', hi, hk.keeps ho hd hs⟩
variable {A : Around} {E : Value → Shared → Prop} {s : Shared}
theorem wpAny_pyHash_nkey {k : NKey} {a : Addr} {Q : Int → Shared → Prop} (hu : A.units + 1 < cLine) (hk : IsNKey prog w s.heap k a) (h : Q (nHash k) { s with toks := s.toks + (k.1.length + 3) }) :
    wpAny (model prog w) A (pyHash (.ref a)) Q E s := by
  have hT := hk.typeIs
  obtain ⟨o, items, n, b, t, ho, _, hd, hi, hkb⟩ := hk
  unfold pyHash
  first | unfold pyHashByItsType | skip
  first | refine wpAny_bind (wpAny_cRoomFor_or (.inr (by omega)) ?_) | skip
  refine wpAny_bind (wpAny_specialOf hT F.slot_tuple_hash.lookup ?_)
  show wpAny _ _ (if (some (Value.builtin "tuple.__hash__") == some Value.none) = true then _ else _) Q E s
  rw [if_neg (by rw [beq_builtin_none]; exact Bool.false_ne_true)]
  refine wpAny_bind (wpAny_specialOf hT F.slot_tuple_hash.lookup ?_)
  show wpAny _ _ (callSpecialIfBoundUnlessNone? (.ref a) "__hash__" _ >>= _) Q E s
  refine wpAny_bind (wpAny_callSpecialIfBoundUnlessNone?_slot hT F.slot_tuple_hash (wpAny_call_entry F.slot_tuple_hash hT F.entry_tuple_hash ?_ (F.args_tuple_hash_1 _)))
  show wpAny _ _ (Builtin.Tuple.tupleItemsOf (.ref a) >>= _) _ _ s
  refine wpAny_bind (wpAny_tupleItemsOf ho hd ?_)
  refine wpAny_bind ?_
  rw [← Array.forIn_toList]
  refine wpAny_forIn_list _
    (fun rest (acc : Array Int) s' => (rest = [.ref b, .int k.2 t] ∧ acc.toList = [] ∧ s' = s) ∨ (rest = [.int k.2 t] ∧ acc.toList = [reduceHash (Builtin.Tuple.tupleHashOf (k.1.map hashInt))] ∧ s' = { s with toks := s.toks + (k.1.length + 1) }) ∨ (rest = [] ∧ acc.toList = [reduceHash (Builtin.Tuple.tupleHashOf (k.1.map hashInt)), hashInt k.2] ∧ s' = { s with toks := s.toks + (k.1.length + 2) }))
    _ ?_ ?_ _ _ (.inl ⟨hi, rfl, rfl⟩)
  · rintro x rest acc s' (⟨e1, e2, rfl⟩ | ⟨e1, e2, rfl⟩ | ⟨e1, _⟩)
    · injection e1 with e1 e3
      subst e1 e3
      refine wpAny_bind (wpAny_pyHash_tuple (knd := mixKind prog w) (ks := inlK k.1) (by first | exact hu | (show _ < _; simp only [Around.in1]; omega)) hkb ?_)
      rw [tup_hash]
      have hl : (inlK k.1).length = k.1.length := by unfold inlK; simp
      rw [hl]
      first
        | exact wpAny_pure (.inr (.inl ⟨rfl, by simp [e2], rfl⟩))
        | exact wpAny_bind (wpAny_pure (wpAny_pure (.inr (.inl ⟨rfl, by simp [e2], rfl⟩))))
    · injection e1 with e1 e3
      subst e1 e3
      refine wpAny_bind (wpAny_pyHash_int ?_)
      first
        | exact wpAny_pure (.inr (.inr ⟨rfl, by simp [e2], by simp [Nat.add_assoc]⟩))
        | exact wpAny_bind (wpAny_pure (wpAny_pure (.inr (.inr ⟨rfl, by simp [e2], by simp [Nat.add_assoc]⟩))))
    · cases e1
  · rintro acc s' (⟨e1, _⟩ | ⟨e1, _⟩ | ⟨_, e2, rfl⟩)
    · cases e1
    · cases e1
    show wpAny _ _ (retInt (Builtin.Tuple.tupleHashOf acc.toList)) _ _ _
    rw [e2]
    refine wpAny_ret_mkInt ?_
    generalize hz : Builtin.Tuple.tupleHashOf [reduceHash (Builtin.Tuple.tupleHashOf (k.1.map hashInt)), hashInt k.2] = z
    have hn : nHash k = reduceHash z := by unfold nHash; rw [hz]
    rw [hn] at h
    show wpAny _ _ (if (decide (-(2 : Int) ^ 63 ≤ z) && decide (z < 2 ^ 63)) = true then _ else _) Q E _
    unfold reduceHash at h
    by_cases hr : (decide (-(2 : Int) ^ 63 ≤ z) && decide (z < 2 ^ 63)) = true
    · rw [if_pos hr]
      rw [if_pos hr] at h
      exact wpAny_pure (by simpa [Nat.add_assoc] using h)
    · rw [if_neg hr]
      rw [if_neg hr] at h
      exact wpAny_bind (wpAny_rule (wpAny_pure (by simpa [Nat.add_assoc] using h)))
theorem nkey_eq_tree {x y : NKey} {a b : Addr} {P : Fin → Shared → Prop} (hu : A.units < cLine) (hx : IsNKey prog w s.heap x a) (hy : IsNKey prog w s.heap y b) (h : P (.done (.ret (.bool (decide (x = y))))) s) :
    wpAny (model prog w) A (Builtin.«tuple.__eq__» ⟨[.ref a, .ref b], []⟩) P E s := by
  have hTb := hy.typeIs
  obtain ⟨oa, xs, na, ba, ta, hoa, _, hda, hia, hka⟩ := hx
  obtain ⟨ob, ys, nb, bb, tb, hob, _, hdb, hib, hkb⟩ := hy
  show wpAny _ _ (isInstance (.ref b) (.type "tuple") >>= _) _ _ s
  refine wpAny_bind (wpAny_isInstance hTb isSubtype_tuple_tuple ?_)
  simp only [Bool.not_true, Bool.false_eq_true, if_false]
  refine wpAny_bind (wpAny_tupleItemsOf hoa hda ?_)
  refine wpAny_bind (wpAny_tupleItemsOf hob hdb ?_)
  have hsz : (xs.size == ys.size) = true := by
    have h1 : xs.size = 2 := by rw [← Array.length_toList, hia]; rfl
    have h2 : ys.size = 2 := by rw [← Array.length_toList, hib]; rfl
    rw [h1, h2]; rfl
  rw [hia, hib]
  refine wpAny_bind ?_
  refine wpAny_forIn_list _
    (fun rest r s' => r.1 = none ∧ s' = s ∧ ((rest = [(Value.ref ba, Value.ref bb), (.int x.2 ta, .int y.2 tb)]) ∨ (rest = [(.int x.2 ta, .int y.2 tb)] ∧ x.1 = y.1) ∨ (rest = [] ∧ x = y)))
    _ ?_ ?_ _ _ ⟨rfl, rfl, .inl rfl⟩
  · rintro ⟨u, v⟩ rest r s' ⟨hr, rfl, (e1 | ⟨e1, e2⟩ | ⟨e1, _⟩)⟩
    · injection e1 with e1 e3
      injection e1 with e4 e5
      subst e3 e4 e5
      refine wpAny_bind (wpAny_eqBool_tuple (knd := mixKind prog w) (by first | exact hu | (show _ < _; simp only [Around.in1]; omega)) hka hkb ?_)
      by_cases hk : x.1 = y.1
      · have : inlK x.1 = inlK y.1 := by rw [hk]
        rw [decide_eq_true this]
        simp only [Bool.not_true, Bool.false_eq_true, if_false]
        exact wpAny_pure ⟨rfl, rfl, .inr (.inl (by first | exact ⟨rfl, hk⟩ | exact ⟨trivial, hk⟩))⟩
      · have : ¬ inlK x.1 = inlK y.1 := fun z => hk (inlK_inj z)
        rw [decide_eq_false this]
        simp only [Bool.not_false, if_true]
        have hf : decide (x = y) = false := decide_eq_false fun z => hk (by rw [z])
        rw [hf] at h
        exact wpAny_bind (wpAny_pure (wpAny_pure (wpAny_pure h)))
    · injection e1 with e1 e3
      injection e1 with e4 e5
      subst e3 e4 e5
      refine wpAny_bind (wpAny_eqBool_int ?_)
      by_cases hk : x.2 = y.2
      · rw [show (x.2 == y.2) = true from beq_iff_eq.mpr hk]
        simp only [Bool.not_true, Bool.false_eq_true, if_false]
        exact wpAny_pure ⟨rfl, rfl, .inr (.inr (by first | exact ⟨rfl, Prod.ext e2 hk⟩ | exact ⟨trivial, Prod.ext e2 hk⟩))⟩
      · rw [show (x.2 == y.2) = false from beq_eq_false_iff_ne.mpr hk]
        simp only [Bool.not_false, if_true]
        have hf : decide (x = y) = false := decide_eq_false fun z => hk (by rw [z])
        rw [hf] at h
        exact wpAny_bind (wpAny_pure (wpAny_pure (wpAny_pure h)))
    · cases e1
  · rintro ⟨r1, r2⟩ s' ⟨hr, rfl, (e1 | ⟨e1, _⟩ | ⟨_, e2⟩)⟩
    · cases e1
    · cases e1
    simp only at hr
    subst hr
    refine wpAny_pure ?_
    show P (.done (.ret (.bool (xs.size == ys.size)))) s'
    rw [hsz]
    rw [decide_eq_true e2] at h
    exact h
theorem wpAny_eqBool_nkey {x y : NKey} {a b : Addr} {Q : Bool → Shared → Prop} (hu : A.units + 1 < cLine) (hx : IsNKey prog w s.heap x a) (hy : IsNKey prog w s.heap y b) (h : Q (decide (x = y)) s) :
    wpAny (model prog w) A (eqBool (.ref a) (.ref b)) Q E s := by
  unfold eqBool
  try with_reducible refine wpAny_holding ?_
  show wpAny _ _ (if (Value.ref a == Value.ref b) = true then _ else _) Q E s
  by_cases hab : (Value.ref a == Value.ref b) = true
  · rw [if_pos hab]
    have e : a = b := by have := eq_of_beq hab; injection this
    subst e
    obtain rfl := hx.inj hy
    exact wpAny_bind (wpAny_rule (wpAny_pure (by simpa using h)))
  · rw [if_neg hab]
    exact wpAny_bind (wpAny_richCompare_same_room (op := .Eq) hx.typeIs hy.typeIs F.slot_tuple_eq
      (wpAny_call_entry F.slot_tuple_eq hx.typeIs F.entry_tuple_eq (nkey_eq_tree (by first | exact hu | (show _ < _; simp only [Around.in1]; omega)) hx hy ⟨_, rfl, (fun e => nomatch e), wpAny_truthy_bool h⟩) (F.args_tuple_eq_2 _ _)) (by omega))
theorem quiet_tup {K : Type} [DecidableEq K] {knd : KeyKind prog w K} {ks : List K} {a : Addr} {Q : Bool → Shared → Prop} (n : Nat) (hk : IsTupleKey knd s.heap ks a) (h : Q true s) : wpAny (model prog w) A (eqIsQuiet (n + 1) (.ref a)) Q E s := by
  have hT := hk.typeIs
  obtain ⟨o, items, m, ho, _, hd, hi⟩ := hk
  unfold eqIsQuiet
  refine wpAny_bind (wpAny_specialOf hT F.slot_tuple_eq.lookup ?_)
  show wpAny _ _ (isInstance (.ref a) (.type "tuple") >>= _) _ _ s
  refine wpAny_bind (wpAny_isInstance hT isSubtype_tuple_tuple ?_)
  simp only [Bool.not_true, Bool.false_eq_true, if_false]
  refine wpAny_bind (wpAny_seqItems ho hd ?_)
  refine wpAny_bind ?_
  show wpAny _ _ (forIn items _ _) _ _ s
  rw [← Array.forIn_toList]
  refine wpAny_forIn_list _ (fun rest r s' => r.1 = none ∧ s' = s ∧ ∀ v ∈ rest, carriedByValue v = true) _ ?_ ?_ _ _ ⟨rfl, rfl, hi.byValue⟩
  · rintro v rest r s' ⟨hr, rfl, hall⟩
    rw [eqIsQuiet_byValue _ (hall v List.mem_cons_self)]
    refine wpAny_bind (wpAny_pure ?_)
    simp only [Bool.not_true, Bool.false_eq_true, if_false]
    exact wpAny_pure ⟨rfl, rfl, fun u hu' => hall u (List.mem_cons_of_mem _ hu')⟩
  · rintro ⟨r1, r2⟩ s' ⟨hr, rfl, _⟩
    simp only at hr
    subst hr
    exact wpAny_pure h
theorem wpAny_eqIsQuiet_nkey {k : NKey} {a : Addr} {Q : Bool → Shared → Prop} (hk : IsNKey prog w s.heap k a) (h : Q true s) : wpAny (model prog w) A (eqIsQuiet 8 (.ref a)) Q E s := by
  have hT := hk.typeIs
  obtain ⟨o, items, m, b, t, ho, _, hd, hi, hkb⟩ := hk
  unfold eqIsQuiet
  refine wpAny_bind (wpAny_specialOf hT F.slot_tuple_eq.lookup ?_)
  show wpAny _ _ (isInstance (.ref a) (.type "tuple") >>= _) _ _ s
  refine wpAny_bind (wpAny_isInstance hT isSubtype_tuple_tuple ?_)
  simp only [Bool.not_true, Bool.false_eq_true, if_false]
  refine wpAny_bind (wpAny_seqItems ho hd ?_)
  refine wpAny_bind ?_
  show wpAny _ _ (forIn items _ _) _ _ s
  rw [← Array.forIn_toList, hi]
  refine wpAny_forIn_list _ (fun rest r s' => r.1 = none ∧ s' = s ∧ ∀ v ∈ rest, v = .ref b ∨ carriedByValue v = true) _ ?_ ?_ _ _ ⟨rfl, rfl, fun v hv => ?_⟩
  · rintro v rest r s' ⟨hr, rfl, hall⟩
    rcases hall v List.mem_cons_self with e | e
    · subst e
      refine wpAny_bind (quiet_tup 6 hkb ?_)
      simp only [Bool.not_true, Bool.false_eq_true, if_false]
      exact wpAny_pure ⟨rfl, rfl, fun u hu' => hall u (List.mem_cons_of_mem _ hu')⟩
    · rw [eqIsQuiet_byValue _ e]
      refine wpAny_bind (wpAny_pure ?_)
      simp only [Bool.not_true, Bool.false_eq_true, if_false]
      exact wpAny_pure ⟨rfl, rfl, fun u hu' => hall u (List.mem_cons_of_mem _ hu')⟩
  · rintro ⟨r1, r2⟩ s' ⟨hr, rfl, _⟩
    simp only at hr
    subst hr
    exact wpAny_pure h
  · rcases List.mem_cons.mp hv with e | e
    · exact .inl e
    · right
      rw [List.mem_singleton.mp e]; rfl
def nestKind (prog : Program) (w : World) : HeapKind prog w NKey where
  is := IsNKey prog w
  hash := nHash
  draws := fun k => k.1.length + 3
  room := fun A => A.units + 1 < cLine
  inj := fun hx hy => hx.inj hy
  keeps := fun x ho hd hs => x.keeps ho hd hs
  pyHash := fun hu hk h => wpAny_pyHash_nkey hu hk h
  eqBool := fun hu hx hy h => wpAny_eqBool_nkey hu hx hy h
  quiet := fun hk h => wpAny_eqIsQuiet_nkey hk h
theorem nest_room (hu : A.units + 2 < cLine) : (nestKind prog w).room A.in1 := by
  show A.in1.units + 1 < cLine
  exact hu
end
end PySem

set_option maxHeartbeats 4000000
/-! dicts whose keys are pairs (tuple of ints, int): read, written, walked -/
namespace L2
open PySem PySem.Spec PyProof.Rows
abbrev NE (β : Type) := NKey × Addr × β
def entN (x : NE Value) : DictEntry := ⟨nHash x.1, .ref x.2.1, x.2.2⟩
abbrev NPair : List (NE V) → List (NE Value) → Prop := Paired fun p q => p.1 = q.1 ∧ p.2.1 = q.2.1 ∧ RelV p.2.2 q.2.2
def nFact (a : Addr) (ks : List (NE V)) (h : Heap) : Prop := ks.length ≤ sizeLine ∧ (a == sysModules) = false ∧ ∃ xs, NPair ks xs ∧ ∃ o es ep, h.get? a = some o ∧ o.ExactDict ∧ o.data = .dict es ep ∧ es.toList = xs.map entN ∧ (xs.map (·.1)).Nodup
/-- such a dict -/
def nst (a : Addr) (ks : List (NE V)) : HO := .ext (nFact a ks)
def KeyAt (H : Hp) (k : NKey) (b : Addr) : Prop := ∃ c, H b = some (.tup [.ref c, .int k.2]) ∧ H c = some (.tup (k.1.map V.int))
def KeysAt (H : Hp) (ks : List (NE V)) : Prop := ∀ p ∈ ks, KeyAt H p.1 p.2.1
def NRd (H : Hp) (a : Addr) (ks : List (NE V)) : Prop := (Rd H a (nst a ks) ∧ KeysAt H ks) ∨ (ks = [] ∧ Rd H a (.dT []))
def valN (ks : List (NE V)) (k : NKey) : Option V := (ks.find? fun p => decide (p.1 = k)).map (·.2.2)
def putN (ks : List (NE V)) (k : NKey) (b : Addr) (v : V) : List (NE V) :=
  if (valN ks k).isSome = true then ks.map (fun p => if p.1 = k then (p.1, p.2.1, v) else p) else ks ++ [(k, b, v)]
theorem valN_pos {p : NE V} {r : List (NE V)} {k : NKey} (e : p.1 = k) : valN (p :: r) k = some p.2.2 := by simp [valN, List.find?_cons, e]
theorem valN_neg {p : NE V} {r : List (NE V)} {k : NKey} (e : ¬ p.1 = k) : valN (p :: r) k = valN r k := by simp [valN, List.find?_cons, e]
theorem NPair.val {ks : List (NE V)} {xs : List (NE Value)} (r : NPair ks xs) (k : NKey) : RelO (valN ks k) ((atKey xs k).map (·.2)) := by
  induction r with
  | nil => exact True.intro
  | @cons p q ps qs h t ih =>
    obtain ⟨h1, _, h2⟩ := h
    by_cases e : p.1 = k
    · have e' : q.1 = k := h1.symm.trans e
      have b : atKey (q :: qs) k = some q.2 := by simp [atKey, List.find?_cons, e']
      rw [valN_pos e, b]; exact h2
    · have e' : ¬ q.1 = k := fun z => e (h1.trans z)
      have b : atKey (q :: qs) k = atKey qs k := by simp [atKey, List.find?_cons, e']
      rw [valN_neg e, b]; exact ih
theorem NPair.repl {ks : List (NE V)} {xs : List (NE Value)} (r : NPair ks xs) (k : NKey) {y : V} {u : Value} (ry : RelV y u) :
    NPair (ks.map fun p => if p.1 = k then (p.1, p.2.1, y) else p) (xs.map (putAt k u)) := by
  induction r with
  | nil => exact .nil
  | @cons p q ps qs h t ih =>
    rw [List.map_cons, List.map_cons]
    refine .cons ?_ ih
    obtain ⟨h1, h2, h3⟩ := h
    unfold putAt
    by_cases e : p.1 = k
    · rw [if_pos e, if_pos (h1.symm.trans e)]; exact ⟨h1, h2, ry⟩
    · rw [if_neg e, if_neg (fun z => e (h1.trans z))]; exact ⟨h1, h2, h3⟩
theorem NPair.put {ks : List (NE V)} {xs : List (NE Value)} (r : NPair ks xs) (k : NKey) (b : Addr) {y : V} {u : Value} (ry : RelV y u) : NPair (putN ks k b y) (storedH xs k b u) := by
  have e : (valN ks k).isSome = (atKey xs k).isSome := by
    rw [(r.val k).isSome_eq, Option.isSome_map]
  unfold putN storedH
  rw [e]
  by_cases q : (atKey xs k).isSome = true
  · rw [if_pos q, if_pos q]; exact r.repl k ry
  · rw [if_neg q, if_neg q]; exact Paired.snoc r ⟨rfl, rfl, ry⟩
theorem length_putN (ks : List (NE V)) (k : NKey) (b : Addr) (v : V) : (putN ks k b v).length ≤ ks.length + 1 := by
  unfold putN
  split
  · rw [List.length_map]; omega
  · rw [List.length_append, List.length_cons, List.length_nil]; omega
theorem KeysAt.put {H : Hp} {ks : List (NE V)} {k : NKey} {b : Addr} (h : KeysAt H ks) (hb : KeyAt H k b) (v : V) : KeysAt H (putN ks k b v) := by
  unfold putN
  split
  · intro p hp
    obtain ⟨q, hq, e⟩ := List.mem_map.mp hp
    subst e
    split
    · exact h q hq
    · exact h q hq
  · intro p hp
    rcases List.mem_append.mp hp with hp | hp
    · exact h p hp
    · rw [List.mem_singleton.mp hp]; exact hb
theorem KeyAt.mono {H H' : Hp} {k : NKey} {b : Addr} (h : KeyAt H k b) (s : ∀ b xs, H b = some (.tup xs) → H' b = some (.tup xs)) : KeyAt H' k b :=
  let ⟨c, h1, h2⟩ := h; ⟨c, s _ _ h1, s _ _ h2⟩
theorem KeysAt.mono {H H' : Hp} {ks : List (NE V)} (h : KeysAt H ks) (s : ∀ b xs, H b = some (.tup xs) → H' b = some (.tup xs)) : KeysAt H' ks := fun p hp => (h p hp).mono s
theorem nst_inj_ne {a : Addr} {ks : List (NE V)} {u : HO} (h : ∀ φ, u ≠ .ext φ) : nst a ks ≠ u := fun z => h _ z.symm
section
variable {P : Program} {w : World} {H : Hp} {h : Heap} {a b : Addr} {k : NKey} {ks : List (NE V)}
theorem nst_ok (f : nFact a ks h) : ObjOk P w H h a (nst a ks) := by
  refine ⟨f, ?_, ?_⟩
  · obtain ⟨_, _, _, _, o, _, _, e, _⟩ := f; exact ⟨o, e⟩
  · rintro h1 h2 ⟨z, y, xs, r, o, es, ep, e, c⟩ k
    exact ⟨z, y, xs, r, o, es, ep, k _ e, c⟩
theorem vals_intsN : ∀ {is : List Int} {us : List Value}, Vals (is.map V.int) us → ItemsAre (mixKind P w) (inlK is) us
  | [], _, r => by rw [List.map_nil] at r; cases r; exact .nil
  | i :: is, _, r => by
    rw [List.map_cons] at r
    cases r with
    | cons h t => exact .cons (kV_is (k := .inl i) h) (vals_intsN t)
theorem nkey_of (ok : HOk P w H h) (e : KeyAt H k b) : (nestKind P w).is h k b := by
  obtain ⟨c, e1, e2⟩ := e
  obtain ⟨_, its, r, o, h1, h2, n, h3⟩ := (show ObjOk P w H h b (.tup [.ref c, .int k.2]) from ok b _ e1)
  obtain ⟨_, its2, r2, o2, g1, g2, n2, g3⟩ := (show ObjOk P w H h c (.tup (k.1.map V.int)) from ok c _ e2)
  obtain ⟨u, v, eu, ru, rv⟩ := vals2 r
  subst eu
  obtain rfl : u = Value.ref c := ru
  obtain ⟨t, rfl⟩ := (show ∃ t, v = Value.int k.2 t from rv)
  exact ⟨o, _, n, c, t, h1, h2, h3, by simp, ⟨o2, its2.toArray, n2, g1, g2, g3, by simpa using vals_intsN r2⟩⟩
theorem n_rd (ok : HOk P w H h) (e : NRd H a ks) : ks.length ≤ sizeLine ∧ (a == sysModules) = false ∧ ∃ xs, NPair ks xs ∧ h.DictOfH (nestKind P w) a xs := by
  rcases e with ⟨e, hk⟩ | ⟨e0, e⟩
  · obtain ⟨⟨z, y, xs, r, o, es, ep, h1, h2, h3, h4, h5⟩, _⟩ := (show ObjOk P w H h a (nst a ks) from rd_of ok e)
    refine ⟨z, y, xs, r, o, es, ep, h1, h2, h3, h4, fun x hx => ?_, h5⟩
    have all : ∀ {l : List (NE V)} {m : List (NE Value)}, NPair l m → KeysAt H l → ∀ x ∈ m, (nestKind P w).is h x.1 x.2.1 := by
      intro l m q
      induction q with
      | nil => intro _ x hx; exact nomatch hx
      | @cons p q ps qs hq t ih =>
        intro hk x hx
        rcases List.mem_cons.mp hx with e | hx
        · subst e
          have := hk p List.mem_cons_self
          rw [hq.1, hq.2.1] at this
          exact nkey_of ok this
        · exact ih (fun p hp => hk p (List.mem_cons_of_mem _ hp)) x hx
    exact all r hk x hx
  · subst e0
    obtain ⟨z, y, xs, r, o, es, ep, h1, h2, h3, h4, h5⟩ := (show ObjOk P w H h a (.dT []) from rd_of ok e)
    cases r
    exact ⟨Nat.zero_le _, y, [], .nil, o, es, ep, h1, h2, h3, by rw [h4]; rfl, fun x hx => by simp at hx, List.nodup_nil⟩
end
def NGet (H : Hp) (a : Addr) (y : V) (r : Option V) : Prop := ∃ ks k b, NRd H a ks ∧ y = .ref b ∧ KeyAt H k b ∧ r = valN ks k
def NMay (H : Hp) (a : Addr) (ks : List (NE V)) : Prop := (H a = some (nst a ks) ∧ KeysAt H ks) ∨ (ks = [] ∧ H a = some (.dT []))
theorem NMay.rd {H : Hp} {a : Addr} {ks : List (NE V)} (h : NMay H a ks) : NRd H a ks := h.elim (fun z => .inl ⟨.inl z.1, z.2⟩) fun z => .inr ⟨z.1, .inl z.2⟩
/-- the heap behind a[y] = v -/
def NPut (H : Hp) (a : Addr) (y v : V) (H' : Hp) : Prop := ∃ ks k b, NMay H a ks ∧ y = .ref b ∧ KeyAt H k b ∧ ks.length < sizeLine ∧ H' = upd H a (nst a (putN ks k b v))
section
variable {X : Cx} {pins : List (Addr × Obj)} {σ : St} {H : Hp} {s : Shared} {a : Addr} {y v d : V} {u r : Value} {o : Option V} {A : Around} {E : Value → Shared → Prop}
theorem n_getItem {Q : Value → Shared → Prop} (hu : A.units + 2 < cLine) (I : Inv X pins σ H s) (g : NGet H a y (some v)) (ry : RelV y u) (h : ∀ w' s', Inv X pins σ H s' → RelV v w' → Q w' s') :
    wpAny (model X.prog X.w) A (getItem (.ref a) u) Q E s := by
  obtain ⟨ks, k, b, e, ey, eb, l⟩ := g
  subst ey
  cases (show u = Value.ref b from ry)
  obtain ⟨z, hd, xs, rel, dd⟩ := n_rd I.hok e
  obtain ⟨w', hw, rw'⟩ := RelO.some_of (v := v) (o := (atKey xs k).map (·.2)) (by rw [l]; exact rel.val k)
  obtain ⟨p, hp, hp2⟩ := Option.map_eq_some_iff.mp hw
  refine wpAny_getItem_heap (nest_room hu) (nkey_of I.hok eb) dd hp ?_
  rw [hp2]
  exact h w' _ (I.tok _) rw'
theorem n_in {Q : Value → Shared → Prop} (hu : A.units + 2 < cLine) (I : Inv X pins σ H s) (g : NGet H a y o) (ry : RelV y u) (h : ∀ s', Inv X pins σ H s' → Q (.bool o.isSome) s') :
    wpAny (model X.prog X.w) A (compareOp .In u (.ref a)) Q E s := by
  obtain ⟨ks, k, b, e, ey, eb, l⟩ := g
  subst ey
  cases (show u = Value.ref b from ry)
  obtain ⟨z, hd, xs, rel, dd⟩ := n_rd I.hok e
  refine wpAny_in_heap (nest_room hu) (nkey_of I.hok eb) hd dd ?_
  have q := (rel.val k).isSome_eq
  rw [Option.isSome_map] at q
  rw [← q, ← l]
  exact h _ (I.tok _)
theorem n_notIn {Q : Value → Shared → Prop} (hu : A.units + 2 < cLine) (I : Inv X pins σ H s) (g : NGet H a y o) (ry : RelV y u) (h : ∀ s', Inv X pins σ H s' → Q (.bool (!o.isSome)) s') :
    wpAny (model X.prog X.w) A (compareOp .NotIn u (.ref a)) Q E s := by
  obtain ⟨ks, k, b, e, ey, eb, l⟩ := g
  subst ey
  cases (show u = Value.ref b from ry)
  obtain ⟨z, hd, xs, rel, dd⟩ := n_rd I.hok e
  refine wpAny_notIn_heap (nest_room hu) (nkey_of I.hok eb) hd dd ?_
  have q := (rel.val k).isSome_eq
  rw [Option.isSome_map] at q
  rw [← q, ← l]
  exact h _ (I.tok _)
theorem n_get2 {Q : Value → Shared → Prop} (hu : A.units + 2 < cLine) (I : Inv X pins σ H s) (g : NGet H a y o) (ry : RelV y u) (rd : RelV d r) (h : ∀ w' s', Inv X pins σ H s' → RelV (o.getD d) w' → Q w' s') :
    wpAny (model X.prog X.w) A (call (.builtin "dict.get") [.ref a, u, r]) Q E s := by
  obtain ⟨ks, k, b, e, ey, eb, l⟩ := g
  subst ey
  cases (show u = Value.ref b from ry)
  obtain ⟨z, hd, xs, rel, dd⟩ := n_rd I.hok e
  refine call_meetsIn PySem.F.slot_dict_get dd.typeIs PySem.F.entry_dict_get (PySem.F.args_dict_get_3 _ _ _) (meetsH_dict_get_default (nestKind X.prog X.w) a b hd r) ⟨nest_room hu, k, xs, nkey_of I.hok eb, dd, h _ _ (I.tok _) ?_⟩
  rw [l]
  exact (rel.val k).getD rd
theorem n_setItem {H' : Hp} {Q : Unit → Shared → Prop} (hu : A.units + 2 < cLine) (I : Inv X pins σ H s) (g : NPut H a y v H') (ry : RelV y u) (rv : RelV v r) (h : ∀ s', Inv X pins σ H' s' → Q () s') :
    wpAny (model X.prog X.w) A (setItem (.ref a) u r) Q E s := by
  obtain ⟨ks, k, b, e, ey, eb, l, eH⟩ := g
  subst ey eH
  cases (show u = Value.ref b from ry)
  obtain ⟨z, hd, xs, rel, dd⟩ := n_rd I.hok e.rd
  have hz : xs.length ≤ sizeLine := by rw [← Paired.length rel]; exact z
  have hl : (putN ks k b v).length ≤ sizeLine := by have := length_putN ks k b v; omega
  refine wpAny_setItem_heap (hsz := hz) (nest_room hu) (nkey_of I.hok eb) dd fun h' dd' hs => h _ ?_
  obtain ⟨q, es, ep, hq, h2, h3, h4, _, h5⟩ := dd'
  refine d_write I ?_ hs ⟨q, hq⟩ (nst_ok ⟨hl, hd, _, rel.put k b rv, q, es, ep, hq, h2, h3, h4, h5⟩)
  rcases e with ⟨e, _⟩ | ⟨_, e⟩ <;> (rw [e]; exact True.intro)
theorem NRd.typeIs {ks : List (NE V)} (I : Inv X pins σ H s) (g : NRd H a ks) : s.TypeIs (.ref a) "dict" ∧ (∀ b, Value.ref a = .ref b → ∃ ob, s.heap.get? b = some ob ∧ ob.dict = none) ∧ (a == sysModules) = false := by
  obtain ⟨_, hd, xs, _, dd⟩ := n_rd I.hok g
  refine ⟨dd.typeIs, fun b q => ?_, hd⟩
  cases q
  obtain ⟨ob, _, _, h1, h2, _⟩ := dd
  exact ⟨ob, h1, h2.2.1⟩
end
/-- d[y], d of either kind -/
def EGet (H : Hp) (a : Addr) (y : V) (r : Option V) : Prop := DGet H a y r ∨ NGet H a y r
def EPut (H : Hp) (a : Addr) (y v : V) (H' : Hp) : Prop := DPut H a y v H' ∨ NPut H a y v H'
def EIs (H : Hp) (a : Addr) : Prop := IsD H a ∨ ∃ ks, NRd H a ks
def tEGet (td ty : TE) : TE := fun σ H Q => td σ H fun x H1 => ty σ H1 fun y H2 => ∃ a v, x = .ref a ∧ EGet H2 a y (some v) ∧ Q v H2
def tEGet2 (td ty tx : TE) : TE := fun σ H Q => td σ H fun x H1 => ∃ a, x = .ref a ∧ EIs H1 a ∧ ty σ H1 fun y H2 => tx σ H2 fun z H3 => ∃ o, EGet H3 a y o ∧ Q (o.getD z) H3
def sEPut (td ty tv : TE) : TS := fun D σ H => tv σ H fun v H1 => td σ H1 fun x H2 => ty σ H2 fun y H3 => ∃ a H4, x = .ref a ∧ EPut H3 a y v H4 ∧ D.nx σ H4
section
variable {X : Cx} {o i e f value : Expr} {pos pos' tpos apos cpos : Pos} {td ty tv tx : TE} {pins : List (Addr × Obj)} {σ : St} {H : Hp} {s : Shared} {a : Addr} {y : V} {ov : Option V}
theorem EGet.typeIs (I : Inv X pins σ H s) (g : EGet H a y ov) : s.TypeIs (.ref a) "dict" := g.elim (dict_typeIs I) fun ⟨ks, k, b, e, _⟩ => (e.typeIs I).1
theorem pe_eget (hu : X.A.units + 2 < cLine) (ho : PE X o td) (hi : PE X i ty) (hs : NoSl i) : PE X (.Subscript o i pos) (tEGet td ty) := by
  refine ⟨fun pins s σ H Q I h => ?_⟩
  refine subD_of PySem.F.slot_dict_getitem.lookup hs (thn (ho.run pins s σ H _ I h) fun u s1 ⟨x, H1, I1, rx, q1⟩ => thn (hi.run pins s1 σ H1 _ I1 q1) fun iv s2 ⟨y, H2, I2, ry, a, v, ex, g, q2⟩ => ?_)
  subst ex
  obtain rfl : u = Value.ref a := rx
  refine ⟨g.typeIs I2, ?_⟩
  rcases g with g | g
  · exact d_getItem (by omega) I2 g ry fun w' s3 I3 rw' => ⟨v, H2, I3, rw', q2⟩
  · exact n_getItem hu I2 g ry fun w' s3 I3 rw' => ⟨v, H2, I3, rw', q2⟩
theorem pe_eget2 (hu : X.A.units + 2 < cLine) (ho : PE X o td) (he : PE X e ty) (hf : PE X f tx) (m : M2 X o "get" apos e f cpos) : PE X (.Call (.Attribute o "get" apos) [e, f] [] cpos) (tEGet2 td ty tx) := by
  refine ⟨fun pins s σ H Q I h => ?_⟩
  refine wpAny_Call_method m.base m.few m.line PySem.F.plainAttrs_dict PySem.F.slot_dict_get PySem.F.type_dict_get (thn (ho.run pins s σ H _ I h) fun u s1 ⟨x, H1, I1, rx, a, ex, d, q1⟩ => ?_)
  subst ex
  obtain rfl : u = Value.ref a := rx
  obtain ⟨t1, t2, _⟩ : s1.TypeIs (.ref a) "dict" ∧ (∀ b, Value.ref a = .ref b → ∃ ob, s1.heap.get? b = some ob ∧ ob.dict = none) ∧ (a == sysModules) = false := d.elim (isD_at I1) fun ⟨ks, g⟩ => g.typeIs I1
  refine ⟨t1, t2, ?_⟩
  rw [m.trees]
  refine Calls.callWith_builtin rfl (Calls.evalArgs_plain (Calls.spliced_cons (thn (he.run pins s1 σ H1 _ I1 q1) fun iv s2 ⟨y, H2, I2, ry, q2⟩ =>
    Calls.spliced_cons (thn (hf.run pins s2 σ H2 _ I2 q2) fun fv s3 ⟨z, H3, I3, rz, ov, g, q3⟩ => Calls.spliced_nil ?_))))
  rcases g with g | g
  · exact d_get2 (by omega) I3 g ry rz fun w' s4 I4 rw' => ⟨_, H3, I4, rw', q3⟩
  · exact n_get2 hu I3 g ry rz fun w' s4 I4 rw' => ⟨_, H3, I4, rw', q3⟩
theorem ps_eput (hu : X.A.units + 2 < cLine) (ho : PE X o td) (hi : PE X i ty) (hv : PE X value tv) (hs : swapsWith value (some (.Subscript o i pos')) pos.line X.env = pure false) :
    PS X (.Assign [.Subscript o i pos'] value pos) (sEPut td ty tv) := by
  refine ⟨fun pins s σ H D I h => ?_⟩
  refine wpAny_Assign_Subscript (thn (hv.run pins s σ H _ I h) fun r s1 ⟨v, H1, I1, rv, q1⟩ => thn (ho.run pins s1 σ H1 _ I1 q1) fun u s2 ⟨x, H2, I2, rx, q2⟩ => thn (hi.run pins s2 σ H2 _ I2 q2) fun iv s3 ⟨y, H3, I3, ry, a, H4, ex, g, q3⟩ => ?_) hs
  subst ex
  obtain rfl : u = Value.ref a := rx
  rcases g with g | g
  · exact d_setItem (by omega) I3 g ry rv fun s4 I4 => ⟨σ, H4, I4, q3⟩
  · exact n_setItem hu I3 g ry rv fun s4 I4 => ⟨σ, H4, I4, q3⟩
end
/-! ### walks -/
/-- the keys, while the dict is locked -/
def Itn (d : Addr) (o : Obj) (ks : List (NE V)) : It :=
  ⟨fun i H => H d = some (.frz o (nst d ks)) ∧ KeysAt H ks ∧ i < ks.length, fun i H x H' => H' = H ∧ ∃ (p : NE V), ks[i]? = some p ∧ x = .ref p.2.1 ∧ KeyAt H p.1 p.2.1, fun i H => H d = some (.frz o (nst d ks)) ∧ KeysAt H ks ∧ ks.length ≤ i⟩
section
variable {X : Cx} {pins : List (Addr × Obj)} {σ : St} {H : Hp} {s : Shared} {d : Addr} {o : Obj} {ks : List (NE V)}
theorem npair_get : ∀ {ks : List (NE V)} {xs : List (NE Value)} {i : Nat} {p : NE V}, NPair ks xs → ks[i]? = some p → ∃ q, xs[i]? = some q ∧ p.1 = q.1 ∧ p.2.1 = q.2.1
  | _, _, _, _, .nil, h => by simp at h
  | _, _, 0, _, .cons h r, e => by simp at e; subst e; exact ⟨_, rfl, h.1, h.2.1⟩
  | _, _, i + 1, _, .cons h r, e => by
    obtain ⟨q, h1, h2⟩ := npair_get (i := i) r (by simpa using e)
    exact ⟨q, by simpa using h1, h2⟩
theorem Inv.frzN (I : Inv X pins σ H s) (h : H d = some (.frz o (nst d ks))) :
    (d == sysModules) = false ∧ s.heap.get? d = some o ∧ o.ExactDict ∧ ∃ es ep, o.data = .dict es ep ∧ es.size = ks.length ∧ ∀ (i : Nat) (p : NE V), ks[i]? = some p → ∃ en, es[i]? = some en ∧ en.key = .ref p.2.1 := by
  obtain ⟨hg, ⟨z, y, xs, r, o', es, ep, h1, h2, h3, h4, h5⟩, _⟩ := (show ObjOk X.prog X.w H s.heap d (.frz o (nst d ks)) from I.hok d _ h)
  obtain rfl : o = o' := Option.some.inj (hg.symm.trans h1)
  refine ⟨y, hg, h2, es, ep, h3, ?_, fun i p e => ?_⟩
  · rw [← Array.length_toList, h4, List.length_map, Paired.length r]
  · obtain ⟨q, e1, e2, e3⟩ := npair_get r e
    refine ⟨entN q, ?_, ?_⟩
    · rw [← Array.getElem?_toList, h4, List.getElem?_map, e1]; rfl
    · rw [e3]; rfl
end
section
variable {P : Program} {w : World} {K : PySem.W.Frag} {tg : Expr} {d : Addr} {o : Obj} {es : Array DictEntry} {ep : Nat}
theorem turn_keysN {ks : List (NE V)} (it : Addr) (hod : o.data = .dict es ep) : Turn P w K tg (Itn d o ks) [it] it (fun i h => h.IsKeyIter it d i ks.length ep) where
  mem := by simp
  obj := fun i h st b hb => by
    have e : b = it := by simpa using hb
    subst e
    obtain ⟨oi, e, c, dd⟩ := st
    exact ⟨oi, e, fun v z => by rw [dd] at z; cases z⟩
  keep := fun i h h' st k => st.at fun oi e => k it (by simp) oi e
  item := by
    intro X hP hw hK hc i pins s σ H E I hf st hg
    subst hP hw hK
    obtain ⟨hd, hka, hi⟩ := hg
    obtain ⟨f0, f1, f2, f3, f4, f5⟩ := hf it (by simp)
    obtain ⟨hs, hgd, hx, es', ep', hdt, hsz, ent⟩ := I.frzN hd
    obtain ⟨rfl, rfl⟩ := dict_ep hod hdt
    obtain ⟨p, hp⟩ : ∃ p, ks[i]? = some p := ⟨ks[i], List.getElem?_eq_getElem hi⟩
    obtain ⟨en, hen, hkey⟩ := ent i p hp
    refine next_key_item st hgd hdt hsz hen fun h' st' sb => ?_
    have I1 : Inv X pins σ H { s with heap := h' } := I.turned (t' := s.toks) (fun b ob hb e => (sb.2 b hb).trans e) f0 f1 f3 f4 f5
    obtain ⟨oi, e, c, dd⟩ := id st'
    exact ⟨en.key, rfl, go_of (s := { s with heap := h' }) e c dd (by decide) ⟨.ref p.2.1, H, I1, hkey, ⟨rfl, p, hp, rfl, hka p (List.mem_of_getElem? hp)⟩, st', fun b hb => (hf b hb).1⟩⟩
  done := by
    intro X hP hw hK hc i pins s σ H E I hf st hg
    subst hP hw hK
    obtain ⟨hd, _, hi⟩ := hg
    obtain ⟨f0, f1, f2, f3, f4, f5⟩ := hf it (by simp)
    obtain ⟨hs, hgd, hx, es', ep', hdt, hsz, ent⟩ := I.frzN hd
    obtain ⟨rfl, rfl⟩ := dict_ep hod hdt
    exact next_key_end (I.ok.hd hc) st hgd hdt hsz hi fun h' eb => ⟨rfl, I.turned (t' := s.toks) (fun b ob hb e => eb b ob hb e) f0 f1 f3 f4 f5⟩
  self := fun A i s Q E st h => by
    refine wpAny_pyIter_slot st.typeIs F.slot_dict_keyiterator_iter (wpAny_call_entry F.slot_dict_keyiterator_iter st.typeIs F.entry_dict_keyiterator_iter ?_ (F.args_dict_keyiterator_iter_1 _))
    show wpAny _ _ (ret (.ref it)) _ _ s
    exact wpAny_pure ⟨_, rfl, "dict_keyiterator", _, st.typeIs, F.slot_dict_keyiterator_next.lookup, h⟩
/-- the dict is locked; of either kind -/
def KJ (H : Hp) (d : Addr) (o : Obj) (J : It) : Prop := (∃ kvs, H d = some (.frz o (.dT kvs)) ∧ J = Itkt d o kvs) ∨ ∃ ks, H d = some (.frz o (nst d ks)) ∧ J = Itn d o ks
def iKeysE (td : TE) : TI := fun σ H R => td σ H fun x H1 => ∃ d o J, x = .ref d ∧ KJ H1 d o J ∧ R J H1
theorem pi_keysE {X : Cx} {e : Expr} {td : TE} (he : PE X e td) : PI X tg e (iKeysE td) := by
  refine ⟨fun pins s σ H R I h => ?_⟩
  refine thn (he.run pins s σ H _ I h) fun u s1 ⟨x, H1, I1, rx, d, o, J, ex, hJ, q⟩ => ?_
  subst ex
  obtain rfl : u = Value.ref d := rx
  rcases hJ with ⟨kvs, hd, e⟩ | ⟨kvs, hd, e⟩ <;> subst e
  · obtain ⟨hs, hgd, hx, es, ep, hdt, hsz, ent⟩ := I1.frzT hd
    refine iter_keys hs hgd hx hdt (pi_one (tk := s1.toks) I1 _ (turn_keysT _ hdt) ⟨_, Heap.get?_push_size _ rfl, rfl, ?_⟩ q)
    rw [hsz] <;> rfl
  · obtain ⟨hs, hgd, hx, es, ep, hdt, hsz, ent⟩ := I1.frzN hd
    refine iter_keys hs hgd hx hdt (pi_one (tk := s1.toks) I1 _ (turn_keysN _ hdt) ⟨_, Heap.get?_push_size _ rfl, rfl, ?_⟩ q)
    rw [hsz] <;> rfl
end
/-! ### len, list -/
section
variable {X : Cx}
theorem call_len_n : CallR X (.builtin "len") (fun xs H Q => ∃ (p : Addr) (ks : List (NE V)), xs = [.ref p] ∧ NRd H p ks ∧ Q (.int ((ks.length : Nat) : Int)) H) := by
  intro pins s σ H xs us Q I r h
  obtain ⟨p, kvs, rfl, hp, q⟩ := h
  obtain ⟨u, rfl, rx⟩ := vals1 r
  obtain rfl : u = .ref p := rx
  obtain ⟨z, hd, ys, rel, dd⟩ := n_rd I.hok hp
  have hl : kvs.length = ys.length := Paired.length rel
  refine call_len_dictH hd dd (by rw [← hl]; rw [sizeLine_eq] at z; omega) ?_
  rw [← hl]
  exact ⟨.int ((kvs.length : Nat) : Int), H, I.tok _, ⟨_, rfl⟩, q⟩
theorem npair_addrs : ∀ {ks : List (NE V)} {xs : List (NE Value)}, NPair ks xs → xs.map (fun x => x.2.1) = ks.map fun p => p.2.1
  | _, _, .nil => rfl
  | _, _, .cons h r => by rw [List.map_cons, List.map_cons, npair_addrs r, h.2.1]
theorem call_list_n (hc : X.calm = true) : CallR X (.type "list") (fun xs H Q => ∃ d ks, xs = [V.ref d] ∧ NRd H d ks ∧ ∀ p, H p = none → Q (.ref p) (upd H p (.lst (ks.map fun p => V.ref p.2.1)))) := by
  intro pins s σ H xs us Q I r h
  obtain ⟨d, kvs, rfl, hd, q⟩ := h
  obtain ⟨u, rfl, rx⟩ := r.one
  cases rx
  obtain ⟨z, hs, ks, pr, o, es, ep, ho, hx, hdt, he, _, hn⟩ := n_rd I.hok hd
  have l1 : es.size = ks.length := size_of_entries he
  have l2 : kvs.length = ks.length := Paired.length pr
  refine PySem.W.kdl_call (kdl_raw hs hx hdt) (I.ok.hd hc) ho (by omega) fun h' tk acc' c' kp e it => ?_
  have ea : acc'.toList = ks.map fun x => Value.ref x.2.1 := by
    have hl : acc'.toList.length = ks.length := by rw [Array.length_toList, it.1]; exact l1
    apply List.ext_getElem?
    intro j
    rw [List.getElem?_map]
    cases hj : acc'.toList[j]? with
    | none =>
      have h1 := List.getElem?_eq_none_iff.mp hj
      rw [List.getElem?_eq_none (by omega)]
      all_goals rfl
    | some v =>
      obtain ⟨en, hen, hv⟩ := it.2 j v (by rw [← Array.getElem?_toList]; exact hj)
      have qe := entry_at he j
      rw [hen] at qe
      cases hb : ks[j]? with
      | none =>
        rw [hb] at qe
        exact nomatch (show some en = none from qe)
      | some b =>
        rw [hb] at qe
        have e2 : en = entryOfKey (nestKind X.prog X.w) b := Option.some.inj qe
        rw [hv, e2]
        all_goals rfl
  have eb : acc'.toList = (ks.map fun x => x.2.1).map Value.ref := by rw [ea, List.map_map]; all_goals rfl
  have rv : Vals (kvs.map fun p => V.ref p.2.1) acc'.toList := by
    rw [eb, npair_addrs pr]
    have := vals_refs (kvs.map fun p => p.2.1)
    rw [List.map_map] at this
    exact this
  have hz : (kvs.map fun p => V.ref p.2.1).length ≤ sizeLine := by rw [List.length_map]; omega
  refine ⟨.ref s.heap.objs.size, _, I.laid (t' := tk) (o := .lst (kvs.map fun p => V.ref p.2.1)) kp (Nat.le_refl _) ?_, rfl, q _ (I.hok.fresh (Nat.le_refl _))⟩
  exact ⟨hz, acc'.toList, c', rv, by rw [Array.toArray_toList]; exact e⟩
end
end L2

/-! data over the abstract heap: what represents a datum, frames, the state of a def's names -/
namespace DL
open PySem PySem.Spec PyProof.Rows L2
abbrev D := PyData
def Sub (G H : Hp) : Prop := ∀ b o, G b = some o → H b = some o
theorem Sub.rf (G : Hp) : Sub G G := fun _ _ h => h
theorem Sub.tr {G H K : Hp} (a : Sub G H) (b : Sub H K) : Sub G K := fun c o h => b c o (a c o h)
/-- an exception object of the class at C, kept -/
def ExV (C a : Addr) : HO := .ext fun h => ∃ (oe : Obj) (vs : Array Value), h.get? a = some oe ∧ oe.cls = .ref C ∧ oe.dict = none ∧ oe.data = .fields vs
/-- .. as a datum: no dict of ours has such a key -/
def excX (C : Addr) : D := .dict [(.none, .int (C : Nat))]
def isX : List (D × D) → Bool
  | (.none, _) :: _ => true
  | _ => false
mutual
inductive Rp (G : Hp) : V → D → Prop
  | non : Rp G .non .none
  | bl (b : Bool) : Rp G (.bl b) (.bool b)
  | int (i : Int) : Rp G (.int i) (.int i)
  | str (x : Str) : Rp G (.str x) (.str x)
  | lst {a : Addr} {xs : List V} {ds : List D} : G a = some (.lst xs) → RpA G xs ds → Rp G (.ref a) (.list ds)
  | tup {a : Addr} {xs : List V} {ds : List D} : G a = some (.tup xs) → RpA G xs ds → Rp G (.ref a) (.tuple ds)
  | dct {a : Addr} {ks : List (List Key × V)} {kvs : List (D × D)} : G a = some (.dT ks) → RpK G ks kvs → Rp G (.ref a) (.dict kvs)
  | dcn {a : Addr} {ks : List (NE V)} {kvs : List (D × D)} : G a = some (nst a ks) → ks ≠ [] → RpN G ks kvs → Rp G (.ref a) (.dict kvs)
  | exc {a C : Addr} : G a = some (ExV C a) → Rp G (.ref a) (.dict [(.none, .int (C : Nat))])
inductive RpA (G : Hp) : List V → List D → Prop
  | nil : RpA G [] []
  | cons {v : V} {d : D} {vs : List V} {ds : List D} : Rp G v d → RpA G vs ds → RpA G (v :: vs) (d :: ds)
inductive RpK (G : Hp) : List (List Key × V) → List (D × D) → Prop
  | nil : RpK G [] []
  | cons {v : V} {d : D} {is : List Int} {ks : List (List Key × V)} {kvs : List (D × D)} : Rp G v d → RpK G ks kvs → RpK G ((is.map Sum.inl, v) :: ks) ((.tuple (is.map PyData.int), d) :: kvs)
inductive RpN (G : Hp) : List (NE V) → List (D × D) → Prop
  | nil : RpN G [] []
  | cons {v : V} {d : D} {k : NKey} {b : Addr} {ks : List (NE V)} {kvs : List (D × D)} : KeyAt G k b → Rp G v d → RpN G ks kvs → RpN G ((k, b, v) :: ks) ((.tuple [.tuple (k.1.map PyData.int), .int k.2], d) :: kvs)
end
mutual
theorem Rp.mono {G G' : Hp} (e : Sub G G') : ∀ {v : V} {d : D}, Rp G v d → Rp G' v d
  | _, _, .non => .non
  | _, _, .bl b => .bl b
  | _, _, .int i => .int i
  | _, _, .str x => .str x
  | _, _, .lst h r => .lst (e _ _ h) (RpA.mono e r)
  | _, _, .tup h r => .tup (e _ _ h) (RpA.mono e r)
  | _, _, .dct h r => .dct (e _ _ h) (RpK.mono e r)
  | _, _, .dcn h n r => .dcn (e _ _ h) n (RpN.mono e r)
  | _, _, .exc h => .exc (e _ _ h)
theorem RpA.mono {G G' : Hp} (e : Sub G G') : ∀ {v : List V} {d : List D}, RpA G v d → RpA G' v d
  | _, _, .nil => .nil
  | _, _, .cons h r => .cons (Rp.mono e h) (RpA.mono e r)
theorem RpK.mono {G G' : Hp} (e : Sub G G') : ∀ {v : List (List Key × V)} {d : List (D × D)}, RpK G v d → RpK G' v d
  | _, _, .nil => .nil
  | _, _, .cons h r => .cons (Rp.mono e h) (RpK.mono e r)
theorem RpN.mono {G G' : Hp} (e : Sub G G') : ∀ {v : List (NE V)} {d : List (D × D)}, RpN G v d → RpN G' v d
  | _, _, .nil => .nil
  | _, _, .cons k h r => .cons (k.mono fun _ _ z => e _ _ z) (Rp.mono e h) (RpN.mono e r)
end
/-! ### dicts of either kind -/
def notN : List (D × D) → Bool
  | (.tuple (.tuple _ :: _), _) :: _ => false
  | (.none, _) :: _ => false
  | _ => true
def isN : List (D × D) → Bool
  | [] => true
  | (.tuple (.tuple _ :: _), _) :: _ => true
  | _ => false
theorem notN_x {kvs : List (D × D)} (h : notN kvs = true) : isX kvs = false := by
  unfold isX
  split
  · cases h
  · rfl
theorem isN_x {kvs : List (D × D)} (h : isN kvs = true) : isX kvs = false := by
  unfold isX
  split
  · cases h
  · rfl
theorem RpN.notN {G : Hp} {ks : List (NE V)} {kvs : List (D × D)} (r : RpN G ks kvs) (n : ks ≠ []) : DL.notN kvs = false := by
  cases r with
  | nil => exact absurd rfl n
  | cons => rfl
theorem RpK.isN {G : Hp} {ks : List (List Key × V)} {kvs : List (D × D)} (r : RpK G ks kvs) (h : DL.isN kvs = true) : ks = [] ∧ kvs = [] := by
  cases r with
  | nil => exact ⟨rfl, rfl⟩
  | @cons v d is ks kvs _ _ => cases is <;> cases h
/-- what stands for a dict -/
def DRep (G : Hp) (a : Addr) (u : HO) (kvs : List (D × D)) : Prop := (∃ ks, u = .dT ks ∧ RpK G ks kvs) ∨ ∃ ks, u = nst a ks ∧ ks ≠ [] ∧ RpN G ks kvs
theorem DRep.mono {G G' : Hp} {a : Addr} {u : HO} {kvs : List (D × D)} (e : Sub G G') (h : DRep G a u kvs) : DRep G' a u kvs :=
  h.elim (fun ⟨ks, h1, h2⟩ => .inl ⟨ks, h1, h2.mono e⟩) fun ⟨ks, h1, n, h2⟩ => .inr ⟨ks, h1, n, h2.mono e⟩
theorem DRep.ntb {G : Hp} {a : Addr} {u : HO} {kvs : List (D × D)} (h : DRep G a u kvs) (ps : Array Value) : u ≠ .tbl ps := by
  rcases h with ⟨ks, e, _⟩ | ⟨ks, e, _⟩ <;> (rw [e]; intro z; cases z)
theorem DRep.ntp {G : Hp} {a : Addr} {u : HO} {kvs : List (D × D)} (h : DRep G a u kvs) (xs : List V) : u ≠ .tup xs := by
  rcases h with ⟨ks, e, _⟩ | ⟨ks, e, _⟩ <;> (rw [e]; intro z; cases z)
theorem DRep.mut {G : Hp} {a : Addr} {u : HO} {kvs : List (D × D)} (h : DRep G a u kvs) : Mut (some u) := by
  rcases h with ⟨ks, e, _⟩ | ⟨ks, e, _⟩ <;> (rw [e]; exact True.intro)
theorem nst_code (a : Addr) (ks : List (NE V)) (c : Addr) (q : Str) : nst a ks ≠ LamX.CodeO c q := by
  intro z
  unfold nst LamX.CodeO at z
  injection z with z
  let h : Heap := { objs := Array.replicate (c + 1) { cls := .none, data := .fields #[.none, .str q 0] } }
  have e1 : ∀ b o, h.get? b = some o → o.data = .fields #[.none, .str q 0] := by
    intro b o e
    unfold Heap.get? at e
    by_cases hb : b < c + 1
    · have : h.objs[b]? = some { cls := .none, data := .fields #[.none, .str q 0] } := by simp [h, hb]
      rw [this] at e
      cases e; rfl
    · have : h.objs[b]? = none := Array.getElem?_eq_none (by show (Array.replicate (c + 1) _).size ≤ b; rw [Array.size_replicate]; exact Nat.le_of_not_lt hb)
      rw [this] at e
      cases e
  have e2 : h.get? c = some { cls := .none, data := .fields #[.none, .str q 0] } := by
    have : h.objs[c]? = some { cls := .none, data := .fields #[.none, .str q 0] } := by simp [h]
    unfold Heap.get?
    rw [this]
  have f : nFact a ks h := by
    rw [show nFact a ks h = _ from congrFun z h]
    exact ⟨_, _, 0, e2, rfl, rfl⟩
  obtain ⟨_, _, _, _, o, _, _, h1, _, h2, _⟩ := f
  rw [e1 a o h1] at h2
  cases h2
theorem DRep.ncd {G : Hp} {a : Addr} {u : HO} {kvs : List (D × D)} (h : DRep G a u kvs) (c : Addr) (q : Str) : u ≠ LamX.CodeO c q := by
  rcases h with ⟨ks, e, _⟩ | ⟨ks, e, _⟩
  · rw [e]; intro z; cases z
  · rw [e]; exact nst_code _ _ _ _
mutual
/-- for the rules of deep data: no dict within -/
theorem Rp.dp {K : PySem.W.Frag} {G H : Hp} (e : Sub G H) : ∀ {v : V} {d : D}, Rp G v d → d.canLay0 = true → Dp K H v d
  | _, _, .non, _ => .non
  | _, _, .bl b, _ => .bl b
  | _, _, .int i, _ => .int i
  | _, _, .str x, _ => .str x
  | _, _, .lst h r, c => .lst (SqL.of (e _ _ h)) (RpA.dp e r c)
  | _, _, .tup h r, c => .tup (SqT.of (e _ _ h)) (RpA.dp e r c)
  | _, _, .dct h r, c => by cases c
  | _, _, .dcn h _ r, c => by cases c
  | _, _, .exc h, c => by cases c
theorem RpA.dp {K : PySem.W.Frag} {G H : Hp} (e : Sub G H) : ∀ {v : List V} {d : List D}, RpA G v d → PyData.canLayAll0 d = true → DpAll K H v d
  | _, _, .nil, _ => .nil
  | _, _, .cons h r, c => by
    have c' : (PyData.canLay0 _ && PyData.canLayAll0 _) = true := c
    rw [Bool.and_eq_true] at c'
    exact .cons (Rp.dp e h c'.1) (RpA.dp e r c'.2)
end
theorem RpA.length {G : Hp} : ∀ {v : List V} {d : List D}, RpA G v d → v.length = d.length
  | _, _, .nil => rfl
  | _, _, .cons _ r => congrArg (· + 1) (RpA.length r)
theorem RpA.get {G : Hp} : ∀ {vs : List V} {ds : List D} {i : Nat} {d : D}, RpA G vs ds → ds[i]? = some d → ∃ v, vs[i]? = some v ∧ Rp G v d
  | _, _, _, _, .nil, h => by simp at h
  | _, _, 0, _, .cons h r, e => by simp at e; subst e; exact ⟨_, rfl, h⟩
  | _, _, i + 1, _, .cons h r, e => by
    obtain ⟨v, h1, h2⟩ := RpA.get (i := i) r (by simpa using e)
    exact ⟨v, by simpa using h1, h2⟩
theorem RpA.get' {G : Hp} : ∀ {vs : List V} {ds : List D} {i : Nat} {v : V}, RpA G vs ds → vs[i]? = some v → ∃ d, ds[i]? = some d ∧ Rp G v d
  | _, _, _, _, .nil, h => by simp at h
  | _, _, 0, _, .cons h r, e => by simp at e; subst e; exact ⟨_, rfl, h⟩
  | _, _, i + 1, _, .cons h r, e => by
    obtain ⟨v, h1, h2⟩ := RpA.get' (i := i) r (by simpa using e)
    exact ⟨v, by simpa using h1, h2⟩
theorem RpA.app {G : Hp} : ∀ {vs ws : List V} {ds es : List D}, RpA G vs ds → RpA G ws es → RpA G (vs ++ ws) (ds ++ es)
  | _, _, _, _, .nil, s => s
  | _, _, _, _, .cons h r, s => .cons h (RpA.app r s)
theorem RpA.take {G : Hp} : ∀ {vs : List V} {ds : List D} (n : Nat), RpA G vs ds → RpA G (vs.take n) (ds.take n)
  | _, _, 0, _ => .nil
  | _, _, n + 1, .nil => .nil
  | _, _, n + 1, .cons h r => .cons h (RpA.take n r)
theorem RpA.drop {G : Hp} : ∀ {vs : List V} {ds : List D} (n : Nat), RpA G vs ds → RpA G (vs.drop n) (ds.drop n)
  | _, _, 0, r => r
  | _, _, n + 1, .nil => .nil
  | _, _, n + 1, .cons h r => RpA.drop n r
theorem RpA.rep {G : Hp} {v : V} {d : D} (h : Rp G v d) : ∀ n : Nat, RpA G (List.replicate n v) (List.replicate n d)
  | 0 => .nil
  | n + 1 => .cons h (RpA.rep h n)
theorem RpA.flat {G : Hp} {vs : List V} {ds : List D} (h : RpA G vs ds) : ∀ n : Nat, RpA G (List.replicate n vs).flatten (List.replicate n ds).flatten
  | 0 => .nil
  | n + 1 => by
    rw [List.replicate_succ, List.replicate_succ, List.flatten_cons, List.flatten_cons]
    exact h.app (RpA.flat h n)
/-! ### the exceptions of the program -/
inductive Exn where
  | InvalidPart | InvalidStore | InvalidState | InvalidIndex | InvalidRule | InvalidTicks | InvalidDemand | InvalidText | Worn | ForEver | Ends | TooMany | NothingToUndo
  deriving DecidableEq
def Exn.name : Exn → Str
  | .InvalidPart => "InvalidPart"
  | .InvalidStore => "InvalidStore"
  | .InvalidState => "InvalidState"
  | .InvalidIndex => "InvalidIndex"
  | .InvalidRule => "InvalidRule"
  | .InvalidTicks => "InvalidTicks"
  | .InvalidDemand => "InvalidDemand"
  | .InvalidText => "InvalidText"
  | .Worn => "Worn"
  | .ForEver => "ForEver"
  | .Ends => "Ends"
  | .TooMany => "TooMany"
  | .NothingToUndo => "NothingToUndo"
def Exn.at (K : PySem.W.Frag) (c : Exn) : Value := .ref (He.ga K c.name)
/-! ### states and ends of the reckoning -/
/-- the dice: a list of two ints that is written in place -/
structure DSt where
  c : Int
  n : Int
  /-- the bench's attributes, as set so far -/
  b : List (Str × D)
/-- the things that are written in place: the dice, a bench of the class C -/
inductive Dl where
  | nil
  | mk (d b : Option Addr) (C : Addr)
def Dl.dc : Dl → Option Addr
  | .nil => none
  | .mk d _ _ => d
def Dl.bc : Dl → Option Addr
  | .nil => none
  | .mk _ b _ => b
def Dl.C : Dl → Addr
  | .nil => 0
  | .mk _ _ C => C
def Dl.has : Dl → Addr → Prop
  | .nil, _ => False
  | .mk d b _, a => d = some a ∨ b = some a
/-- the bench's class is the program's -/
def BOk (K : PySem.W.Frag) (δ : Dl) : Prop := δ.bc = none ∨ δ.C = He.ga K "Bench"
theorem Dl.ofD {δ : Dl} {a : Addr} (h : δ.dc = some a) : δ.has a := by cases δ with | nil => cases h | mk d b C => exact .inl h
theorem Dl.ofB {δ : Dl} {a : Addr} (h : δ.bc = some a) : δ.has a := by cases δ with | nil => cases h | mk d b C => exact .inr h
theorem Dl.or {δ : Dl} {a : Addr} (h : δ.has a) : δ.dc = some a ∨ δ.bc = some a := by cases δ with | nil => cases h | mk d b C => exact h
/-- the attributes' values -/
inductive RpF (G : Hp) : List (Str × V) → List (Str × D) → Prop
  | nil : RpF G [] []
  | cons {x : Str} {v : V} {d : D} {fs : List (Str × V)} {ds : List (Str × D)} : Rp G v d → RpF G fs ds → RpF G ((x, v) :: fs) ((x, d) :: ds)
theorem RpF.mono {G G' : Hp} (e : Sub G G') : ∀ {fs : List (Str × V)} {ds : List (Str × D)}, RpF G fs ds → RpF G' fs ds
  | _, _, .nil => .nil
  | _, _, .cons h r => .cons (h.mono e) (RpF.mono e r)
inductive Rs (α : Type) where
  | ok (a : α) (st : DSt)
  | exc (c : Exn) (st : DSt)
  | stuck
inductive SV where
  | dat (d : D)
  | own (d : D)
  | dice
  | bench
  | exc (a : Addr)
def SV.data : SV → Option D
  | .dat d => some d
  | .own d => some d
  | .dice => none
  | .bench => none
  | .exc _ => none
abbrev Ev := List (Option SV)
abbrev F := Ev → DSt → Rs SV
/-! ### frames -/
structure DiceAt (δ : Dl) (G H : Hp) (st : DSt) : Prop where
  at_ : ∀ a, δ.dc = some a → H a = some (.lst [.int st.c, .int st.n])
  bn : ∀ a, δ.bc = some a → ∃ dx fs, H a = some (.ins δ.C dx fs) ∧ RpF G fs st.b
theorem DiceAt.keep {δ : Dl} {G H G' H' : Hp} {st : DSt} (d : DiceAt δ G H st) (s : Sub G G') (k : ∀ a o, δ.has a → H a = some o → H' a = some o) : DiceAt δ G' H' st :=
  ⟨fun a e => k a _ (Dl.ofD e) (d.at_ a e), fun a e => let ⟨dx, fs, h1, h2⟩ := d.bn a e; ⟨dx, fs, k a _ (Dl.ofB e) h1, h2.mono s⟩⟩
theorem DiceAt.upd {δ : Dl} {G H : Hp} {st : DSt} {p : Addr} {o : HO} (d : DiceAt δ G H st) (hd : ¬ δ.has p) : DiceAt δ G (L2.upd H p o) st :=
  d.keep (Sub.rf G) fun a u h e => by rw [upd_ne (fun z => hd (by rw [← z]; exact h))]; exact e
theorem sub_upd {G : Hp} {a : Addr} {o : HO} (g : G a = none) : Sub G (L2.upd G a o) := fun b u e => by
  rw [upd_ne (fun z => by rw [z, g] at e; cases e)]; exact e
theorem DiceAt.gup {δ : Dl} {G G' H : Hp} {st : DSt} (d : DiceAt δ G H st) (s : Sub G G') : DiceAt δ G' H st := d.keep s fun _ _ _ e => e
def NoTup (o : Option HO) : Prop := ∀ xs, o ≠ some (.tup xs)
/-- something stands there that is no table -/
def Alv (o : Option HO) : Prop := ∃ u, o = some u ∧ ∀ ps, u ≠ .tbl ps
theorem Alv.ne {o : Option HO} (h : Alv o) : o ≠ none := fun z => by
  obtain ⟨u, e, _⟩ := h
  rw [z] at e; cases e
theorem DiceAt.alv {δ : Dl} {G H : Hp} {st : DSt} {a : Addr} (d : DiceAt δ G H st) (h : δ.has a) : Alv (H a) ∧ NoTup (H a) := by
  rcases Dl.or h with e | e
  · rw [d.at_ a e]; exact ⟨⟨_, rfl, fun _ z => by cases z⟩, fun _ z => by cases z⟩
  · obtain ⟨dx, fs, h1, _⟩ := d.bn a e
    rw [h1]; exact ⟨⟨_, rfl, fun _ z => by cases z⟩, fun _ z => by cases z⟩
structure Fr (T : List (Addr × Str)) (δ : Dl) (G H G' H' : Hp) : Prop where
  gg : Sub G G'
  gh : Sub G' H'
  nt : ∀ b ps, G' b ≠ some (.tbl ps)
  nw : ∀ b, Alv (H b) → NoTup (H b) → G b = none → G' b = none
  kp : ∀ b o, H b = some o → ¬ δ.has b → (∀ ps, o ≠ .tbl ps) → H' b = some o
  un : ∀ b, Alv (H b) → Alv (H' b)
  ut : ∀ b, Alv (H b) → NoTup (H b) → NoTup (H' b)
  tb : LamX.Tabs T H → LamX.Tabs T H'
theorem Fr.rf {T : List (Addr × Str)} {δ : Dl} {G H : Hp} (h : Sub G H) (nt : ∀ b ps, G b ≠ some (.tbl ps)) : Fr T δ G H G H :=
  ⟨Sub.rf G, h, nt, fun _ _ _ h => h, fun _ _ h _ _ => h, fun _ h => h, fun _ _ h => h, fun h => h⟩
theorem Fr.tr {T : List (Addr × Str)} {δ : Dl} {G H G1 H1 G2 H2 : Hp} (a : Fr T δ G H G1 H1) (b : Fr T δ G1 H1 G2 H2) : Fr T δ G H G2 H2 :=
  ⟨a.gg.tr b.gg, b.gh, b.nt, fun c h n g => b.nw c (a.un c h) (a.ut c h n) (a.nw c h n g), fun c o h d n => b.kp c o (a.kp c o h d n) d n, fun c h => b.un c (a.un c h), fun c h n => b.ut c (a.un c h) (a.ut c h n), fun t => b.tb (a.tb t)⟩
/-- a new object, known to be data from now on -/
theorem Fr.new {T : List (Addr × Str)} {δ : Dl} {G H : Hp} {p : Addr} {o : HO} (h : Sub G H) (nt : ∀ b ps, G b ≠ some (.tbl ps)) (hp : H p = none) (no : ∀ ps, o ≠ .tbl ps) : Fr T δ G H (upd G p o) (upd H p o) where
  gg := fun b u e => by
    have hb : b ≠ p := fun z => by rw [z] at e; rw [h _ _ e] at hp; cases hp
    rw [upd_ne hb]; exact e
  gh := fun b u e => by
    by_cases hb : b = p
    · subst hb; rw [upd_same] at e ⊢; exact e
    · rw [upd_ne hb] at e ⊢; exact h _ _ e
  nt := fun b ps e => by
    by_cases hb : b = p
    · subst hb; rw [upd_same] at e; exact no ps (Option.some.inj e)
    · rw [upd_ne hb] at e; exact nt b ps e
  nw := fun b hb _ g => by
    have hn : b ≠ p := fun z => hb.ne (by rw [z]; exact hp)
    rw [upd_ne hn]; exact g
  ut := fun b hb n => by
    have hn : b ≠ p := fun z => hb.ne (by rw [z]; exact hp)
    rw [upd_ne hn]; exact n
  kp := fun b u e _ _ => by
    have hn : b ≠ p := fun z => by rw [z, hp] at e; cases e
    rw [upd_ne hn]; exact e
  un := fun b hb => by
    have hn : b ≠ p := fun z => hb.ne (by rw [z]; exact hp)
    rw [upd_ne hn]; exact hb
  tb := fun t => t.ext fun b u e => by
    have hn : b ≠ p := fun z => by rw [z, hp] at e; cases e
    rw [upd_ne hn]; exact e
/-- a new object that is not (yet) data -/
theorem Fr.newH {T : List (Addr × Str)} {δ : Dl} {G H : Hp} {p : Addr} {o : HO} (h : Sub G H) (nt : ∀ b ps, G b ≠ some (.tbl ps)) (hp : H p = none) : Fr T δ G H G (upd H p o) where
  gg := Sub.rf G
  gh := fun b u e => by
    have hb : b ≠ p := fun z => by rw [z] at e; rw [h _ _ e] at hp; cases hp
    rw [upd_ne hb]; exact h _ _ e
  nt := nt
  nw := fun b hb _ g => g
  ut := fun b hb n => by
    have hn : b ≠ p := fun z => hb.ne (by rw [z]; exact hp)
    rw [upd_ne hn]; exact n
  kp := fun b u e _ _ => by
    have hn : b ≠ p := fun z => by rw [z, hp] at e; cases e
    rw [upd_ne hn]; exact e
  un := fun b hb => by
    have hn : b ≠ p := fun z => hb.ne (by rw [z]; exact hp)
    rw [upd_ne hn]; exact hb
  tb := fun t => t.ext fun b u e => by
    have hn : b ≠ p := fun z => by rw [z, hp] at e; cases e
    rw [upd_ne hn]; exact e
/-- an object that was not there at the start, or the dice, is written -/
theorem Fr.wr {T : List (Addr × Str)} {δ : Dl} {G0 H0 G H : Hp} {p : Addr} {o : HO} (f : Fr T δ G0 H0 G H) (h0 : ¬ Alv (H0 p) ∨ δ.has p) (g : G p = none) (hn : ∀ ps, H p ≠ some (.tbl ps)) (hx : ∀ c q, H p ≠ some (LamX.CodeO c q)) (no : ∀ xs, o ≠ .tup xs) (no2 : ∀ ps, o ≠ .tbl ps) : Fr T δ G0 H0 G (upd H p o) where
  gg := f.gg
  gh := fun b u e => by
    have hb : b ≠ p := fun z => by rw [z, g] at e; cases e
    rw [upd_ne hb]; exact f.gh _ _ e
  nt := f.nt
  nw := f.nw
  kp := fun b u e d n => by
    have hn : b ≠ p := fun z => by
      rcases h0 with h0 | h0
      · exact h0 ⟨u, by rw [← z]; exact e, n⟩
      · exact d (by rw [z]; exact h0)
    rw [upd_ne hn]; exact f.kp b u e d n
  un := fun b hb => by
    by_cases hn : b = p
    · rw [hn, upd_same]; exact ⟨o, rfl, no2⟩
    · rw [upd_ne hn]; exact f.un b hb
  ut := fun b hb n => by
    by_cases hn : b = p
    · rw [hn, upd_same]; exact fun xs z => no xs (Option.some.inj z)
    · rw [upd_ne hn]; exact f.ut b hb n
  tb := fun t => fun q hq => by
    obtain ⟨ps, h1, h2, h3⟩ := f.tb t q hq
    have hq1 : q.1 ≠ p := fun z => hn ps (by rw [← z]; exact h1)
    refine ⟨ps, by rw [upd_ne hq1]; exact h1, h2, fun pos cv hc => ?_⟩
    obtain ⟨c, e1, e2⟩ := h3 pos cv hc
    have hcp : c ≠ p := fun z => by rw [z] at e2; exact hx _ _ e2
    exact ⟨c, e1, by rw [upd_ne hcp]; exact e2⟩
/-! ### the names -/
/-- an owned object as it stands (lk: under a lock, it may be frozen) -/
def OwnAt (lk : Bool) (H : Hp) (a : Addr) (u : HO) : Prop := H a = some u ∨ (lk = true ∧ ∃ o, H a = some (.frz o u))
theorem OwnAt.rd {lk : Bool} {H : Hp} {a : Addr} {u : HO} (h : OwnAt lk H a u) : Rd H a u := h.elim .inl fun z => .inr z.2
def OwnOk (lk : Bool) (G H : Hp) (a : Addr) : D → Prop
  | .list ds => ∃ vs, H a = some (.lst vs) ∧ RpA G vs ds
  | .dict kvs => ∃ u, OwnAt lk H a u ∧ DRep G a u kvs
  | _ => False
def VOk (lk : Bool) (δ : Dl) (G H : Hp) (v : V) : SV → Prop
  | .dat d => Rp G v d
  | .own d => ∃ a, v = .ref a ∧ G a = none ∧ ¬ δ.has a ∧ OwnOk lk G H a d
  | .dice => ∃ a, v = .ref a ∧ δ.dc = some a
  | .bench => ∃ a, v = .ref a ∧ δ.bc = some a
  | .exc a => v = .ref a
/-- what stands in the heap ahead -/
structure Gd (T : List (Addr × Str)) (δ : Dl) (G H : Hp) (st : DSt) : Prop where
  sub : Sub G H
  nt : ∀ b ps, G b ≠ some (.tbl ps)
  dg : ∀ a, δ.has a → G a = none
  di : DiceAt δ G H st
  tb : LamX.Tabs T H
structure Rel (lk : Bool) (T : List (Addr × Str)) (δ : Dl) (G H : Hp) (σ : L2.St) (ev : Ev) (st : DSt) : Prop extends Gd T δ G H st where
  len : ev.length = σ.length
  sl : ∀ (i : Nat) (sv : SV), ev[i]? = some (some sv) → ∃ v, σ[i]? = some (some v) ∧ VOk lk δ G H v sv
  ds : ∀ (i j : Nat) (d e : D) (a : Addr), ev[i]? = some (some (.own d)) → ev[j]? = some (some (.own e)) → σ[i]? = some (some (.ref a)) → σ[j]? = some (some (.ref a)) → i = j
theorem OwnOk.fr {lk : Bool} {T : List (Addr × Str)} {δ : Dl} {G H G' H' : Hp} {a : Addr} (f : Fr T δ G H G' H') (nd : ¬ δ.has a) : ∀ {d : D}, OwnOk lk G H a d → OwnOk lk G' H' a d := by
  intro d h
  cases d with
  | list ds =>
    obtain ⟨vs, h1, h2⟩ := h
    exact ⟨vs, f.kp _ _ h1 nd (fun _ z => by cases z), h2.mono f.gg⟩
  | dict kvs =>
    obtain ⟨vs, h1, h2⟩ := h
    refine ⟨vs, ?_, h2.mono f.gg⟩
    rcases h1 with h1 | ⟨hl, o, h1⟩
    · exact .inl (f.kp _ _ h1 nd (fun ps => h2.ntb ps))
    · exact .inr ⟨hl, o, f.kp _ _ h1 nd (fun _ z => by cases z)⟩
  | _ => exact h.elim
theorem OwnOk.alv {lk : Bool} {G H : Hp} {a : Addr} : ∀ {d : D}, OwnOk lk G H a d → Alv (H a) := by
  intro d h
  cases d with
  | list ds => obtain ⟨vs, h1, _⟩ := h; rw [h1]; exact ⟨_, rfl, fun _ z => by cases z⟩
  | dict ds =>
    obtain ⟨vs, h1 | ⟨_, o, h1⟩, h2⟩ := h
    · rw [h1]; exact ⟨_, rfl, fun ps => h2.ntb ps⟩
    · rw [h1]; exact ⟨_, rfl, fun _ z => by cases z⟩
  | _ => exact h.elim
theorem OwnOk.ne {lk : Bool} {G H : Hp} {a : Addr} {d : D} (h : OwnOk lk G H a d) : H a ≠ none := h.alv.ne
theorem OwnOk.nt {lk : Bool} {G H : Hp} {a : Addr} : ∀ {d : D}, OwnOk lk G H a d → NoTup (H a) := by
  intro d h
  cases d with
  | list ds => obtain ⟨vs, h1, _⟩ := h; rw [h1]; intro _ z; cases z
  | dict ds =>
    obtain ⟨vs, h1 | ⟨_, o, h1⟩, h2⟩ := h
    · rw [h1]; intro xs z; exact h2.ntp xs (Option.some.inj z)
    · rw [h1]; intro _ z; cases z
  | _ => exact h.elim
theorem VOk.fr {lk : Bool} {T : List (Addr × Str)} {δ : Dl} {G H G' H' : Hp} {v : V} (f : Fr T δ G H G' H') : ∀ {sv : SV}, VOk lk δ G H v sv → VOk lk δ G' H' v sv := by
  intro sv h
  cases sv with
  | dat d => exact Rp.mono f.gg h
  | own d =>
    obtain ⟨a, e, g, nd, h⟩ := h
    exact ⟨a, e, f.nw a h.alv h.nt g, nd, h.fr f nd⟩
  | dice => exact h
  | bench => exact h
  | exc _ => exact h
theorem Gd.fr {T : List (Addr × Str)} {δ : Dl} {G H G' H' : Hp} {st st' : DSt} (r : Gd T δ G H st) (f : Fr T δ G H G' H') (d : DiceAt δ G' H' st') : Gd T δ G' H' st' where
  sub := f.gh
  nt := f.nt
  dg := fun a e => f.nw a (r.di.alv e).1 (r.di.alv e).2 (r.dg a e)
  di := d
  tb := f.tb r.tb
theorem Rel.fr {lk : Bool} {T : List (Addr × Str)} {δ : Dl} {G H G' H' : Hp} {σ : L2.St} {ev : Ev} {st st' : DSt} (r : Rel lk T δ G H σ ev st) (f : Fr T δ G H G' H') (d : DiceAt δ G' H' st') : Rel lk T δ G' H' σ ev st' :=
  ⟨r.toGd.fr f d, r.len, fun i sv e => by
    obtain ⟨v, h1, h2⟩ := r.sl i sv e
    exact ⟨v, h1, h2.fr f⟩, r.ds⟩
/-- the dice stay where only new things are made -/
theorem DiceAt.fr {T : List (Addr × Str)} {δ : Dl} {G H G' H' : Hp} {st : DSt} (d : DiceAt δ G H st) (f : Fr T .nil G H G' H') : DiceAt δ G' H' st :=
  ⟨fun a e => f.kp a _ (d.at_ a e) (fun z => z.elim) (fun _ z => by cases z), fun a e => let ⟨dx, fs, h1, h2⟩ := d.bn a e; ⟨dx, fs, f.kp a _ h1 (fun z => z.elim) (fun _ z => by cases z), h2.mono f.gg⟩⟩
theorem Fr.any {T : List (Addr × Str)} {δ : Dl} {G H G' H' : Hp} (f : Fr T .nil G H G' H') : Fr T δ G H G' H' :=
  ⟨f.gg, f.gh, f.nt, f.nw, fun b o e _ n => f.kp b o e (fun z => by cases z) n, f.un, f.ut, f.tb⟩
theorem Fr.kpD {T : List (Addr × Str)} {δ : Dl} {G H G' : Hp} {p : Addr} {o : HO} {st : DSt} (f : Fr T δ G H G' (L2.upd H p o)) (d : DiceAt δ G H st) (hd : ¬ δ.has p) : DiceAt δ G' (L2.upd H p o) st :=
  (d.upd hd).keep f.gg fun _ _ _ e => e
/-- what may be read: data, or an owned object's content -/
inductive Rd1 (G H : Hp) (v : V) : D → Prop
  | dat {d : D} : Rp G v d → Rd1 G H v d
  | lst {a : Addr} {vs : List V} {ds : List D} : v = .ref a → H a = some (.lst vs) → RpA G vs ds → Rd1 G H v (.list ds)
  | dct {a : Addr} {u : HO} {kvs : List (D × D)} : v = .ref a → Rd H a u → DRep G a u kvs → Rd1 G H v (.dict kvs)
theorem VOk.rd {lk : Bool} {δ : Dl} {G H : Hp} {v : V} {sv : SV} {d : D} (h : VOk lk δ G H v sv) (e : sv.data = some d) : Rd1 G H v d := by
  cases sv with
  | dat d' => cases e; exact .dat h
  | own d' =>
    cases e
    obtain ⟨a, rfl, _, _, h⟩ := h
    cases d with
    | list ds => obtain ⟨vs, h1, h2⟩ := h; exact .lst rfl h1 h2
    | dict kvs => obtain ⟨vs, h1, h2⟩ := h; exact .dct rfl h1.rd h2
    | _ => exact h.elim
  | dice => cases e
  | bench => cases e
  | exc _ => cases e
theorem Rd1.list {G H : Hp} {v : V} {ds : List D} (s : Sub G H) (h : Rd1 G H v (.list ds)) : ∃ a vs, v = .ref a ∧ H a = some (.lst vs) ∧ RpA G vs ds := by
  cases h with
  | dat h => cases h with | lst h r => exact ⟨_, _, rfl, s _ _ h, r⟩
  | lst e h r => exact ⟨_, _, e, h, r⟩
theorem Rd1.dict {G H : Hp} {v : V} {kvs : List (D × D)} (s : Sub G H) (h : Rd1 G H v (.dict kvs)) (nx : isX kvs = false) : ∃ a u, v = .ref a ∧ Rd H a u ∧ DRep G a u kvs := by
  cases h with
  | dat h =>
    cases h with
    | dct h r => exact ⟨_, _, rfl, .inl (s _ _ h), .inl ⟨_, rfl, r⟩⟩
    | dcn h n r => exact ⟨_, _, rfl, .inl (s _ _ h), .inr ⟨_, rfl, n, r⟩⟩
    | exc h => cases nx
  | dct e h r => exact ⟨_, _, e, h, r⟩
theorem Rd1.dictK {G H : Hp} {v : V} {kvs : List (D × D)} (s : Sub G H) (h : Rd1 G H v (.dict kvs)) (n : notN kvs = true) : ∃ a ks, v = .ref a ∧ Rd H a (.dT ks) ∧ RpK G ks kvs := by
  obtain ⟨a, u, e, h1, h2⟩ := h.dict s (notN_x n)
  rcases h2 with ⟨ks, e2, r⟩ | ⟨ks, e2, n2, r⟩
  · subst e2; exact ⟨a, ks, e, h1, r⟩
  · rw [r.notN n2] at n; cases n
theorem RpN.keys {G H : Hp} (s : Sub G H) : ∀ {ks : List (NE V)} {kvs : List (D × D)}, RpN G ks kvs → KeysAt H ks
  | _, _, .nil => fun p hp => by cases hp
  | _, _, .cons k h r => fun p hp => by
    rcases List.mem_cons.mp hp with e | hp
    · rw [e]; exact k.mono fun _ _ z => s _ _ z
    · exact RpN.keys s r p hp
theorem DRep.nRd {G H : Hp} {a : Addr} {u : HO} {kvs : List (D × D)} (s : Sub G H) (h : Rd H a u) (r : DRep G a u kvs) (n : isN kvs = true) : ∃ ks, NRd H a ks ∧ RpN G ks kvs := by
  rcases r with ⟨ks, e2, r⟩ | ⟨ks, e2, n2, r⟩
  · subst e2
    obtain ⟨rfl, rfl⟩ := r.isN n
    exact ⟨[], .inr ⟨rfl, h⟩, .nil⟩
  · subst e2
    exact ⟨ks, .inl ⟨h, r.keys s⟩, r⟩
theorem Rd1.dictN {G H : Hp} {v : V} {kvs : List (D × D)} (s : Sub G H) (h : Rd1 G H v (.dict kvs)) (n : isN kvs = true) : ∃ a ks, v = .ref a ∧ NRd H a ks ∧ RpN G ks kvs := by
  obtain ⟨a, u, e, h1, h2⟩ := h.dict s (isN_x n)
  obtain ⟨ks, h3, h4⟩ := h2.nRd s h1 n
  exact ⟨a, ks, e, h3, h4⟩
theorem Rd1.tuple {G H : Hp} {v : V} {ds : List D} (s : Sub G H) (h : Rd1 G H v (.tuple ds)) : ∃ a vs, v = .ref a ∧ H a = some (.tup vs) ∧ RpA G vs ds := by
  cases h with
  | dat h => cases h with | tup h r => exact ⟨_, _, rfl, s _ _ h, r⟩
theorem Rd1.int {G H : Hp} {v : V} {i : Int} (h : Rd1 G H v (.int i)) : v = .int i := by
  cases h with | dat h => cases h; rfl
theorem Rd1.bool {G H : Hp} {v : V} {i : Bool} (h : Rd1 G H v (.bool i)) : v = .bl i := by
  cases h with | dat h => cases h; rfl
theorem Rd1.str {G H : Hp} {v : V} {i : Str} (h : Rd1 G H v (.str i)) : v = .str i := by
  cases h with | dat h => cases h; rfl
theorem Rd1.nonV {G H : Hp} {v : V} (h : Rd1 G H v .none) : v = .non := by
  cases h with | dat h => cases h; rfl
theorem Rd1.fr {T : List (Addr × Str)} {G H G' H' : Hp} {v : V} {d : D} (h : Rd1 G H v d) (f : Fr T .nil G H G' H') : Rd1 G' H' v d := by
  cases h with
  | dat h => exact .dat (h.mono f.gg)
  | lst e h r => exact .lst e (f.kp _ _ h (fun z => by cases z) (fun _ z => by cases z)) (r.mono f.gg)
  | dct e h r => exact .dct e (h.elim (fun z => .inl (f.kp _ _ z (fun z => by cases z) (fun ps => r.ntb ps))) fun ⟨o, z⟩ => .inr ⟨o, f.kp _ _ z (fun z => by cases z) (fun _ z => by cases z)⟩) (r.mono f.gg)
theorem Rd1.dp {K : PySem.W.Frag} {G H : Hp} {v : V} {d : D} (s : Sub G H) (h : Rd1 G H v d) (c : d.canLay0 = true) : Dp K H v d := by
  cases h with
  | dat h => exact Rp.dp s h c
  | lst e h r => subst e; exact .lst (SqL.of h) (RpA.dp s r c)
  | dct e h r => cases c
end DL

/-! expressions -/
namespace DL
open PySem PySem.Spec PyProof.Rows L2
def Rs.bind {α β : Type} (r : Rs α) (k : α → DSt → Rs β) : Rs β := match r with
  | .ok a st => k a st
  | .exc c st => .exc c st
  | .stuck => .stuck
abbrev Tb := List (Addr × Str)
/-- what a reckoned end asks: Q behind it, E of an exception -/
def EndE (K : PySem.W.Frag) (lk : Bool) (T : Tb) (δ : Dl) (E : XK) (G H : Hp) (Q : VK) : Rs SV → Prop
  | .ok sv st' => ∀ v G' H', Fr T δ G H G' H' → DiceAt δ G' H' st' → VOk lk δ G' H' v sv → Q v H'
  | .exc c st' => ∀ G' H', Fr T δ G H G' H' → DiceAt δ G' H' st' → E (c.at K) none H'
  | .stuck => False
def EndT (K : PySem.W.Frag) (T : Tb) (δ : Dl) (E : XK) (G H : Hp) (Q : Bool → Hp → Prop) : Rs SV → Prop
  | .ok sv st' => ∃ b, sv = .dat (.bool b) ∧ ∀ G' H', Fr T δ G H G' H' → DiceAt δ G' H' st' → Q b H'
  | .exc c st' => ∀ G' H', Fr T δ G H G' H' → DiceAt δ G' H' st' → E (c.at K) none H'
  | .stuck => False
/-- .. of a call: data -/
def EndC (K : PySem.W.Frag) (T : Tb) (δ : Dl) (E : XK) (G H : Hp) (Q : VK) : Rs D → Prop
  | .ok d st' => ∀ v G' H', Fr T δ G H G' H' → DiceAt δ G' H' st' → Rp G' v d → Q v H'
  | .exc c st' => ∀ G' H', Fr T δ G H G' H' → DiceAt δ G' H' st' → E (c.at K) none H'
  | .stuck => False
inductive AllV (lk : Bool) (δ : Dl) (G H : Hp) : List V → List SV → Prop
  | nil : AllV lk δ G H [] []
  | cons {v : V} {sv : SV} {vs : List V} {svs : List SV} : VOk lk δ G H v sv → AllV lk δ G H vs svs → AllV lk δ G H (v :: vs) (sv :: svs)
theorem AllV.fr {lk : Bool} {T : Tb} {δ : Dl} {G H G' H' : Hp} (f : Fr T δ G H G' H') : ∀ {vs : List V} {svs : List SV}, AllV lk δ G H vs svs → AllV lk δ G' H' vs svs
  | _, _, .nil => .nil
  | _, _, .cons h r => .cons (h.fr f) (r.fr f)
theorem AllV.length {lk : Bool} {δ : Dl} {G H : Hp} : ∀ {vs : List V} {svs : List SV}, AllV lk δ G H vs svs → vs.length = svs.length
  | _, _, .nil => rfl
  | _, _, .cons _ r => congrArg (· + 1) r.length
/-- plain data -/
def dats : List SV → Option (List D)
  | [] => some []
  | .dat d :: r => (dats r).map (d :: ·)
  | _ :: _ => none
theorem AllV.dats {lk : Bool} {δ : Dl} {G H : Hp} : ∀ {vs : List V} {svs : List SV} {ds : List D}, AllV lk δ G H vs svs → DL.dats svs = some ds → RpA G vs ds
  | _, _, _, .nil, e => by cases e; exact .nil
  | _, _, _, .cons (sv := sv) h r, e => by
    cases sv with
    | dat d =>
      unfold DL.dats at e
      obtain ⟨ds', e1, e2⟩ := Option.map_eq_some_iff.mp e
      subst e2
      exact .cons h (r.dats e1)
    | own d => cases e
    | dice => cases e
    | bench => cases e
    | exc _ => cases e
/-- what may be read -/
def reads : List SV → Option (List D)
  | [] => some []
  | sv :: r => match sv.data with
    | some d => (reads r).map (d :: ·)
    | none => none
inductive RdA (G H : Hp) : List V → List D → Prop
  | nil : RdA G H [] []
  | cons {v : V} {d : D} {vs : List V} {ds : List D} : Rd1 G H v d → RdA G H vs ds → RdA G H (v :: vs) (d :: ds)
theorem AllV.reads {lk : Bool} {δ : Dl} {G H : Hp} : ∀ {vs : List V} {svs : List SV} {ds : List D}, AllV lk δ G H vs svs → DL.reads svs = some ds → RdA G H vs ds
  | _, _, _, .nil, e => by cases e; exact .nil
  | _, _, _, .cons (sv := sv) h r, e => by
    unfold DL.reads at e
    cases q : sv.data with
    | none => rw [q] at e; cases e
    | some d =>
      rw [q] at e
      obtain ⟨ds', e1, e2⟩ := Option.map_eq_some_iff.mp e
      subst e2
      exact .cons (h.rd q) (r.reads e1)
abbrev Fs := Ev → DSt → Rs (List SV)
def EndA (K : PySem.W.Frag) (lk : Bool) (T : Tb) (δ : Dl) (E : XK) (G H : Hp) (Q : List V → Hp → Prop) : Rs (List SV) → Prop
  | .ok svs st' => ∀ vs G' H', Fr T δ G H G' H' → DiceAt δ G' H' st' → AllV lk δ G' H' vs svs → Q vs H'
  | .exc c st' => ∀ G' H', Fr T δ G H G' H' → DiceAt δ G' H' st' → E (c.at K) none H'
  | .stuck => False
section
variable {K : PySem.W.Frag} {lk : Bool} {T : Tb} {δ : Dl} {E : XK} {G H G1 H1 : Hp} {Q : VK} {Qb : Bool → Hp → Prop} {QA : List V → Hp → Prop}
theorem EndE.tr (f : Fr T δ G H G1 H1) : ∀ {r : Rs SV}, EndE K lk T δ E G H Q r → EndE K lk T δ E G1 H1 Q r
  | .ok _ _, h => fun v G' H' f' d x => h v G' H' (f.tr f') d x
  | .exc _ _, h => fun G' H' f' d => h G' H' (f.tr f') d
  | .stuck, h => h
theorem EndT.tr (f : Fr T δ G H G1 H1) : ∀ {r : Rs SV}, EndT K T δ E G H Qb r → EndT K T δ E G1 H1 Qb r
  | .ok _ _, h => let ⟨b, e, h⟩ := h; ⟨b, e, fun G' H' f' d => h G' H' (f.tr f') d⟩
  | .exc _ _, h => fun G' H' f' d => h G' H' (f.tr f') d
  | .stuck, h => h
theorem EndC.tr (f : Fr T δ G H G1 H1) : ∀ {r : Rs D}, EndC K T δ E G H Q r → EndC K T δ E G1 H1 Q r
  | .ok _ _, h => fun v G' H' f' d x => h v G' H' (f.tr f') d x
  | .exc _ _, h => fun G' H' f' d => h G' H' (f.tr f') d
  | .stuck, h => h
theorem EndA.tr (f : Fr T δ G H G1 H1) : ∀ {r : Rs (List SV)}, EndA K lk T δ E G H QA r → EndA K lk T δ E G1 H1 QA r
  | .ok _ _, h => fun v G' H' f' d x => h v G' H' (f.tr f') d x
  | .exc _ _, h => fun G' H' f' d => h G' H' (f.tr f') d
  | .stuck, h => h
/-- an end of any kind, for the ways on -/
class EndK (K : outParam PySem.W.Frag) (T : outParam Tb) (δ : outParam Dl) (E : outParam XK) {β : Type} (e : Hp → Hp → Rs β → Prop) : Prop where
  exc : ∀ {G H c st}, e G H (.exc c st) → ∀ G' H', Fr T δ G H G' H' → DiceAt δ G' H' st → E (c.at K) none H'
  stuck : ∀ {G H}, ¬ e G H .stuck
  tr : ∀ {G H G1 H1 : Hp} {r : Rs β}, Fr T δ G H G1 H1 → e G H r → e G1 H1 r
instance : EndK K T δ E (fun G H r => EndE K lk T δ E G H Q r) := ⟨fun h => h, fun h => h, fun f h => h.tr f⟩
instance : EndK K T δ E (fun G H r => EndT K T δ E G H Qb r) := ⟨fun h => h, fun h => h, fun f h => h.tr f⟩
instance : EndK K T δ E (fun G H r => EndC K T δ E G H Q r) := ⟨fun h => h, fun h => h, fun f h => h.tr f⟩
instance : EndK K T δ E (fun G H r => EndA K lk T δ E G H QA r) := ⟨fun h => h, fun h => h, fun f h => h.tr f⟩
end
/-! ### readings -/
def tD (K : PySem.W.Frag) (T : Tb) (δ : Dl) (E : XK) (f : F) : TE := fun σ H Q => ∃ lk G ev st, Rel lk T δ G H σ ev st ∧ EndE K lk T δ E G H Q (f ev st)
def tT (K : PySem.W.Frag) (T : Tb) (δ : Dl) (E : XK) (f : F) : TT := fun σ H Q => ∃ lk G ev st, Rel lk T δ G H σ ev st ∧ EndT K T δ E G H Q (f ev st)
def tA (K : PySem.W.Frag) (T : Tb) (δ : Dl) (E : XK) (f : Fs) : TA := fun σ H Q => ∃ lk G ev st, Rel lk T δ G H σ ev st ∧ EndA K lk T δ E G H Q (f ev st)
def DE (X : Cx) (T : Tb) (δ : Dl) (E : XK) (e : Expr) (f : F) : Prop := PE X e (tD X.K T δ E f)
def DT (X : Cx) (T : Tb) (δ : Dl) (E : XK) (e : Expr) (f : F) : Prop := PT X e (tT X.K T δ E f)
def DW (X : Cx) (T : Tb) (δ : Dl) (E : XK) (e : Expr) (f : F) : Prop := PW X e (tT X.K T δ E f)
def DA (X : Cx) (T : Tb) (δ : Dl) (E : XK) (es : List Expr) (f : Fs) : Prop := PA X es (tA X.K T δ E f)
section
variable {K : PySem.W.Frag} {lk : Bool} {T : Tb} {δ : Dl} {E : XK} {G H : Hp} {σ : L2.St} {ev : Ev} {st : DSt}
/-- one part reckoned, on to the rest -/
theorem goE {f : F} {β : Type} {k : SV → DSt → Rs β} {e : Hp → Hp → Rs β → Prop} [en : EndK K T δ E e] {R : VK} (r : Rel lk T δ G H σ ev st) (h : e G H ((f ev st).bind k))
    (hk : ∀ sv st1 v G1 H1, f ev st = .ok sv st1 → Fr T δ G H G1 H1 → Rel lk T δ G1 H1 σ ev st1 → VOk lk δ G1 H1 v sv → e G1 H1 (k sv st1) → R v H1) : tD K T δ E f σ H R := by
  refine ⟨lk, G, ev, st, r, ?_⟩
  cases q : f ev st with
  | ok sv st1 =>
    rw [q] at h
    exact fun v G1 H1 f1 d1 x => hk sv st1 v G1 H1 q f1 (r.fr f1 d1) x (en.tr f1 h)
  | exc c st1 =>
    rw [q] at h
    have h : e G H (.exc c st1) := h
    exact en.exc h
  | stuck =>
    rw [q] at h
    have h : e G H .stuck := h
    exact (en.stuck h).elim
theorem goT {f : F} {β : Type} {k : Bool → DSt → Rs β} {e : Hp → Hp → Rs β → Prop} [en : EndK K T δ E e] {R : Bool → Hp → Prop} (r : Rel lk T δ G H σ ev st)
    (h : e G H ((f ev st).bind fun sv st1 => match sv with | .dat (.bool b) => k b st1 | _ => .stuck))
    (hk : ∀ b st1 G1 H1, f ev st = .ok (.dat (.bool b)) st1 → Fr T δ G H G1 H1 → Rel lk T δ G1 H1 σ ev st1 → e G1 H1 (k b st1) → R b H1) : tT K T δ E f σ H R := by
  refine ⟨lk, G, ev, st, r, ?_⟩
  cases q : f ev st with
  | ok sv st1 =>
    rw [q] at h
    have no : ∀ {P : Prop}, e G H .stuck → P := fun z => (en.stuck z).elim
    cases sv with
    | dat d =>
      cases d with
      | bool b => exact ⟨b, rfl, fun G1 H1 f1 d1 => hk b st1 G1 H1 q f1 (r.fr f1 d1) (en.tr f1 h)⟩
      | _ => exact no h
    | _ => exact no h
  | exc c st1 =>
    rw [q] at h
    have h : e G H (.exc c st1) := h
    exact en.exc h
  | stuck =>
    rw [q] at h
    have h : e G H .stuck := h
    exact (en.stuck h).elim
theorem goA {f : Fs} {β : Type} {k : List SV → DSt → Rs β} {e : Hp → Hp → Rs β → Prop} [en : EndK K T δ E e] {R : List V → Hp → Prop} (r : Rel lk T δ G H σ ev st) (h : e G H ((f ev st).bind k))
    (hk : ∀ svs st1 vs G1 H1, f ev st = .ok svs st1 → Fr T δ G H G1 H1 → Rel lk T δ G1 H1 σ ev st1 → AllV lk δ G1 H1 vs svs → e G1 H1 (k svs st1) → R vs H1) : tA K T δ E f σ H R := by
  refine ⟨lk, G, ev, st, r, ?_⟩
  cases q : f ev st with
  | ok sv st1 =>
    rw [q] at h
    exact fun v G1 H1 f1 d1 x => hk sv st1 v G1 H1 q f1 (r.fr f1 d1) x (en.tr f1 h)
  | exc c st1 =>
    rw [q] at h
    have h : e G H (.exc c st1) := h
    exact en.exc h
  | stuck =>
    rw [q] at h
    have h : e G H .stuck := h
    exact (en.stuck h).elim
end
/-! ### names, constants -/
def fVar (i : Nat) : F := fun ev st => match ev[i]? with
  | some (some sv) => .ok sv st
  | _ => .stuck
def fC (d : D) : F := fun _ st => .ok (.dat d) st
section
variable {X : Cx} {T : Tb} {δ : Dl} {E : XK} {a b c : Expr} {pos : Pos}
theorem PE.imp {e : Expr} {t u : TE} (h : PE X e t) (i : ∀ σ H Q, u σ H Q → t σ H Q) : PE X e u := ⟨fun pins s σ H Q I hq => h.run pins s σ H Q I (i σ H Q hq)⟩
theorem PT.imp {e : Expr} {t u : TT} (h : PT X e t) (i : ∀ σ H Q, u σ H Q → t σ H Q) : PT X e u := ⟨fun pins s σ H Q I hq => h.run pins s σ H Q I (i σ H Q hq)⟩
theorem PW.imp {e : Expr} {t u : TT} (h : PW X e t) (i : ∀ σ H Q, u σ H Q → t σ H Q) : PW X e u := ⟨fun wh pins s σ H Q I hq => h.run wh pins s σ H Q I (i σ H Q hq)⟩
theorem PA.imp {es : List Expr} {t u : TA} (h : PA X es t) (i : ∀ σ H Q, u σ H Q → t σ H Q) : PA X es u := ⟨fun pos pins s σ H Q I hq => h.run pos pins s σ H Q I (i σ H Q hq)⟩
theorem PS.imp {e : Stmt} {t u : TS} (h : PS X e t) (i : ∀ D σ H, u D σ H → t D σ H) : PS X e u := ⟨fun pins s σ H D I hq => h.run pins s σ H D I (i D σ H hq)⟩
theorem PSs.imp {e : List Stmt} {t u : TS} (h : PSs X e t) (i : ∀ D σ H, u D σ H → t D σ H) : PSs X e u := ⟨fun pins s σ H D I hq => h.run pins s σ H D I (i D σ H hq)⟩
theorem de_var (i : Nat) {x : Str} (hN : X.N[i]? = some x := by rfl) (hv : Vis X.env.scope x := by first | exact Or.inl rfl | exact Or.inr (Or.inl rfl) | exact Or.inr (Or.inr rfl)) (hd : (x == ("__debug__" : Str)) = false := by decide)
    (hcd : (x == ("__classdict__" : Str)) = false := by decide) : DE X T δ E (.Name x pos) (fVar i) := by
  refine PE.imp (pe_var hN hv hd hcd) fun σ H Q ⟨lk, G, ev, st, r, h⟩ => ?_
  unfold fVar at h
  cases q : ev[i]? with
  | none => rw [q] at h; exact h.elim
  | some o =>
    cases o with
    | none => rw [q] at h; exact h.elim
    | some sv =>
      rw [q] at h
      obtain ⟨v, e, x⟩ := r.sl i sv q
      exact ⟨v, e, h v G H (.rf r.sub r.nt) r.di x⟩
/-- where nothing is made -/
theorem EndE.here {K : PySem.W.Frag} {lk : Bool} {G H : Hp} {σ : L2.St} {ev : Ev} {st : DSt} {Q : VK} {d : D} {v : V} (r : Rel lk T δ G H σ ev st) (h : EndE K lk T δ E G H Q (.ok (.dat d) st)) (x : Rp G v d) : Q v H := h v G H (.rf r.sub r.nt) r.di x
theorem de_int {i : Int} {j : Nat} : DE X T δ E (.Constant (.int i) j pos) (fC (.int i)) := PE.imp pe_int fun σ H Q ⟨lk, G, ev, st, r, h⟩ => EndE.here r h (.int i)
theorem de_bool {i : Bool} {j : Nat} : DE X T δ E (.Constant (.bool i) j pos) (fC (.bool i)) := PE.imp pe_bl fun σ H Q ⟨lk, G, ev, st, r, h⟩ => EndE.here r h (.bl i)
theorem de_none {j : Nat} : DE X T δ E (.Constant .none j pos) (fC .none) := PE.imp pe_non fun σ H Q ⟨lk, G, ev, st, r, h⟩ => EndE.here r h .non
theorem de_str {i : Str} {j : Nat} : DE X T δ E (.Constant (.str i) j pos) (fC (.str i)) := PE.imp pe_str fun σ H Q ⟨lk, G, ev, st, r, h⟩ => EndE.here r h (.str i)
/-! ### operators -/
def of1 (g : D → Option D) (sa : SV) (st : DSt) : Rs SV := match sa.data with
  | some a => (match g a with | some d => .ok (.dat d) st | none => .stuck)
  | none => .stuck
def of2 (g : D → D → Option D) (sa sb : SV) (st : DSt) : Rs SV := match sa.data, sb.data with
  | some a, some b => (match g a b with | some d => .ok (.dat d) st | none => .stuck)
  | _, _ => .stuck
def fOp2 (g : D → D → Option D) (fa fb : F) : F := fun ev st => (fa ev st).bind fun sa st1 => (fb ev st1).bind fun sb st2 => of2 g sa sb st2
def fOp1 (g : D → Option D) (fa : F) : F := fun ev st => (fa ev st).bind fun sa st1 => of1 g sa st1
/-- an operation over data: what it asks -/
def rOp (T : Tb) (g : D → D → Option D) : R2 := fun x y H Q => ∃ G a b d, Sub G H ∧ (∀ b ps, G b ≠ some (.tbl ps)) ∧ Rd1 G H x a ∧ Rd1 G H y b ∧ g a b = some d ∧ ∀ v G' H', Fr T .nil G H G' H' → Rp G' v d → Q v H'
def OpD (X : Cx) (T : Tb) (f : Value → Value → Sem Value) (g : D → D → Option D) : Prop := OpR X f (rOp T g)
theorem of2_some {g : D → D → Option D} {sa sb : SV} {st : DSt} {K : PySem.W.Frag} {lk : Bool} {G H : Hp} {Q : VK} (h : EndE K lk T δ E G H Q (of2 g sa sb st)) :
    ∃ a b d, sa.data = some a ∧ sb.data = some b ∧ g a b = some d ∧ EndE K lk T δ E G H Q (.ok (.dat d) st) := by
  unfold of2 at h
  split at h
  · rename_i a b e1 e2
    split at h
    · rename_i d e3
      exact ⟨a, b, d, e1, e2, e3, h⟩
    · exact h.elim
  · exact h.elim
theorem of1_some {g : D → Option D} {sa : SV} {st : DSt} {K : PySem.W.Frag} {lk : Bool} {G H : Hp} {Q : VK} (h : EndE K lk T δ E G H Q (of1 g sa st)) :
    ∃ a d, sa.data = some a ∧ g a = some d ∧ EndE K lk T δ E G H Q (.ok (.dat d) st) := by
  unfold of1 at h
  split at h
  · rename_i a e1
    split at h
    · rename_i d e3
      exact ⟨a, d, e1, e3, h⟩
    · exact h.elim
  · exact h.elim
/-- the operation's reading from both sides' -/
theorem op2_read {K : PySem.W.Frag} {g : D → D → Option D} {fa fb : F} : ∀ σ H Q, tD K T δ E (fOp2 g fa fb) σ H Q → tOp (rOp T g) (tD K T δ E fa) (tD K T δ E fb) σ H Q := fun σ H Q ⟨lk, G, ev, st, r, h⟩ =>
  goE (e := fun G H r => EndE K lk T δ E G H Q r) r h fun sa st1 v G1 H1 e1 f1 r1 x1 h1 => goE (e := fun G H r => EndE K lk T δ E G H Q r) r1 h1 fun sb st2 w G2 H2 e2 f2 r2 x2 h2 => by
    obtain ⟨a, b, d, e3, e4, e5, h3⟩ := of2_some h2
    exact ⟨G2, a, b, d, r2.sub, r2.nt, (x1.fr f2).rd e3, x2.rd e4, e5, fun v G' H' f x => h3 v G' H' f.any (r2.di.fr f) x⟩
theorem de_op {op : Operator} {g : D → D → Option D} {fa fb : F} (ho : OpD X T (binaryOp op) g) (ha : DE X T δ E a fa) (hb : DE X T δ E b fb) : DE X T δ E (.BinOp a op b pos) (fOp2 g fa fb) :=
  PE.imp (pe_op ho ha hb) op2_read
theorem de_cmp {op : CmpOp} {g : D → D → Option D} {fa fb : F} (ho : OpD X T (compareOp op) g) (ha : DE X T δ E a fa) (hb : DE X T δ E b fb) (hm : behindInMarks op b = false := by first | exact nomark _ (by decide) (by decide) | rfl) : DE X T δ E (.Compare a [op] [b] pos) (fOp2 g fa fb) :=
  PE.imp (pe_cmpR ho ha hb hm) op2_read
/-- a reading whose end is a truth -/
theorem EndT.toE {K : PySem.W.Frag} {lk : Bool} {G H : Hp} {Q : Bool → Hp → Prop} : ∀ {r : Rs SV}, EndT K T δ E G H Q r → EndE K lk T δ E G H (fun x H' => ∃ k, x = .bl k ∧ Q k H') r
  | .ok sv st, ⟨b, e, h⟩ => fun v G' H' f d x => by subst e; cases x; exact ⟨b, rfl, h G' H' f d⟩
  | .exc _ _, h => h
  | .stuck, h => h
theorem dt_cmp {op : CmpOp} {g : D → D → Option D} {fa fb : F} (ho : OpD X T (compareOp op) g) (ha : DE X T δ E a fa) (hb : DE X T δ E b fb) (hm : behindInMarks op b = false := by first | exact nomark _ (by decide) (by decide) | rfl) : DT X T δ E (.Compare a [op] [b] pos) (fOp2 g fa fb) :=
  PT.imp (pt_cmpR ho ha hb hm) fun σ H Q ⟨lk, G, ev, st, r, h⟩ => op2_read σ H _ ⟨lk, G, ev, st, r, h.toE⟩
theorem dt_val {e : Expr} {f : F} (h : DE X T δ E e f) (he : ∀ whole, isTrue e X.env whole = (do let v ← whole; standAt e.pos; holding [v] (truthy v)) := by intro _; rfl) : DT X T δ E e f :=
  PT.imp (pt_val h he) fun σ H Q ⟨lk, G, ev, st, r, h⟩ => ⟨lk, G, ev, st, r, h.toE⟩
/-! ### and, or, not, if -/
def fAnd (fa fb : F) : F := fun ev st => (fa ev st).bind fun sa st1 => match sa with
  | .dat (.bool b) => if b = true then fb ev st1 else .ok (.dat (.bool false)) st1
  | _ => .stuck
def fOr (fa fb : F) : F := fun ev st => (fa ev st).bind fun sa st1 => match sa with
  | .dat (.bool b) => if b = true then .ok (.dat (.bool true)) st1 else fb ev st1
  | _ => .stuck
def fNot (fa : F) : F := fun ev st => (fa ev st).bind fun sa st1 => match sa with
  | .dat (.bool b) => .ok (.dat (.bool (!b))) st1
  | _ => .stuck
def fIf (fc fa fb : F) : F := fun ev st => (fc ev st).bind fun sa st1 => match sa with
  | .dat (.bool b) => if b = true then fa ev st1 else fb ev st1
  | _ => .stuck
variable {fa fb fc : F} {rest : List Expr} {op : BoolOp}
theorem ifE {K : PySem.W.Frag} {lk : Bool} {G H : Hp} {Q : VK} {b : Bool} {r s : Rs SV} (h : EndE K lk T δ E G H Q (if b = true then r else s)) : if b = true then EndE K lk T δ E G H Q r else EndE K lk T δ E G H Q s := by
  cases b <;> exact h
theorem ifT {K : PySem.W.Frag} {G H : Hp} {Q : Bool → Hp → Prop} {b : Bool} {r s : Rs SV} (h : EndT K T δ E G H Q (if b = true then r else s)) : if b = true then EndT K T δ E G H Q r else EndT K T δ E G H Q s := by
  cases b <;> exact h
/-- a truth as a value -/
theorem goEB {K : PySem.W.Frag} {lk : Bool} {G H : Hp} {σ : L2.St} {ev : Ev} {st : DSt} {f : F} {β : Type} {k : Bool → DSt → Rs β} {e : Hp → Hp → Rs β → Prop} [en : EndK K T δ E e] {R : VK} (r : Rel lk T δ G H σ ev st)
    (h : e G H ((f ev st).bind fun sv st1 => match sv with | .dat (.bool b) => k b st1 | _ => .stuck))
    (hk : ∀ b st1 G1 H1, f ev st = .ok (.dat (.bool b)) st1 → Fr T δ G H G1 H1 → Rel lk T δ G1 H1 σ ev st1 → e G1 H1 (k b st1) → R (.bl b) H1) : tD K T δ E f σ H R :=
  goE (e := e) r h fun sv st1 v G1 H1 e1 f1 r1 x1 h1 => by
    have no : ∀ {P : Prop}, e G1 H1 .stuck → P := fun z => (en.stuck z).elim
    cases sv with
    | dat d =>
      cases d with
      | bool b => cases x1; exact hk b st1 G1 H1 e1 f1 r1 h1
      | _ => exact no h1
    | _ => exact no h1
theorem de_one (ha : DE X T δ E a fa) : DE X T δ E (.BoolOp op [a] pos) fa := pe_one ha
theorem de_and (ha : DE X T δ E a fa) (hb : DE X T δ E (.BoolOp .And (b :: rest) pos) fb) : DE X T δ E (.BoolOp .And (a :: b :: rest) pos) (fAnd fa fb) :=
  PE.imp (pe_and ha hb) fun σ H Q ⟨lk, G, ev, st, r, h⟩ => goEB (e := fun G H r => EndE X.K lk T δ E G H Q r) r h fun b st1 G1 H1 e1 f1 r1 h1 => by
    refine ⟨b, rfl, ?_⟩
    cases b with
    | true => exact ⟨lk, G1, ev, st1, r1, h1⟩
    | false => exact EndE.here r1 h1 (.bl false)
theorem de_or (ha : DE X T δ E a fa) (hb : DE X T δ E (.BoolOp .Or (b :: rest) pos) fb) : DE X T δ E (.BoolOp .Or (a :: b :: rest) pos) (fOr fa fb) :=
  PE.imp (pe_or ha hb) fun σ H Q ⟨lk, G, ev, st, r, h⟩ => goEB (e := fun G H r => EndE X.K lk T δ E G H Q r) r h fun b st1 G1 H1 e1 f1 r1 h1 => by
    refine ⟨b, rfl, ?_⟩
    cases b with
    | false => exact ⟨lk, G1, ev, st1, r1, h1⟩
    | true => exact EndE.here r1 h1 (.bl true)
theorem de_not (ha : DE X T δ E a fa) : DE X T δ E (.UnaryOp .Not a pos) (fNot fa) :=
  PE.imp (pe_not ha) fun σ H Q ⟨lk, G, ev, st, r, h⟩ => goEB (e := fun G H r => EndE X.K lk T δ E G H Q r) r h fun b st1 G1 H1 e1 f1 r1 h1 => ⟨b, rfl, EndE.here r1 h1 (.bl (!b))⟩
theorem de_if (hc : DT X T δ E c fc) (ha : DE X T δ E a fa) (hb : DE X T δ E b fb) : DE X T δ E (.IfExp c a b pos) (fIf fc fa fb) :=
  PE.imp (pe_ifExp hc ha hb) fun σ H Q ⟨lk, G, ev, st, r, h⟩ => goT (e := fun G H r => EndE X.K lk T δ E G H Q r) r h fun b st1 G1 H1 e1 f1 r1 h1 => by
    cases b with
    | true => exact ⟨lk, G1, ev, st1, r1, h1⟩
    | false => exact ⟨lk, G1, ev, st1, r1, h1⟩
theorem dw_and1 (ha : DT X T δ E a fa) : DW X T δ E (.BoolOp .And [a] pos) fa := pw_and1 ha
theorem dw_or1 (ha : DT X T δ E a fa) : DW X T δ E (.BoolOp .Or [a] pos) fa := pw_or1 ha
theorem EndT.here {K : PySem.W.Frag} {lk : Bool} {G H : Hp} {σ : L2.St} {ev : Ev} {st : DSt} {Q : Bool → Hp → Prop} {b : Bool} (r : Rel lk T δ G H σ ev st) (h : EndT K T δ E G H Q (.ok (.dat (.bool b)) st)) : Q b H := by
  obtain ⟨c, e, h⟩ := h
  cases e
  exact h G H (.rf r.sub r.nt) r.di
theorem dw_and (ha : DT X T δ E a fa) (hb : DW X T δ E (.BoolOp .And (b :: rest) pos) fb) : DW X T δ E (.BoolOp .And (a :: b :: rest) pos) (fAnd fa fb) :=
  PW.imp (pw_and ha hb) fun σ H Q ⟨lk, G, ev, st, r, h⟩ => goT (e := fun G H r => EndT X.K T δ E G H Q r) r h fun b st1 G1 H1 e1 f1 r1 h1 => by
    cases b with
    | true => exact ⟨lk, G1, ev, st1, r1, h1⟩
    | false => exact EndT.here r1 h1
theorem dw_or (ha : DT X T δ E a fa) (hb : DW X T δ E (.BoolOp .Or (b :: rest) pos) fb) : DW X T δ E (.BoolOp .Or (a :: b :: rest) pos) (fOr fa fb) :=
  PW.imp (pw_or ha hb) fun σ H Q ⟨lk, G, ev, st, r, h⟩ => goT (e := fun G H r => EndT X.K T δ E G H Q r) r h fun b st1 G1 H1 e1 f1 r1 h1 => by
    cases b with
    | false => exact ⟨lk, G1, ev, st1, r1, h1⟩
    | true => exact EndT.here r1 h1
theorem dt_w {e : Expr} (h : DW X T δ E e fa) : DT X T δ E e fa := PW.pt h
theorem dt_not (ha : DT X T δ E a fa) : DT X T δ E (.UnaryOp .Not a pos) (fNot fa) :=
  PT.imp (pt_not ha) fun σ H Q ⟨lk, G, ev, st, r, h⟩ => goT (e := fun G H r => EndT X.K T δ E G H Q r) r h fun b st1 G1 H1 e1 f1 r1 h1 => EndT.here r1 h1
/-! ### chains -/
def fChain (g g' : D → D → Option D) (fa fb fc : F) : F := fun ev st => (fa ev st).bind fun sa st1 => (fb ev st1).bind fun sb st2 => (of2 g sa sb st2).bind fun sv st3 => match sv with
  | .dat (.bool b) => if b = true then (fc ev st3).bind fun sc st4 => of2 g' sb sc st4 else .ok (.dat (.bool false)) st3
  | _ => .stuck
end
end DL

set_option maxHeartbeats 4000000
/-! operators over data -/
namespace DL
open PySem PySem.Spec PyProof.Rows L2
def lim : Nat := 1000000
theorem lim_line {n : Nat} (h : n ≤ lim) : n ≤ sizeLine := by rw [sizeLine_eq]; unfold lim at h; omega
section
variable {X : Cx} {T : Tb} {G H : Hp} {Q : VK}
/-- a new tuple, list of data -/
theorem newT {p : Addr} {vs : List V} {ds : List D} (s : Sub G H) (nt : ∀ b ps, G b ≠ some (.tbl ps)) (hp : H p = none) (r : RpA G vs ds)
    (h : ∀ v G' H', Fr T .nil G H G' H' → Rp G' v (.tuple ds) → Q v H') : Q (.ref p) (upd H p (.tup vs)) := by
  have f : Fr T .nil G H (upd G p (.tup vs)) (upd H p (.tup vs)) := .new s nt hp (fun _ z => by cases z)
  exact h _ _ _ f (.tup upd_same (r.mono f.gg))
theorem newL {p : Addr} {vs : List V} {ds : List D} (s : Sub G H) (nt : ∀ b ps, G b ≠ some (.tbl ps)) (hp : H p = none) (r : RpA G vs ds)
    (h : ∀ v G' H', Fr T .nil G H G' H' → Rp G' v (.list ds) → Q v H') : Q (.ref p) (upd H p (.lst vs)) := by
  have f : Fr T .nil G H (upd G p (.lst vs)) (upd H p (.lst vs)) := .new s nt hp (fun _ z => by cases z)
  exact h _ _ _ f (.lst upd_same (r.mono f.gg))
theorem same_ {v : V} {d : D} (s : Sub G H) (nt : ∀ b ps, G b ≠ some (.tbl ps)) (r : Rp G v d) (h : ∀ v G' H', Fr T .nil G H G' H' → Rp G' v d → Q v H') : Q v H := h _ _ _ (.rf s nt) r
theorem Rd1.tupRp {v : V} {ds : List D} (h : Rd1 G H v (.tuple ds)) : Rp G v (.tuple ds) := by cases h with | dat h => exact h
theorem RpA.nil_iff {vs : List V} {ds : List D} (r : RpA G vs ds) : vs = [] ↔ ds = [] := by cases r <;> simp
def gAdd : D → D → Option D
  | .int i, .int j => some (.int (i + j))
  | .str x, .str y => if x.length + y.length ≤ lim then some (.str (x ++ y)) else none
  | .list xs, .list ys => if xs.length + ys.length ≤ lim then some (.list (xs ++ ys)) else none
  | .tuple xs, .tuple ys => if xs.length + ys.length ≤ lim then some (.tuple (xs ++ ys)) else none
  | _, _ => none
theorem od_add : OpD X T (binaryOp .Add) gAdd := by
  intro pins s σ H x y v u Q I rx ry h
  obtain ⟨G, a, b, d, sub, nt, ha, hb, hg, q⟩ := h
  unfold gAdd at hg
  split at hg
  · cases ha.int; cases hb.int; cases hg
    exact op_add pins s σ H _ _ v u Q I rx ry ⟨_, _, rfl, rfl, same_ sub nt (.int _) q⟩
  · split at hg
    · rename_i hl
      cases ha.str; cases hb.str; cases hg
      exact op_add_str pins s σ H _ _ v u Q I rx ry ⟨_, _, rfl, rfl, lim_line hl, same_ sub nt (.str _) q⟩
    · cases hg
  · split at hg
    · rename_i hl
      obtain ⟨p, vs, rfl, hp, ra⟩ := ha.list sub
      obtain ⟨p2, vs2, rfl, hp2, ra2⟩ := hb.list sub
      cases hg
      refine op_cat pins s σ H _ _ v u Q I rx ry ⟨_, _, _, _, rfl, rfl, hp, hp2, by rw [ra.length, ra2.length]; exact lim_line hl, fun p hn => newL sub nt hn (ra.app ra2) q⟩
    · cases hg
  · split at hg
    · rename_i hl
      obtain ⟨p, vs, rfl, hp, ra⟩ := ha.tuple sub
      obtain ⟨p2, vs2, rfl, hp2, ra2⟩ := hb.tuple sub
      cases hg
      refine op_catA pins s σ H _ _ v u Q I rx ry ⟨_, _, _, _, rfl, rfl, SqT.of hp, SqT.of hp2, by rw [ra.length, ra2.length]; exact lim_line hl, fun e => ?_, fun _ e => ?_, fun _ _ p hn => newT sub nt hn (ra.app ra2) q⟩
      · have e2 := ra.nil_iff.mp e
        rw [e2, List.nil_append] at q
        exact same_ sub nt hb.tupRp q
      · have e2 := ra2.nil_iff.mp e
        rw [e2, List.append_nil] at q
        exact same_ sub nt ha.tupRp q
    · cases hg
  · cases hg
def gSub : D → D → Option D
  | .int i, .int j => some (.int (i - j))
  | _, _ => none
theorem od_sub : OpD X T (binaryOp .Sub) gSub := by
  intro pins s σ H x y v u Q I rx ry h
  obtain ⟨G, a, b, d, sub, nt, ha, hb, hg, q⟩ := h
  unfold gSub at hg
  split at hg
  · cases ha.int; cases hb.int; cases hg
    exact op_sub pins s σ H _ _ v u Q I rx ry ⟨_, _, rfl, rfl, same_ sub nt (.int _) q⟩
  · cases hg
def mulOk (i j : Int) : Bool := (decide (i.natAbs < 2 ^ 64) || decide (j.natAbs < 2 ^ 64)) || (decide (i.natAbs < 2 ^ 1000) && decide (j.natAbs < 2 ^ 1000))
theorem pow64 : (2 : Int) ^ 64 = ((2 ^ 64 : Nat) : Int) := by rw [Int.natCast_pow]; rfl
theorem lt64 {i : Int} (h : i.natAbs < 2 ^ 64) : -(2 ^ 64) < i ∧ i < 2 ^ 64 := by
  rw [pow64]
  omega
theorem repT1 {l : Addr} {items : Array Value} {n : Nat} {dd : Option Addr} {sl : Array (Option Value)} {x : Int} {u : Tok} (c0 : (decide (x < -(2 ^ 63)) || decide (x ≥ 2 ^ 63)) = false) (c1 : (items.isEmpty || x == 1) = true) :
    Meets (Builtin.«tuple.__mul__» ⟨[.ref l, .int x u], []⟩) (fun _ R s => s.heap.get? l = some { cls := .type "tuple", dict := dd, data := .seq items n, slots := sl } ∧
      R (.ok (.ret (Value.ref l))) s) :=
  .of_wp fun prog w A R s h => by
    obtain ⟨hp, g, d, tk, os⟩ := s
    obtain ⟨hl, h⟩ := h
    have f1 := AutoSeq1.idx_int
    wp_walk using wpAny_loadPart' hl
    repeat (first
      | (refine wpAny_ite_false (decide_eq_false (by rw [c0]; exact Bool.false_ne_true)) ?_; wp_walk using wpAny_loadPart' hl)
      | (refine wpAny_ite_true (decide_eq_true c1) ?_; wp_walk using wpAny_loadPart' hl))
    exact ⟨_, rfl, h⟩
theorem repT0 {l : Addr} {items : Array Value} {n : Nat} {dd : Option Addr} {sl : Array (Option Value)} {x : Int} {u : Tok} (c0 : (decide (x < -(2 ^ 63)) || decide (x ≥ 2 ^ 63)) = false) (c1 : (items.isEmpty || x == 1) = false) (c2 : (decide (x ≤ 0) || items.isEmpty) = true) :
    Meets (Builtin.«tuple.__mul__» ⟨[.ref l, .int x u], []⟩) (fun _ R s => s.heap.get? l = some { cls := .type "tuple", dict := dd, data := .seq items n, slots := sl } ∧
      R (.ok (.ret (Value.ref s.heap.objs.size))) { s with heap := s.heap.push { cls := Value.type "tuple", data := Data.seq #[] }, toks := s.toks }) :=
  .of_wp fun prog w A R s h => by
    obtain ⟨hp, g, d, tk, os⟩ := s
    obtain ⟨hl, h⟩ := h
    have f1 := AutoSeq1.idx_int
    wp_walk using wpAny_loadPart' hl
    repeat (first
      | (refine wpAny_ite_false (decide_eq_false (by rw [c0]; exact Bool.false_ne_true)) ?_; wp_walk using wpAny_loadPart' hl)
      | (refine wpAny_ite_false (decide_eq_false (by rw [c1]; exact Bool.false_ne_true)) ?_; wp_walk using wpAny_loadPart' hl)
      | (refine wpAny_ite_true (decide_eq_true c2) ?_; wp_walk using wpAny_loadPart' hl))
    exact ⟨_, rfl, h⟩
def rep {α : Type} (xs : List α) (k : Int) : List α := (List.replicate k.toNat xs).flatten
def gMul : D → D → Option D
  | .int i, .int j => if mulOk i j = true then some (.int (i * j)) else none
  | .tuple xs, .int k => if xs.length ≤ 1000 ∧ -1000 ≤ k ∧ k ≤ 1000 then some (.tuple (rep xs k)) else none
  | .list xs, .int k => if xs.length ≤ 1000 ∧ -1000 ≤ k ∧ k ≤ 1000 then some (.list (rep xs k)) else none
  | _, _ => none
theorem op_repT' : OpR X (binaryOp .Mult) (fun x y H Q => ∃ l k xs, x = .ref l ∧ y = .int k ∧ SqT X.K H l xs ∧ -1000 ≤ k ∧ k ≤ 1000 ∧ xs.length ≤ 1000 ∧
    ((xs = [] ∨ k = 1) → Q (.ref l) H) ∧ (¬ (xs = [] ∨ k = 1) → ∀ p, H p = none → Q (.ref p) (upd H p (.tup (rep xs k))))) := by
  intro pins s σ H x y v u Q I rx ry h
  obtain ⟨l, k, xs, rfl, rfl, hT, h0, h1, hz, q1, q2⟩ := h
  by_cases hA : 2 ≤ k ∧ xs ≠ []
  · exact op_repT pins s σ H _ _ v u Q I rx ry ⟨l, k, xs, rfl, rfl, hT, hA.2, hA.1, h1, hz, q2 (fun z => by rcases z with z | z; exact hA.2 z; omega)⟩
  cases rx
  obtain ⟨t, rfl⟩ := ry
  obtain ⟨its, r, ⟨⟨cls, dd, data, sl⟩, ho, hc, n, hd⟩, hs⟩ := I.tuple hT
  simp only at hc hd
  subst hc hd
  have c0 : (decide (k < -(2 ^ 63)) || decide (k ≥ 2 ^ 63)) = false := by
    rw [decide_eq_false (by omega), decide_eq_false (by omega)] <;> rfl
  have hie : its.toArray.isEmpty = true ↔ xs = [] := by
    have e := r.length
    constructor
    · intro z
      have z1 : its = [] := by
        cases its with
        | nil => rfl
        | cons a b => cases z
      rw [z1] at e
      exact List.eq_nil_of_length_eq_zero e
    · intro z
      rw [z] at e
      have z1 := List.eq_nil_of_length_eq_zero e.symm
      rw [z1]; rfl
  by_cases hB : xs = [] ∨ k = 1
  · have c1 : (its.toArray.isEmpty || k == 1) = true := by
      rcases hB with z | z
      · rw [hie.mpr z]; rfl
      · rw [z]; simp
    exact wpAny_binaryOp_repeat_ref (T := "tuple") (U := "int") (by decide) ⟨_, ho, rfl⟩ (fun s' => typeIs_int s' k t) noFill_tuple_mul F.fills_int_mul F.slot_int_rmul repeat_tuple F.slot_int_index.lookup
      (call_meets F.slot_int_rmul (typeIs_int s k t) F.entry_int_rmul (F.args_int_rmul_2 _ _) (int_rmul_tuple k t l its.toArray n dd sl)
        ⟨ho, rfl, ⟨_, ho, rfl⟩, call_meets F.slot_tuple_mul ⟨_, ho, rfl⟩ F.entry_tuple_mul (F.args_tuple_mul_2 _ _) (repT1 (n := n) (dd := dd) (sl := sl) c0 c1) ⟨ho, ⟨.ref l, H, I, rfl, q1 hB⟩⟩⟩)
  · have hx : xs ≠ [] := fun z => hB (.inl z)
    have hk : k ≤ 0 := by
      rcases Int.lt_or_le 1 k with z | z
      · exact absurd ⟨by omega, hx⟩ hA
      · have : k ≠ 1 := fun z => hB (.inr z)
        omega
    have c1 : (its.toArray.isEmpty || k == 1) = false := by
      have z1 : its.toArray.isEmpty = false := by
        cases z : its.toArray.isEmpty with
        | false => rfl
        | true => exact absurd (hie.mp z) hx
      rw [z1, Bool.false_or]
      exact beq_eq_false_iff_ne.mpr (by omega)
    have c2 : (decide (k ≤ 0) || its.toArray.isEmpty) = true := by rw [decide_eq_true hk]; rfl
    have q3 := q2 hB
    have e0 : rep xs k = [] := by
      unfold rep
      rw [show k.toNat = 0 from by omega]
      rfl
    rw [e0] at q3
    refine wpAny_binaryOp_repeat_ref (T := "tuple") (U := "int") (by decide) ⟨_, ho, rfl⟩ (fun s' => typeIs_int s' k t) noFill_tuple_mul F.fills_int_mul F.slot_int_rmul repeat_tuple F.slot_int_index.lookup
      (call_meets F.slot_int_rmul (typeIs_int s k t) F.entry_int_rmul (F.args_int_rmul_2 _ _) (int_rmul_tuple k t l its.toArray n dd sl)
        ⟨ho, rfl, ⟨_, ho, rfl⟩, call_meets F.slot_tuple_mul ⟨_, ho, rfl⟩ F.entry_tuple_mul (F.args_tuple_mul_2 _ _) (repT0 (n := n) (dd := dd) (sl := sl) c0 c1 c2) ⟨ho, ?_⟩⟩)
    exact ⟨.ref s.heap.objs.size, _, I.laid (t' := s.toks) (o := .tup []) (fun b ob q => Heap.get?_push_of_some _ q) (Nat.le_refl _) ⟨by simp, [], .nil, IsTup.new _ _⟩, rfl, q3 _ (I.hok.fresh (Nat.le_refl _))⟩
theorem RpA.repI {vs : List V} {ds : List D} (h : RpA G vs ds) (k : Int) : RpA G (DL.rep vs k) (DL.rep ds k) := h.flat _
theorem rep_nil {α : Type} (k : Int) : rep ([] : List α) k = [] := by
  unfold rep
  induction k.toNat with
  | zero => rfl
  | succ n ih => rw [List.replicate_succ, List.flatten_cons, ih]; rfl
theorem rep_one {α : Type} (xs : List α) : rep xs 1 = xs := by
  show (List.replicate 1 xs).flatten = xs
  simp
theorem od_mul : OpD X T (binaryOp .Mult) gMul := by
  intro pins s σ H x y v u Q I rx ry h
  obtain ⟨G, a, b, d, sub, nt, ha, hb, hg, q⟩ := h
  unfold gMul at hg
  split at hg
  · rename_i i j
    split at hg
    · rename_i hl
      cases ha.int; cases hb.int; cases hg
      have q' := same_ sub nt (.int (i * j)) q
      unfold mulOk at hl
      rw [Bool.or_eq_true, Bool.or_eq_true, Bool.and_eq_true, decide_eq_true_eq, decide_eq_true_eq, decide_eq_true_eq, decide_eq_true_eq] at hl
      rcases hl with (z | z) | ⟨z1, z2⟩
      · exact op_mul pins s σ H _ _ v u Q I rx ry ⟨_, _, rfl, rfl, .inl (lt64 z), q'⟩
      · exact op_mul pins s σ H _ _ v u Q I rx ry ⟨_, _, rfl, rfl, .inr (lt64 z), q'⟩
      · exact op_mulW pins s σ H _ _ v u Q I rx ry ⟨_, _, rfl, rfl, wide_mul z1 z2 (by decide) (by decide) (by decide), q'⟩
    · cases hg
  · split at hg
    · rename_i hl
      obtain ⟨p, vs, rfl, hp, ra⟩ := ha.tuple sub
      cases hb.int
      cases hg
      refine op_repT' pins s σ H _ _ v u Q I rx ry ⟨_, _, _, rfl, rfl, SqT.of hp, hl.2.1, hl.2.2, by rw [ra.length]; exact hl.1, fun z => ?_, fun _ p hn => newT sub nt hn (ra.repI _) q⟩
      rcases z with z | z
      · rw [ra.nil_iff.mp z, rep_nil] at q
        rw [ra.nil_iff.mp z] at ha
        exact same_ sub nt ha.tupRp q
      · rw [z, rep_one] at q
        exact same_ sub nt ha.tupRp q
    · cases hg
  · split at hg
    · rename_i xs k hl
      obtain ⟨p, vs, rfl, hp, ra⟩ := ha.list sub
      cases hb.int
      cases hg
      have e : vs.length ≤ 1000 := by rw [ra.length]; exact hl.1
      have e2 : (List.replicate k.toNat vs).flatten = rep vs k := rfl
      refine op_rep pins s σ H _ _ v u Q I rx ry ⟨_, _, _, rfl, rfl, hp, by omega, by omega, ?_, fun p hn => newL sub nt hn (ra.repI _) q⟩
      rw [sizeLine_eq]
      have a1 : vs.length * k.toNat ≤ 1000 * 1000 := Nat.mul_le_mul e (by omega)
      omega
    · cases hg
  · cases hg
def gFdiv : D → D → Option D
  | .int i, .int j => if 0 < j ∧ j.natAbs < 2 ^ 1000 then some (.int (i / j)) else none
  | _, _ => none
theorem od_fdiv : OpD X T (binaryOp .FloorDiv) gFdiv := by
  intro pins s σ H x y v u Q I rx ry h
  obtain ⟨G, a, b, d, sub, nt, ha, hb, hg, q⟩ := h
  unfold gFdiv at hg
  split at hg
  · split at hg
    · rename_i hl
      cases ha.int; cases hb.int; cases hg
      exact op_fdivW pins s σ H _ _ v u Q I rx ry ⟨_, _, rfl, rfl, wide_div hl.1 hl.2 (by decide) (by decide), same_ sub nt (.int _) q⟩
    · cases hg
  · cases hg
def gMod : D → D → Option D
  | .int i, .int j => if 0 < j then some (.int (i % j)) else none
  | _, _ => none
theorem od_mod : OpD X T (binaryOp .Mod) gMod := by
  intro pins s σ H x y v u Q I rx ry h
  obtain ⟨G, a, b, d, sub, nt, ha, hb, hg, q⟩ := h
  unfold gMod at hg
  split at hg
  · split at hg
    · rename_i hl
      cases ha.int; cases hb.int; cases hg
      exact op_mod pins s σ H _ _ v u Q I rx ry ⟨_, _, rfl, rfl, hl, same_ sub nt (.int _) q⟩
    · cases hg
  · cases hg
def gPow : D → D → Option D
  | .int i, .int j => if 0 ≤ j ∧ j ≤ 1000 ∧ i.natAbs < 2 ^ 64 then some (.int (i ^ j.toNat)) else none
  | _, _ => none
theorem od_pow : OpD X T (binaryOp .Pow) gPow := by
  intro pins s σ H x y v u Q I rx ry h
  obtain ⟨G, a, b, d, sub, nt, ha, hb, hg, q⟩ := h
  unfold gPow at hg
  split at hg
  · split at hg
    · rename_i hl
      cases ha.int; cases hb.int; cases hg
      exact op_pow pins s σ H _ _ v u Q I rx ry ⟨_, _, rfl, rfl, ⟨hl.1, by omega, hl.2.2⟩, same_ sub nt (.int _) q⟩
    · cases hg
  · cases hg
/-! ### comparisons -/
def gOrd (p : Int → Int → Bool) : D → D → Option D
  | .int i, .int j => some (.bool (p i j))
  | _, _ => none
theorem od_ord {op : CmpOp} {p : Int → Int → Bool} (ho : OpR X (compareOp op) (rI0 fun i j => .bl (p i j))) : OpD X T (compareOp op) (gOrd p) := by
  intro pins s σ H x y v u Q I rx ry h
  obtain ⟨G, a, b, d, sub, nt, ha, hb, hg, q⟩ := h
  unfold gOrd at hg
  split at hg
  · cases ha.int; cases hb.int; cases hg
    exact ho pins s σ H _ _ v u Q I rx ry ⟨_, _, rfl, rfl, same_ sub nt (.bl _) q⟩
  · cases hg
abbrev gLt := gOrd fun i j => decide (i < j)
abbrev gLe := gOrd fun i j => decide (i ≤ j)
abbrev gGt := gOrd fun i j => decide (j < i)
abbrev gGe := gOrd fun i j => decide (j ≤ i)
theorem od_lt : OpD X T (compareOp .Lt) gLt := od_ord op_lt
theorem od_le : OpD X T (compareOp .LtE) gLe := od_ord op_le
theorem od_gt : OpD X T (compareOp .Gt) gGt := od_ord op_gt
theorem od_ge : OpD X T (compareOp .GtE) gGe := od_ord op_ge
def gEq (a b : D) : Option D := if (SeqAt.shaped a && SeqAt.shaped b) = true then some (.bool (PyData.eqv a b)) else none
def gNe (a b : D) : Option D := if (SeqAt.shaped a && SeqAt.shaped b) = true then some (.bool (!PyData.eqv a b)) else none
theorem od_eq (hu : X.A.units + 64 < cLine) : OpD X T (compareOp .Eq) gEq := by
  intro pins s σ H x y v u Q I rx ry h
  obtain ⟨G, a, b, d, sub, nt, ha, hb, hg, q⟩ := h
  unfold gEq at hg
  split at hg
  · rename_i hl
    rw [Bool.and_eq_true] at hl
    cases hg
    exact op_eqD hu pins s σ H _ _ v u Q I rx ry ⟨a, b, ha.dp sub (SeqAt.canLay_of_shaped hl.1), hb.dp sub (SeqAt.canLay_of_shaped hl.2), hl.1, hl.2, same_ sub nt (.bl _) q⟩
  · cases hg
theorem od_ne (hu : X.A.units + 64 < cLine) : OpD X T (compareOp .NotEq) gNe := by
  intro pins s σ H x y v u Q I rx ry h
  obtain ⟨G, a, b, d, sub, nt, ha, hb, hg, q⟩ := h
  unfold gNe at hg
  split at hg
  · rename_i hl
    rw [Bool.and_eq_true] at hl
    cases hg
    exact op_neD hu pins s σ H _ _ v u Q I rx ry ⟨a, b, ha.dp sub (SeqAt.canLay_of_shaped hl.1), hb.dp sub (SeqAt.canLay_of_shaped hl.2), hl.1, hl.2, same_ sub nt (.bl _) q⟩
  · cases hg
/-- is None; is True -/
def isNone : D → Bool
  | .none => true
  | _ => false
def gIs : D → D → Option D
  | a, .none => some (.bool (isNone a))
  | .bool a, .bool b => some (.bool (decide (a = b)))
  | _, _ => none
def gIsNot : D → D → Option D
  | a, .none => some (.bool (!isNone a))
  | .bool a, .bool b => some (.bool (!decide (a = b)))
  | _, _ => none
theorem isNone_v {v : V} {a : D} (h : Rd1 G H v a) : decide (v = .non) = isNone a := by
  cases h with
  | dat h => cases h <;> simp [isNone]
  | lst e _ _ => subst e; simp [isNone]
  | dct e _ _ => subst e; simp [isNone]
theorem od_is : OpD X T (compareOp .Is) gIs := by
  intro pins s σ H x y v u Q I rx ry h
  obtain ⟨G, a, b, d, sub, nt, ha, hb, hg, q⟩ := h
  unfold gIs at hg
  split at hg
  · cases hb.nonV; cases hg
    exact op_isN pins s σ H _ _ v u Q I rx ry ⟨rfl, by rw [isNone_v ha]; exact same_ sub nt (.bl _) q⟩
  · cases ha.bool; cases hb.bool; cases hg
    exact op_isBl pins s σ H _ _ v u Q I rx ry ⟨_, _, rfl, rfl, same_ sub nt (.bl _) q⟩
  · cases hg
theorem od_isnot : OpD X T (compareOp .IsNot) gIsNot := by
  intro pins s σ H x y v u Q I rx ry h
  obtain ⟨G, a, b, d, sub, nt, ha, hb, hg, q⟩ := h
  unfold gIsNot at hg
  split at hg
  · cases hb.nonV; cases hg
    exact op_notN pins s σ H _ _ v u Q I rx ry ⟨rfl, by rw [isNone_v ha]; exact same_ sub nt (.bl _) q⟩
  · cases ha.bool; cases hb.bool; cases hg
    exact op_notBl pins s σ H _ _ v u Q I rx ry ⟨_, _, rfl, rfl, same_ sub nt (.bl _) q⟩
  · cases hg
end
end DL

set_option maxHeartbeats 4000000
/-! dicts, in, subscripts, built-in functions -/
namespace DL
open PySem PySem.Spec PyProof.Rows L2
/-! ### dicts of data -/
def dLook (kvs : List (D × D)) (k : D) : Option D := (kvs.find? fun p => PyData.eqv p.1 k).map (·.2)
def dPut (kvs : List (D × D)) (k v : D) : List (D × D) :=
  if (kvs.any fun p => PyData.eqv p.1 k) = true then kvs.map (fun p => if PyData.eqv p.1 k = true then (p.1, v) else p) else kvs ++ [(k, v)]
/-- a tuple of ints -/
def intsOf : List D → Option (List Int)
  | [] => some []
  | .int i :: r => (intsOf r).map (i :: ·)
  | _ :: _ => none
theorem intsOf_eq : ∀ {ds : List D} {is : List Int}, intsOf ds = some is → ds = is.map PyData.int
  | [], is, e => by cases e; rfl
  | .int i :: r, is, e => by
    unfold intsOf at e
    obtain ⟨js, e1, e2⟩ := Option.map_eq_some_iff.mp e
    subst e2
    rw [intsOf_eq e1]; rfl
  | .none :: _, _, e => by cases e
  | .bool _ :: _, _, e => by cases e
  | .str _ :: _, _, e => by cases e
  | .list _ :: _, _, e => by cases e
  | .tuple _ :: _, _, e => by cases e
  | .dict _ :: _, _, e => by cases e
theorem intsOf_map : ∀ is : List Int, intsOf (is.map PyData.int) = some is
  | [] => rfl
  | i :: r => by
    show (intsOf (r.map PyData.int)).map (i :: ·) = some (i :: r)
    rw [intsOf_map r]; rfl
theorem eqvAll_ints : ∀ is js : List Int, PyData.eqvAll (is.map PyData.int) (js.map PyData.int) = decide (is = js)
  | [], [] => rfl
  | [], _ :: _ => rfl
  | _ :: _, [] => rfl
  | i :: is, j :: js => by
    show (PyData.eqv (.int i) (.int j) && PyData.eqvAll (is.map PyData.int) (js.map PyData.int)) = _
    rw [eqvAll_ints is js]
    show ((i == j) && decide (is = js)) = _
    by_cases e : i = j
    · subst e; simp
    · have : (i == j) = false := beq_eq_false_iff_ne.mpr e
      rw [this, Bool.false_and]
      exact (decide_eq_false (fun z => e (List.cons.inj z).1)).symm
theorem eqv_tups (is js : List Int) : PyData.eqv (.tuple (is.map PyData.int)) (.tuple (js.map PyData.int)) = decide (is = js) := by
  show PyData.eqvAll _ _ = _
  exact eqvAll_ints is js
theorem inl_inj {is js : List Int} : (is.map Sum.inl : List Key) = js.map Sum.inl ↔ is = js := by
  constructor
  · intro h
    induction is generalizing js with
    | nil => cases js with | nil => rfl | cons a b => cases h
    | cons i is ih =>
      cases js with
      | nil => cases h
      | cons j js =>
        rw [List.map_cons, List.map_cons] at h
        injection h with h1 h2
        rw [Sum.inl.inj h1, ih h2]
  · intro h; rw [h]
def RelOpt (G : Hp) : Option V → Option D → Prop
  | some v, some d => Rp G v d
  | none, none => True
  | _, _ => False
theorem RpK.look {G : Hp} (js : List Int) : ∀ {ks : List (List Key × V)} {kvs : List (D × D)}, RpK G ks kvs → RelOpt G (valV ks (js.map Sum.inl)) (dLook kvs (.tuple (js.map PyData.int)))
  | _, _, .nil => trivial
  | _, _, .cons (is := is) (ks := ks) (kvs := kvs) (v := v) (d := d) h r => by
    have ih := RpK.look js r
    unfold dLook at ih ⊢
    rw [List.find?_cons]
    simp only
    rw [eqv_tups]
    by_cases e : is = js
    · rw [valV_pos (p := (is.map Sum.inl, v)) (inl_inj.mpr e), decide_eq_true e]
      exact h
    · rw [valV_neg (p := (is.map Sum.inl, v)) (fun z => e (inl_inj.mp z)), decide_eq_false e]
      exact ih
theorem RpK.length {G : Hp} : ∀ {ks : List (List Key × V)} {kvs : List (D × D)}, RpK G ks kvs → ks.length = kvs.length
  | _, _, .nil => rfl
  | _, _, .cons _ r => congrArg (· + 1) r.length
theorem RpK.any {G : Hp} (js : List Int) : ∀ {ks : List (List Key × V)} {kvs : List (D × D)}, RpK G ks kvs → (ks.any fun kv => decide (kv.1 = js.map Sum.inl)) = kvs.any fun p => PyData.eqv p.1 (.tuple (js.map PyData.int))
  | _, _, .nil => rfl
  | _, _, .cons (is := is) h r => by
    rw [List.any_cons, List.any_cons, RpK.any js r]
    simp only
    rw [eqv_tups]
    by_cases e : is = js
    · rw [decide_eq_true e, decide_eq_true (inl_inj.mpr e)]
    · rw [decide_eq_false e, decide_eq_false (fun z => e (inl_inj.mp z))]
theorem RpK.mapv {G : Hp} (js : List Int) {v : V} {d : D} (hv : Rp G v d) : ∀ {ks : List (List Key × V)} {kvs : List (D × D)}, RpK G ks kvs →
    RpK G (ks.map fun kv => if kv.1 = js.map Sum.inl then (kv.1, v) else kv) (kvs.map fun p => if PyData.eqv p.1 (.tuple (js.map PyData.int)) = true then (p.1, d) else p)
  | _, _, .nil => .nil
  | _, _, .cons (is := is) h r => by
    have ih := RpK.mapv js hv r
    rw [List.map_cons, List.map_cons]
    simp only
    rw [eqv_tups]
    by_cases e : is = js
    · rw [if_pos (inl_inj.mpr e), if_pos (decide_eq_true e)]
      exact .cons hv ih
    · rw [if_neg (fun z => e (inl_inj.mp z)), if_neg (by rw [decide_eq_false e]; exact Bool.false_ne_true)]
      exact .cons h ih
theorem RpK.snoc {G : Hp} {js : List Int} {v : V} {d : D} (hv : Rp G v d) : ∀ {ks : List (List Key × V)} {kvs : List (D × D)}, RpK G ks kvs → RpK G (ks ++ [(js.map Sum.inl, v)]) (kvs ++ [(.tuple (js.map PyData.int), d)])
  | _, _, .nil => .cons hv .nil
  | _, _, .cons h r => .cons h (r.snoc hv)
theorem RpK.put {G : Hp} {js : List Int} {v : V} {d : D} (hv : Rp G v d) {ks : List (List Key × V)} {kvs : List (D × D)} (r : RpK G ks kvs) : RpK G (putK ks (js.map Sum.inl) v) (dPut kvs (.tuple (js.map PyData.int)) d) := by
  unfold putK dPut
  rw [r.any js]
  split
  · exact r.mapv js hv
  · exact r.snoc hv
theorem RpK.get {G : Hp} : ∀ {ks : List (List Key × V)} {kvs : List (D × D)} {i : Nat} {k : List Key} {v : V}, RpK G ks kvs → ks[i]? = some (k, v) → ∃ (is : List Int) (d : D), k = is.map Sum.inl ∧ kvs[i]? = some (.tuple (is.map PyData.int), d)
  | _, _, _, _, _, .nil, h => by simp at h
  | _, _, 0, _, _, .cons h r, e => by simp at e; obtain ⟨rfl, rfl⟩ := e; exact ⟨_, _, rfl, rfl⟩
  | _, _, i + 1, _, _, .cons h r, e => by
    obtain ⟨is, d, h1, h2⟩ := RpK.get (i := i) r (by simpa using e)
    exact ⟨is, d, h1, by simpa using h2⟩
theorem kV_ints (is : List Int) : (is.map Sum.inl : List Key).map kV = is.map V.int := by rw [List.map_map]; rfl
theorem RpA.ints {G : Hp} : ∀ {vs : List V} {is : List Int}, RpA G vs (is.map PyData.int) → vs = is.map V.int
  | [], [], _ => rfl
  | _ :: _, [], h => by cases h
  | [], _ :: _, h => by cases h
  | v :: vs, i :: is, h => by
    cases h with
    | cons h r => cases h; rw [RpA.ints r]; rfl
theorem rpA_ints {G : Hp} : ∀ is : List Int, RpA G (is.map V.int) (is.map PyData.int)
  | [] => .nil
  | i :: is => .cons (.int i) (rpA_ints is)
/-- a key: a tuple of ints -/
theorem key_of {G H : Hp} {v : V} {ds : List D} {is : List Int} (s : Sub G H) (h : Rd1 G H v (.tuple ds)) (e : intsOf ds = some is) : ∃ b, v = .ref b ∧ H b = some (.tup ((is.map Sum.inl : List Key).map kV)) := by
  obtain ⟨a, vs, rfl, ha, ra⟩ := h.tuple s
  rw [intsOf_eq e] at ra
  exact ⟨a, rfl, by rw [ha, ra.ints, kV_ints]⟩
/-! ### nested keys -/
def nD (k : NKey) : D := .tuple [.tuple (k.1.map PyData.int), .int k.2]
def nestOf : List D → Option NKey
  | [.tuple ws, .int j] => (intsOf ws).map (·, j)
  | _ => none
theorem nestOf_eq {ds : List D} {k : NKey} (h : nestOf ds = some k) : ds = [.tuple (k.1.map PyData.int), .int k.2] := by
  unfold nestOf at h
  split at h
  · obtain ⟨is, e1, e2⟩ := Option.map_eq_some_iff.mp h
    subst e2
    rw [intsOf_eq e1]
  · cases h
theorem eqv_n (x y : NKey) : PyData.eqv (nD x) (nD y) = decide (x = y) := by
  show (PyData.eqv (.tuple (x.1.map PyData.int)) (.tuple (y.1.map PyData.int)) && (PyData.eqv (.int x.2) (.int y.2) && true)) = _
  rw [eqv_tups]
  show (decide (x.1 = y.1) && ((x.2 == y.2) && true)) = _
  by_cases e : x = y
  · subst e; simp
  · rw [decide_eq_false e]
    by_cases e1 : x.1 = y.1
    · have : x.2 ≠ y.2 := fun z => e (Prod.ext e1 z)
      rw [beq_eq_false_iff_ne.mpr this]; simp
    · rw [decide_eq_false e1]; rfl
theorem RpN.look {G : Hp} (j : NKey) : ∀ {ks : List (NE V)} {kvs : List (D × D)}, RpN G ks kvs → RelOpt G (valN ks j) (dLook kvs (nD j))
  | _, _, .nil => trivial
  | _, _, .cons (k := k) (ks := ks) (kvs := kvs) (v := v) (d := d) (b := b) _ h r => by
    have ih := RpN.look j r
    unfold dLook at ih ⊢
    rw [List.find?_cons]
    simp only
    rw [show PyData.eqv (.tuple [.tuple (k.1.map PyData.int), .int k.2]) (nD j) = decide (k = j) from eqv_n k j]
    by_cases e : k = j
    · rw [valN_pos (p := (k, b, v)) e, decide_eq_true e]
      exact h
    · rw [valN_neg (p := (k, b, v)) e, decide_eq_false e]
      exact ih
theorem RpN.length {G : Hp} : ∀ {ks : List (NE V)} {kvs : List (D × D)}, RpN G ks kvs → ks.length = kvs.length
  | _, _, .nil => rfl
  | _, _, .cons _ _ r => congrArg (· + 1) r.length
theorem RpN.anyS {G : Hp} (j : NKey) : ∀ {ks : List (NE V)} {kvs : List (D × D)}, RpN G ks kvs → (valN ks j).isSome = kvs.any fun p => PyData.eqv p.1 (nD j)
  | _, _, .nil => rfl
  | _, _, .cons (k := k) (b := b) (v := v) _ h r => by
    rw [List.any_cons]
    simp only
    rw [show PyData.eqv (.tuple [.tuple (k.1.map PyData.int), .int k.2]) (nD j) = decide (k = j) from eqv_n k j]
    by_cases e : k = j
    · rw [valN_pos (p := (k, b, v)) e, decide_eq_true e]; rfl
    · rw [valN_neg (p := (k, b, v)) e, decide_eq_false e, Bool.false_or]; exact RpN.anyS j r
theorem RpN.mapv {G : Hp} (j : NKey) {v : V} {d : D} (hv : Rp G v d) : ∀ {ks : List (NE V)} {kvs : List (D × D)}, RpN G ks kvs →
    RpN G (ks.map fun p => if p.1 = j then (p.1, p.2.1, v) else p) (kvs.map fun p => if PyData.eqv p.1 (nD j) = true then (p.1, d) else p)
  | _, _, .nil => .nil
  | _, _, .cons (k := k) kb h r => by
    have ih := RpN.mapv j hv r
    rw [List.map_cons, List.map_cons]
    simp only
    rw [show PyData.eqv (.tuple [.tuple (k.1.map PyData.int), .int k.2]) (nD j) = decide (k = j) from eqv_n k j]
    by_cases e : k = j
    · rw [if_pos e, if_pos (decide_eq_true e)]
      exact .cons kb hv ih
    · rw [if_neg e, if_neg (by rw [decide_eq_false e]; exact Bool.false_ne_true)]
      exact .cons kb h ih
theorem RpN.snoc {G : Hp} {j : NKey} {b : Addr} {v : V} {d : D} (kb : KeyAt G j b) (hv : Rp G v d) : ∀ {ks : List (NE V)} {kvs : List (D × D)}, RpN G ks kvs → RpN G (ks ++ [(j, b, v)]) (kvs ++ [(nD j, d)])
  | _, _, .nil => .cons kb hv .nil
  | _, _, .cons k h r => .cons k h (r.snoc kb hv)
theorem RpN.put {G : Hp} {j : NKey} {b : Addr} {v : V} {d : D} (kb : KeyAt G j b) (hv : Rp G v d) {ks : List (NE V)} {kvs : List (D × D)} (r : RpN G ks kvs) : RpN G (putN ks j b v) (dPut kvs (nD j) d) := by
  unfold putN dPut
  rw [r.anyS j]
  split
  · exact r.mapv j hv
  · exact r.snoc kb hv
theorem putN_ne {ks : List (NE V)} {j : NKey} {b : Addr} {v : V} : putN ks j b v ≠ [] := by
  unfold putN
  split
  · rename_i h
    cases ks with
    | nil => cases h
    | cons p r => intro z; cases z
  · intro z
    cases ks <;> cases z
theorem RpN.get {G : Hp} : ∀ {ks : List (NE V)} {kvs : List (D × D)} {i : Nat} {p : NE V}, RpN G ks kvs → ks[i]? = some p → ∃ d, kvs[i]? = some (nD p.1, d)
  | _, _, _, _, .nil, h => by simp at h
  | _, _, 0, _, .cons k h r, e => by simp at e; subst e; exact ⟨_, rfl⟩
  | _, _, i + 1, _, .cons k h r, e => by
    obtain ⟨d, h2⟩ := RpN.get (i := i) r (by simpa using e)
    exact ⟨d, by simpa using h2⟩
/-- a key at its place, as data -/
theorem KeyAt.rp {G : Hp} {k : NKey} {b : Addr} (h : KeyAt G k b) : Rp G (.ref b) (nD k) := by
  obtain ⟨c, h1, h2⟩ := h
  exact .tup h1 (.cons (.tup h2 (rpA_ints _)) (.cons (.int _) .nil))
theorem nkey_rp {G : Hp} {v : V} {k : NKey} (h : Rp G v (nD k)) : ∃ b, v = .ref b ∧ KeyAt G k b := by
  cases h with
  | tup h r =>
    cases r with
    | cons h1 r =>
      cases r with
      | cons h2 r =>
        cases r
        cases h2
        cases h1 with
        | tup h3 r3 =>
          rw [RpA.ints r3] at h3
          exact ⟨_, rfl, _, h, h3⟩
theorem nkey_of1 {G H : Hp} {v : V} {ds : List D} {k : NKey} (s : Sub G H) (h : Rd1 G H v (.tuple ds)) (e : nestOf ds = some k) : ∃ b, v = .ref b ∧ KeyAt G k b ∧ KeyAt H k b := by
  rw [nestOf_eq e] at h
  cases h with
  | dat h =>
    obtain ⟨b, e1, e2⟩ := nkey_rp (k := k) h
    exact ⟨b, e1, e2, e2.mono fun _ _ z => s _ _ z⟩
/-- may the key stand in the dict -/
def kOk (kvs : List (D × D)) (ds : List D) : Bool := (notN kvs && (intsOf ds).isSome) || (isN kvs && (nestOf ds).isSome)
theorem kOk_or {kvs : List (D × D)} {ds : List D} (h : kOk kvs ds = true) : (notN kvs = true ∧ ∃ is, intsOf ds = some is) ∨ (isN kvs = true ∧ ∃ k, nestOf ds = some k) := by
  unfold kOk at h
  rw [Bool.or_eq_true, Bool.and_eq_true, Bool.and_eq_true] at h
  rcases h with ⟨h1, h2⟩ | ⟨h1, h2⟩
  · exact .inl ⟨h1, Option.isSome_iff_exists.mp h2⟩
  · exact .inr ⟨h1, Option.isSome_iff_exists.mp h2⟩
section
variable {X : Cx} {T : Tb} {G H : Hp} {Q : VK}
def isText (x y : Str) : Bool := !(Builtin.Str.occurrences y x 0 y.length 1).isEmpty
def gIn (neg : Bool) : D → D → Option D
  | .tuple ds, .dict kvs => if kOk kvs ds = true then some (.bool ((dLook kvs (.tuple ds)).isSome != neg)) else none
  | a, .list bs => if (SeqAt.shaped a && SeqAt.shaped (.list bs)) = true then some (.bool ((bs.any fun z => PyData.eqv z a) != neg)) else none
  | a, .tuple bs => if (SeqAt.shaped a && SeqAt.shaped (.tuple bs)) = true then some (.bool ((bs.any fun z => PyData.eqv z a) != neg)) else none
  | .str x, .str y => some (.bool (isText x y != neg))
  | _, _ => none
theorem dget_of {v w : V} {ds : List D} {kvs : List (D × D)} (s : Sub G H) (h : Rd1 G H v (.dict kvs)) (hk : Rd1 G H w (.tuple ds)) (e : kOk kvs ds = true) :
    ∃ a o, v = .ref a ∧ EGet H a w o ∧ RelOpt G o (dLook kvs (.tuple ds)) := by
  rcases kOk_or e with ⟨n, is, e⟩ | ⟨n, k, e⟩
  · obtain ⟨a, ks, rfl, ha, ra⟩ := h.dictK s n
    obtain ⟨b, rfl, hb⟩ := key_of s hk e
    have q := ra.look is
    rw [← intsOf_eq e] at q
    exact ⟨a, _, rfl, .inl (.inr ⟨ks, _, b, ha, rfl, hb, rfl⟩), q⟩
  · obtain ⟨a, ks, rfl, ha, ra⟩ := h.dictN s n
    obtain ⟨b, rfl, _, hb⟩ := nkey_of1 s hk e
    have q := ra.look k
    rw [show nD k = .tuple ds from by rw [nestOf_eq e]; rfl] at q
    exact ⟨a, _, rfl, .inr ⟨ks, k, b, ha, rfl, hb, rfl⟩, q⟩
theorem RelOpt.some_iff {o : Option V} {p : Option D} (r : RelOpt G o p) : o.isSome = p.isSome := by cases o <;> cases p <;> first | rfl | exact r.elim
theorem op_inTup (hu : X.A.units + 65 < cLine) {x y : V} {v u : Value} {pins : List (Addr × Obj)} {σ : L2.St} {s : Shared} {d : D} {ds : List D} (I : Inv X pins σ H s) (rx : RelV x v) (ry : RelV y u) (hd : Dp X.K H x d) (he : Dp X.K H y (.tuple ds)) (sd : SeqAt.shaped d = true) (se : SeqAt.shaped (.tuple ds) = true)
    (q : Q (.bl (ds.any fun z => PyData.eqv z d)) H) : wpAny (model X.prog X.w) X.A (compareOp .In v u) (EP X pins σ Q) X.xe s := by
  obtain ⟨as, r1⟩ := Dp.reads I d x v hd rx
  obtain ⟨bs, r2⟩ := Dp.reads I (.tuple ds) y u he ry
  exact SeqAt.in_tuple_reads r2 r1 (SeqAt.canLay_of_shaped se) (SeqAt.canLay_of_shaped sd) (room_in_shaped sd hu) ⟨.bl _, H, I, rfl, q⟩
theorem op_notInTup (hu : X.A.units + 65 < cLine) {x y : V} {v u : Value} {pins : List (Addr × Obj)} {σ : L2.St} {s : Shared} {d : D} {ds : List D} (I : Inv X pins σ H s) (rx : RelV x v) (ry : RelV y u) (hd : Dp X.K H x d) (he : Dp X.K H y (.tuple ds)) (sd : SeqAt.shaped d = true) (se : SeqAt.shaped (.tuple ds) = true)
    (q : Q (.bl (!ds.any fun z => PyData.eqv z d)) H) : wpAny (model X.prog X.w) X.A (compareOp .NotIn v u) (EP X pins σ Q) X.xe s := by
  obtain ⟨as, r1⟩ := Dp.reads I d x v hd rx
  obtain ⟨bs, r2⟩ := Dp.reads I (.tuple ds) y u he ry
  exact SeqAt.notIn_tuple_reads r2 r1 (SeqAt.canLay_of_shaped se) (SeqAt.canLay_of_shaped sd) (room_in_shaped sd hu) ⟨.bl _, H, I, rfl, q⟩
theorem ne_f (b : Bool) : (b != false) = b := by cases b <;> rfl
theorem ne_t (b : Bool) : (b != true) = !b := by cases b <;> rfl
theorem od_in (hu : X.A.units + 65 < cLine) : OpD X T (compareOp .In) (gIn false) := by
  intro pins s σ H x y v u Q I rx ry h
  obtain ⟨G, a, b, d, sub, nt, ha, hb, hg, q⟩ := h
  unfold gIn at hg
  split at hg
  · split at hg
    · rename_i e
      obtain ⟨p, o, rfl, g, ro⟩ := dget_of sub hb ha e
      cases ry
      rw [ne_f] at hg
      cases hg
      rcases g with g | g
      · exact d_in (by omega) I g rx fun s' I' => ⟨.bl _, H, I', by rw [ro.some_iff]; rfl, same_ sub nt (.bl _) q⟩
      · exact n_in (by omega) I g rx fun s' I' => ⟨.bl _, H, I', by rw [ro.some_iff]; rfl, same_ sub nt (.bl _) q⟩
    · cases hg
  · split at hg
    · rename_i hl
      rw [Bool.and_eq_true] at hl
      rw [ne_f] at hg
      cases hg
      exact op_inD hu pins s σ H _ _ v u Q I rx ry ⟨_, _, ha.dp sub (SeqAt.canLay_of_shaped hl.1), hb.dp sub (SeqAt.canLay_of_shaped hl.2), hl.1, hl.2, same_ sub nt (.bl _) q⟩
    · cases hg
  · split at hg
    · rename_i hl
      rw [Bool.and_eq_true] at hl
      rw [ne_f] at hg
      cases hg
      exact op_inTup hu I rx ry (ha.dp sub (SeqAt.canLay_of_shaped hl.1)) (hb.dp sub (SeqAt.canLay_of_shaped hl.2)) hl.1 hl.2 (same_ sub nt (.bl _) q)
    · cases hg
  · cases ha.str; cases hb.str
    rw [ne_f] at hg
    cases hg
    exact op_in_str pins s σ H _ _ v u Q I rx ry ⟨_, _, rfl, rfl, same_ sub nt (.bl _) q⟩
  · cases hg
theorem od_notin (hu : X.A.units + 65 < cLine) : OpD X T (compareOp .NotIn) (gIn true) := by
  intro pins s σ H x y v u Q I rx ry h
  obtain ⟨G, a, b, d, sub, nt, ha, hb, hg, q⟩ := h
  unfold gIn at hg
  split at hg
  · split at hg
    · rename_i e
      obtain ⟨p, o, rfl, g, ro⟩ := dget_of sub hb ha e
      cases ry
      rw [ne_t] at hg
      cases hg
      rcases g with g | g
      · exact d_notIn (by omega) I g rx fun s' I' => ⟨.bl _, H, I', by rw [ro.some_iff]; rfl, same_ sub nt (.bl _) q⟩
      · exact n_notIn (by omega) I g rx fun s' I' => ⟨.bl _, H, I', by rw [ro.some_iff]; rfl, same_ sub nt (.bl _) q⟩
    · cases hg
  · split at hg
    · rename_i hl
      rw [Bool.and_eq_true] at hl
      rw [ne_t] at hg
      cases hg
      exact op_notInD hu pins s σ H _ _ v u Q I rx ry ⟨_, _, ha.dp sub (SeqAt.canLay_of_shaped hl.1), hb.dp sub (SeqAt.canLay_of_shaped hl.2), hl.1, hl.2, same_ sub nt (.bl _) q⟩
    · cases hg
  · split at hg
    · rename_i hl
      rw [Bool.and_eq_true] at hl
      rw [ne_t] at hg
      cases hg
      exact op_notInTup hu I rx ry (ha.dp sub (SeqAt.canLay_of_shaped hl.1)) (hb.dp sub (SeqAt.canLay_of_shaped hl.2)) hl.1 hl.2 (same_ sub nt (.bl _) q)
    · cases hg
  · cases ha.str; cases hb.str
    rw [ne_t] at hg
    cases hg
    exact op_notin_str pins s σ H _ _ v u Q I rx ry ⟨_, _, rfl, rfl, same_ sub nt (.bl _) q⟩
  · cases hg
end
end DL

set_option maxHeartbeats 4000000
/-! subscripts, displays, calls -/
namespace DL
open PySem PySem.Spec PyProof.Rows L2
section
variable {X : Cx} {T : Tb} {δ : Dl} {E : XK} {G H : Hp} {Q : VK} {a b c e : Expr} {es : List Expr} {pos p : Pos} {fa fb fc : F} {fs : Fs}
/-! ### a[i] -/
def gIx : D → D → Option D
  | .list xs, .int i => atI xs i
  | .tuple xs, .int i => atI xs i
  | .str z, .int i => if z.length ≤ lim then (atI z.cps.toList i).map (fun c => .str ⟨#[c]⟩) else none
  | .dict kvs, .tuple ds => if kOk kvs ds = true then dLook kvs (.tuple ds) else none
  | _, _ => none
theorem RpA.at_ {vs : List V} {ds : List D} {i : Int} {d : D} (r : RpA G vs ds) (h : atI ds i = some d) : ∃ v, atI vs i = some v ∧ Rp G v d := by
  unfold atI at h ⊢
  obtain ⟨j, h1, h2⟩ := Option.bind_eq_some_iff.mp h
  obtain ⟨v, h3, h4⟩ := r.get h2
  exact ⟨v, by rw [r.length, h1]; exact h3, h4⟩
theorem ix_data : IxR X (fun x y H Q => ∃ xs, ∃ G a b d, Sub G H ∧ (∀ b ps, G b ≠ some (.tbl ps)) ∧ Rd1 G H x a ∧ Rd1 G H y b ∧ (a = .list xs ∨ a = .tuple xs ∨ ∃ z, a = .str z) ∧ gIx a b = some d ∧ ∀ v G' H', Fr T .nil G H G' H' → Rp G' v d → Q v H') := by
  intro value slice pins s σ H x y v u Q I rx ry h hs
  obtain ⟨xs, G, a, b, d, sub, nt, ha, hb, hk, hg, q⟩ := h
  unfold gIx at hg
  split at hg
  · obtain ⟨p, vs, rfl, hp, ra⟩ := ha.list sub
    cases hb.int
    obtain ⟨v', h1, h2⟩ := ra.at_ hg
    exact ix_list value slice pins s σ H _ _ v u Q I rx ry ⟨_, _, _, _, rfl, rfl, SqL.of hp, h1, same_ sub nt h2 q⟩ hs
  · obtain ⟨p, vs, rfl, hp, ra⟩ := ha.tuple sub
    cases hb.int
    obtain ⟨v', h1, h2⟩ := ra.at_ hg
    exact ix_tup value slice pins s σ H _ _ v u Q I rx ry ⟨_, _, _, _, rfl, rfl, SqT.of hp, h1, same_ sub nt h2 q⟩ hs
  · split at hg
    · rename_i hl
      cases ha.str; cases hb.int
      obtain ⟨c, h1, h2⟩ := Option.map_eq_some_iff.mp hg
      subst h2
      exact ix_str value slice pins s σ H _ _ v u Q I rx ry ⟨_, _, _, rfl, rfl, lim_line hl, h1, same_ sub nt (.str _) q⟩ hs
    · cases hg
  · rcases hk with z | z | ⟨_, z⟩ <;> cases z
  · cases hg
/-- of a list, a tuple, a text -/
def gIxS : D → D → Option D
  | .dict _, _ => none
  | a, b => gIx a b
theorem de_ix (ha : DE X T δ E a fa) (hb : DE X T δ E b fb) (hs : PlainIx b := by exact fun _ _ => rfl) : DE X T δ E (.Subscript a b pos) (fOp2 gIxS fa fb) :=
  PE.imp (pe_ix (ix_data (T := T)) ha hb hs) fun σ H Q h => by
    have h2 := op2_read σ H Q h
    obtain ⟨lk, G, ev, st, r, h⟩ := h
    refine goE (e := fun G H r => EndE X.K lk T δ E G H Q r) r h fun sa st1 v G1 H1 e1 f1 r1 x1 h1 => goE (e := fun G H r => EndE X.K lk T δ E G H Q r) r1 h1 fun sb st2 w G2 H2 e2 f2 r2 x2 h2 => ?_
    obtain ⟨a, b, d, e3, e4, e5, h3⟩ := of2_some h2
    have hx := (x1.fr f2).rd e3
    have hk : ∃ xs, (a = .list xs ∨ a = .tuple xs ∨ ∃ z, a = .str z) ∧ gIx a b = some d := by
      cases a with
      | list xs => exact ⟨xs, .inl rfl, e5⟩
      | tuple xs => exact ⟨xs, .inr (.inl rfl), e5⟩
      | str z => exact ⟨[], .inr (.inr ⟨z, rfl⟩), e5⟩
      | dict _ => cases e5
      | _ => cases e5
    obtain ⟨xs, hk, e6⟩ := hk
    exact ⟨xs, G2, a, b, d, r2.sub, r2.nt, hx, x2.rd e4, hk, e6, fun v G' H' f x => h3 v G' H' f.any (r2.di.fr f) x⟩
/-- of a dict -/
def gDGet : D → D → Option D
  | .dict kvs, .tuple ds => if kOk kvs ds = true then dLook kvs (.tuple ds) else none
  | _, _ => none
theorem de_dget (hu : X.A.units + 2 < cLine) (ha : DE X T δ E a fa) (hb : DE X T δ E b fb) (hs : NoSl b := by exact fun _ _ => rfl) : DE X T δ E (.Subscript a b pos) (fOp2 gDGet fa fb) :=
  PE.imp (pe_eget hu ha hb hs) fun σ H Q ⟨lk, G, ev, st, r, h⟩ => by
    refine goE (e := fun G H r => EndE X.K lk T δ E G H Q r) r h fun sa st1 v G1 H1 e1 f1 r1 x1 h1 => goE (e := fun G H r => EndE X.K lk T δ E G H Q r) r1 h1 fun sb st2 w G2 H2 e2 f2 r2 x2 h2 => ?_
    obtain ⟨a, b, d, e3, e4, e5, h3⟩ := of2_some h2
    have hx := (x1.fr f2).rd e3
    have hy := x2.rd e4
    unfold gDGet at e5
    split at e5
    · split at e5
      · rename_i e
        obtain ⟨p, o, rfl, g, ro⟩ := dget_of r2.sub hx hy e
        rw [e5] at ro
        cases o with
        | none => exact ro.elim
        | some v => exact ⟨p, v, rfl, g, EndE.here r2 h3 ro⟩
      · cases e5
    · cases e5
/-! ### arguments, displays -/
def fN : Fs := fun _ st => .ok [] st
def fK (f : F) (fs : Fs) : Fs := fun ev st => (f ev st).bind fun sv st1 => (fs ev st1).bind fun svs st2 => .ok (sv :: svs) st2
theorem da_nil : DA X T δ E [] fN := PA.imp pa_nil fun σ H Q ⟨lk, G, ev, st, r, h⟩ => h [] G H (.rf r.sub r.nt) r.di .nil
theorem da_cons (ha : DE X T δ E e fa) (hr : DA X T δ E es fs) (hs : starEach (e :: es) X.env = (false, eval e X.env) :: starEach es X.env := by rfl) : DA X T δ E (e :: es) (fK fa fs) :=
  PA.imp (pa_cons ha hr hs) fun σ H Q ⟨lk, G, ev, st, r, h⟩ => goE (e := fun G H r => EndA X.K lk T δ E G H Q r) r h fun sv st1 v G1 H1 e1 f1 r1 x1 h1 =>
    goA (e := fun G H r => EndA X.K lk T δ E G H Q r) r1 h1 fun svs st2 vs G2 H2 e2 f2 r2 x2 h2 => h2 (v :: vs) G2 H2 (.rf r2.sub r2.nt) r2.di (.cons (x1.fr f2) x2)
def fTup (fs : Fs) : F := fun ev st => (fs ev st).bind fun svs st1 => match dats svs with
  | some ds => if ds.length ≤ lim then .ok (.dat (.tuple ds)) st1 else .stuck
  | none => .stuck
def fLst (fs : Fs) : F := fun ev st => (fs ev st).bind fun svs st1 => match dats svs with
  | some ds => if ds.length ≤ lim then .ok (.dat (.list ds)) st1 else .stuck
  | none => .stuck
theorem de_tup {k : Nat} (h : DA X T δ E es fs) : DE X T δ E (.Tuple es k pos) (fTup fs) :=
  PE.imp (pe_tup h) fun σ H Q ⟨lk, G, ev, st, r, h⟩ => goA (e := fun G H r => EndE X.K lk T δ E G H Q r) r h fun svs st1 vs G1 H1 e1 f1 r1 x1 h1 => by
    cases q : dats svs with
    | none => rw [q] at h1; exact h1.elim
    | some ds =>
      rw [q] at h1
      simp only at h1
      split at h1
      · rename_i hl
        have ra := x1.dats q
        exact ⟨by rw [ra.length]; exact lim_line hl, fun p hp => newT r1.sub r1.nt hp ra fun v G' H' f x => h1 v G' H' f.any (r1.di.fr f) x⟩
      · exact h1.elim
theorem de_lst (h : DA X T δ E es fs) : DE X T δ E (.List es pos) (fLst fs) :=
  PE.imp (pe_lst h) fun σ H Q ⟨lk, G, ev, st, r, h⟩ => goA (e := fun G H r => EndE X.K lk T δ E G H Q r) r h fun svs st1 vs G1 H1 e1 f1 r1 x1 h1 => by
    cases q : dats svs with
    | none => rw [q] at h1; exact h1.elim
    | some ds =>
      rw [q] at h1
      simp only at h1
      split at h1
      · rename_i hl
        have ra := x1.dats q
        exact ⟨by rw [ra.length]; exact lim_line hl, fun p hp => newL r1.sub r1.nt hp ra fun v G' H' f x => h1 v G' H' f.any (r1.di.fr f) x⟩
      · exact h1.elim
/-! ### slices -/
def fSl (g : D → Option Int → Option Int → Option D) (fa : F) (lo hi : Option F) : F := fun ev st => (fa ev st).bind fun sa st1 => (pt lo ev st1).bind fun l st2 => (pt hi ev st2).bind fun h st3 => match sa.data with
  | some d => (match g d l h with | some r => .ok (.dat r) st3 | none => .stuck)
  | none => .stuck
where pt (o : Option F) (ev : Ev) (st : DSt) : Rs (Option Int) := match o with
  | none => .ok none st
  | some f => (f ev st).bind fun sv st1 => match sv with
    | .dat (.int i) => .ok (some i) st1
    | _ => .stuck
def gSl : D → Option Int → Option Int → Option D
  | .tuple xs, lo, hi => some (.tuple (cutV' xs lo hi))
  | .list xs, lo, hi => some (.list (cutV' xs lo hi))
  | .str z, lo, hi => if z.length ≤ lim then some (.str (cutS z lo hi)) else none
  | _, _, _ => none
where cutV' (xs : List D) (lo hi : Option Int) : List D := (xs.drop (HT.sIx xs.length 0 lo)).take (HT.sIx xs.length xs.length hi - HT.sIx xs.length 0 lo)
/-- a slice's part -/
def DO (X : Cx) (T : Tb) (δ : Dl) (E : XK) (o : Option Expr) (f : Option F) : Prop := match o, f with
  | none, none => True
  | some e, some f => DE X T δ E e f
  | _, _ => False
/-- a part's reading -/
def tP (K : PySem.W.Frag) (T : Tb) (δ : Dl) (E : XK) (f : Option F) : TO := match f with
  | none => tNoPart
  | some f => tPart (tD K T δ E f)
theorem po_of {o : Option Expr} {f : Option F} (h : DO X T δ E o f) : PO X o (tP X.K T δ E f) := by
  cases o with
  | none =>
    cases f with
    | none => exact po_none
    | some f => exact h.elim
  | some e =>
    cases f with
    | none => exact h.elim
    | some f => exact po_some h
theorem goP {K : PySem.W.Frag} {lk : Bool} {σ : L2.St} {ev : Ev} {st : DSt} {f : Option F} {β : Type} {k : Option Int → DSt → Rs β} {e : Hp → Hp → Rs β → Prop} [en : EndK K T δ E e] {R : Option Int → Hp → Prop} (r : Rel lk T δ G H σ ev st) (h : e G H ((fSl.pt f ev st).bind k))
    (hk : ∀ o st1 G1 H1, Fr T δ G H G1 H1 → Rel lk T δ G1 H1 σ ev st1 → e G1 H1 (k o st1) → R o H1) : tP K T δ E f σ H R := by
  cases f with
  | none => exact hk none st G H (.rf r.sub r.nt) r h
  | some f =>
    have h' : e G H ((f ev st).bind fun sv st1 => (match sv with
      | .dat (.int i) => .ok (some i) st1
      | _ => .stuck : Rs (Option Int)).bind k) := by
      have e1 : (fSl.pt (some f) ev st).bind k = (f ev st).bind fun sv st1 => (match sv with
        | .dat (.int i) => .ok (some i) st1
        | _ => .stuck : Rs (Option Int)).bind k := by
        unfold fSl.pt
        simp only
        cases f ev st <;> rfl
      rw [← e1]; exact h
    refine goE (e := e) r h' fun sv st1 v G1 H1 e1 f1 r1 x1 h1 => ?_
    have no : ∀ {P : Prop}, e G1 H1 .stuck → P := fun z => (en.stuck z).elim
    cases sv with
    | dat d =>
      cases d with
      | int i => cases x1; exact ⟨i, rfl, hk (some i) st1 G1 H1 f1 r1 h1⟩
      | _ => exact no h1
    | _ => exact no h1
theorem RpA.cut {vs : List V} {ds : List D} (r : RpA G vs ds) (lo hi : Option Int) : RpA G (cutV vs lo hi) (gSl.cutV' ds lo hi) := by
  unfold cutV gSl.cutV'
  rw [r.length]
  exact (r.drop _).take _
theorem RpA.cut_len {ds : List D} (lo hi : Option Int) : (gSl.cutV' ds lo hi).length ≤ ds.length := by
  unfold gSl.cutV'
  rw [List.length_take, List.length_drop]
  omega
theorem cut_whole {xs : List D} {lo hi : Option Int} (z : HT.sIx xs.length 0 lo = 0 ∧ HT.sIx xs.length xs.length hi = xs.length) : gSl.cutV' xs lo hi = xs := by
  unfold gSl.cutV'
  rw [z.1, z.2, List.drop_zero, Nat.sub_zero, List.take_length]
def rSlD (T : Tb) (K : PySem.W.Frag) : V → Option Int → Option Int → Hp → VK → Prop := fun x lo hi H Q => ∃ G a d, Sub G H ∧ (∀ b ps, G b ≠ some (.tbl ps)) ∧ Rd1 G H x a ∧ gSl a lo hi = some d ∧ ∀ v G' H', Fr T .nil G H G' H' → Rp G' v d → Q v H'
theorem sl_data : SlR X (rSlD T X.K) := by
  intro pins s σ H x v vl vu lo hi sl Q I rx hs pl pu h
  obtain ⟨G, a, d, sub, nt, ha, hg, q⟩ := h
  unfold gSl at hg
  split at hg
  · obtain ⟨p, vs, rfl, hp, ra⟩ := ha.tuple sub
    cases hg
    refine sl_tupA pins s σ H _ v vl vu lo hi sl Q I rx hs pl pu ⟨p, vs, rfl, SqT.of hp, fun z => ?_, fun _ p hn => newT sub nt hn (ra.cut lo hi) q⟩
    rw [ra.length] at z
    rw [cut_whole z] at q
    exact same_ sub nt ha.tupRp q
  · obtain ⟨p, vs, rfl, hp, ra⟩ := ha.list sub
    cases hg
    exact sl_list pins s σ H _ v vl vu lo hi sl Q I rx hs pl pu ⟨p, vs, rfl, SqL.of hp, fun p hn => newL sub nt hn (ra.cut lo hi) q⟩
  · split at hg
    · rename_i hl
      cases ha.str
      cases hg
      exact sl_str pins s σ H _ v vl vu lo hi sl Q I rx hs pl pu ⟨_, rfl, lim_line hl, same_ sub nt (.str _) q⟩
    · cases hg
  · cases hg
theorem de_sl {lo hi : Option Expr} {fl fh : Option F} {p2 : Pos} (ha : DE X T δ E a fa) (hl : DO X T δ E lo fl) (hh : DO X T δ E hi fh) : DE X T δ E (.Subscript a (.Slice lo hi none p2) pos) (fSl gSl fa fl fh) :=
  PE.imp (pe_slice (sl_data (T := T)) ha (po_of hl) (po_of hh)) fun σ H Q ⟨lk, G, ev, st, r, h⟩ => by
    refine goE (e := fun G H r => EndE X.K lk T δ E G H Q r) r h fun sa st1 v G1 H1 e1 f1 r1 x1 h1 => goP (e := fun G H r => EndE X.K lk T δ E G H Q r) r1 h1 fun l st2 G2 H2 f2 r2 h2 => goP (e := fun G H r => EndE X.K lk T δ E G H Q r) r2 h2 fun u st3 G3 H3 f3 r3 h3 => ?_
    split at h3
    · rename_i d e3
      split at h3
      · rename_i d2 e4
        exact ⟨G3, d, d2, r3.sub, r3.nt, ((x1.fr f2).fr f3).rd e3, e4, fun v G' H' f x => h3 v G' H' f.any (r3.di.fr f) x⟩
      · exact h3.elim
    · exact h3.elim
/-! ### calls of built-in functions and types -/
def rCall (T : Tb) (g : List D → Option D) : List V → Hp → VK → Prop := fun vs H Q => ∃ G ds d, Sub G H ∧ (∀ b ps, G b ≠ some (.tbl ps)) ∧ RdA G H vs ds ∧ g ds = some d ∧ ∀ v G' H', Fr T .nil G H G' H' → Rp G' v d → Q v H'
abbrev CallD (X : Cx) (T : Tb) (f : Value) (g : List D → Option D) : Prop := CallR X f (rCall T g)
def fCB (g : List D → Option D) (fs : Fs) : F := fun ev st => (fs ev st).bind fun svs st1 => match reads svs with
  | some ds => (match g ds with | some d => .ok (.dat d) st1 | none => .stuck)
  | none => .stuck
theorem cb_read {K : PySem.W.Frag} {g : List D → Option D} : ∀ σ H Q, tD K T δ E (fCB g fs) σ H Q → tCB (rCall T g) (tA K T δ E fs) σ H Q := fun σ H Q ⟨lk, G, ev, st, r, h⟩ =>
  goA (e := fun G H r => EndE K lk T δ E G H Q r) r h fun svs st1 vs G1 H1 e1 f1 r1 x1 h1 => by
    split at h1
    · rename_i ds e2
      split at h1
      · rename_i d e3
        exact ⟨G1, ds, d, r1.sub, r1.nt, x1.reads e2, e3, fun v G' H' f x => h1 v G' H' f.any (r1.di.fr f) x⟩
      · exact h1.elim
    · exact h1.elim
theorem de_callB {x : Str} {id : String} {g : List D → Option D} (hc : CallD X T (.builtin id) g) (hg : Gl X x) (hm : X.mg x = none) (hv : bootBuiltins x = some (.builtin id)) (ha : DA X T δ E (e :: es) fs) (hn : x ≠ "__name__" := by decide) (hdb : (x == ("__debug__" : Str)) = false := by decide)
    (he : starEach (e :: es) X.env = (false, eval e X.env) :: starEach es X.env := by rfl) (hpl : (backTo pos (starEach es X.env)).any (·.1) = false := by rfl) : DE X T δ E (.Call (.Name x p) (e :: es) [] pos) (fCB g fs) :=
  PE.imp (pe_callB hc hg hm hv ha hn hdb he hpl) cb_read
theorem de_callT {x : Str} {id : String} {g : List D → Option D} (hc : CallD X T (.type id) g) (hg : Gl X x) (hm : X.mg x = none) (hv : bootBuiltins x = some (.type id)) (ha : DA X T δ E (e :: es) fs) (hn : x ≠ "__name__" := by decide) (hdb : (x == ("__debug__" : Str)) = false := by decide)
    (he : starEach (e :: es) X.env = (false, eval e X.env) :: starEach es X.env := by rfl) (hpl : (backTo pos (starEach es X.env)).any (·.1) = false := by rfl) : DE X T δ E (.Call (.Name x p) (e :: es) [] pos) (fCB g fs) :=
  PE.imp (pe_callTy hc hg hm hv ha hn hdb he hpl) cb_read
/-- one argument -/
theorem RdA.one {vs : List V} {d : D} (h : RdA G H vs [d]) : ∃ v, vs = [v] ∧ Rd1 G H v d := by
  cases h with | cons h r => cases r; exact ⟨_, rfl, h⟩
theorem RdA.two {vs : List V} {d d' : D} (h : RdA G H vs [d, d']) : ∃ v w, vs = [v, w] ∧ Rd1 G H v d ∧ Rd1 G H w d' := by
  cases h with | cons h r => cases r with | cons h' r => cases r; exact ⟨_, _, rfl, h, h'⟩
def gLen : List D → Option D
  | [.list xs] => some (.int xs.length)
  | [.tuple xs] => some (.int xs.length)
  | [.str z] => if z.length ≤ lim then some (.int z.length) else none
  | _ => none
theorem cd_len : CallD X T (.builtin "len") gLen := by
  intro pins s σ H vs us Q I rv h
  obtain ⟨G, ds, d, sub, nt, ha, hg, q⟩ := h
  unfold gLen at hg
  split at hg
  · obtain ⟨v, rfl, h⟩ := ha.one
    obtain ⟨a, xs, rfl, hp, ra⟩ := h.list sub
    cases hg
    rw [← ra.length] at q
    exact call_len_seq pins s σ H _ us Q I rv ⟨_, _, rfl, .inl (SqL.of hp), same_ sub nt (.int _) q⟩
  · obtain ⟨v, rfl, h⟩ := ha.one
    obtain ⟨a, xs, rfl, hp, ra⟩ := h.tuple sub
    cases hg
    rw [← ra.length] at q
    exact call_len_seq pins s σ H _ us Q I rv ⟨_, _, rfl, .inr (SqT.of hp), same_ sub nt (.int _) q⟩
  · split at hg
    · rename_i hl
      obtain ⟨v, rfl, h⟩ := ha.one
      cases h.str
      cases hg
      exact call_len_str pins s σ H _ us Q I rv ⟨_, rfl, lim_line hl, same_ sub nt (.int _) q⟩
    · cases hg
  · cases hg
/-- len of a dict -/
def gLenD : List D → Option D
  | [.dict kvs] => if isX kvs = true then none else some (.int kvs.length)
  | _ => none
def gTuple : List D → Option D
  | [.list xs] => some (.tuple xs)
  | [.tuple xs] => some (.tuple xs)
  | _ => none
theorem cd_tuple : CallD X T (.type "tuple") gTuple := by
  intro pins s σ H vs us Q I rv h
  obtain ⟨G, ds, d, sub, nt, ha, hg, q⟩ := h
  unfold gTuple at hg
  split at hg
  · obtain ⟨v, rfl, h⟩ := ha.one
    obtain ⟨a, xs, rfl, hp, ra⟩ := h.list sub
    cases hg
    exact call_tuple_of pins s σ H _ us Q I rv ⟨_, _, rfl, .inl ⟨SqL.of hp, fun l hl => newT sub nt hl ra q⟩⟩
  · obtain ⟨v, rfl, h⟩ := ha.one
    obtain ⟨a, xs, rfl, hp, ra⟩ := h.tuple sub
    cases hg
    exact call_tuple_of pins s σ H _ us Q I rv ⟨_, _, rfl, .inr ⟨SqT.of hp, same_ sub nt h.tupRp q⟩⟩
  · cases hg
/-- list of a list, a tuple, a dict -/
def gList : List D → Option D
  | [.list xs] => some (.list xs)
  | [.tuple xs] => some (.list xs)
  | [.dict kvs] => some (.list (kvs.map (·.1)))
  | _ => none
theorem keys_rp {bs : List Addr} : ∀ {ks : List (List Key × V)} {kvs : List (D × D)}, RpK G ks kvs → (∀ (i : Nat) (k : List Key × V), ks[i]? = some k → ∃ b, bs[i]? = some b ∧ H b = some (.tup (k.1.map kV))) → bs.length = ks.length →
    ∃ G' : Hp, True → RpA G' [] [] := fun _ _ _ => ⟨G, fun _ => .nil⟩
def boolsOf : List D → Option (List Bool)
  | [] => some []
  | .bool i :: r => (boolsOf r).map (i :: ·)
  | _ :: _ => none
theorem boolsOf_eq : ∀ {ds : List D} {is : List Bool}, boolsOf ds = some is → ds = is.map PyData.bool
  | [], is, e => by cases e; rfl
  | .bool i :: r, is, e => by
    unfold boolsOf at e
    obtain ⟨js, e1, e2⟩ := Option.map_eq_some_iff.mp e
    subst e2
    rw [boolsOf_eq e1]; rfl
  | .none :: _, _, e => by cases e
  | .int _ :: _, _, e => by cases e
  | .str _ :: _, _, e => by cases e
  | .list _ :: _, _, e => by cases e
  | .tuple _ :: _, _, e => by cases e
  | .dict _ :: _, _, e => by cases e
theorem RpA.bools : ∀ {vs : List V} {is : List Bool}, RpA G vs (is.map PyData.bool) → vs = is.map V.bl
  | [], [], _ => rfl
  | _ :: _, [], h => by cases h
  | [], _ :: _, h => by cases h
  | v :: vs, i :: is, h => by
    cases h with
    | cons h r => cases h; rw [RpA.bools r]; rfl
def gAll : List D → Option D
  | [.list xs] => (boolsOf xs).map fun bs => .bool (bs.all id)
  | _ => none
def gAny : List D → Option D
  | [.list xs] => (boolsOf xs).map fun bs => .bool (bs.any id)
  | _ => none
theorem cd_all (hc : X.calm = true) : CallD X T (.builtin "all") gAll := by
  intro pins s σ H vs us Q I rv h
  obtain ⟨G, ds, d, sub, nt, ha, hg, q⟩ := h
  unfold gAll at hg
  split at hg
  · obtain ⟨bs, e1, e2⟩ := Option.map_eq_some_iff.mp hg
    obtain ⟨v, rfl, h⟩ := ha.one
    obtain ⟨a, xs, rfl, hp, ra⟩ := h.list sub
    subst e2
    rw [boolsOf_eq e1] at ra
    rw [ra.bools] at hp
    exact cr_all hc pins s σ H _ us Q I rv ⟨_, bs, rfl, SqL.of hp, same_ sub nt (.bl _) q⟩
  · cases hg
theorem cd_any (hc : X.calm = true) : CallD X T (.builtin "any") gAny := by
  intro pins s σ H vs us Q I rv h
  obtain ⟨G, ds, d, sub, nt, ha, hg, q⟩ := h
  unfold gAny at hg
  split at hg
  · obtain ⟨bs, e1, e2⟩ := Option.map_eq_some_iff.mp hg
    obtain ⟨v, rfl, h⟩ := ha.one
    obtain ⟨a, xs, rfl, hp, ra⟩ := h.list sub
    subst e2
    rw [boolsOf_eq e1] at ra
    rw [ra.bools] at hp
    exact cr_any hc pins s σ H _ us Q I rv ⟨_, bs, rfl, SqL.of hp, same_ sub nt (.bl _) q⟩
  · cases hg
def maxI : List Int → Int
  | [] => 0
  | a :: r => r.foldl (fun m x => if x > m then x else m) a
def minI : List Int → Int
  | [] => 0
  | a :: r => r.foldl (fun m x => if x < m then x else m) a
theorem foldmax (r : List Int) : ∀ a : Int, (r.foldl (fun m x => if x > m then x else m) a) ∈ a :: r ∧ ∀ y ∈ a :: r, y ≤ r.foldl (fun m x => if x > m then x else m) a := by
  induction r with
  | nil => intro a; exact ⟨List.mem_cons_self, fun y hy => by simp at hy; subst hy; exact Int.le_refl _⟩
  | cons b r ih =>
    intro a
    rw [List.foldl_cons]
    obtain ⟨h1, h2⟩ := ih (if b > a then b else a)
    generalize r.foldl (fun m x => if x > m then x else m) (if b > a then b else a) = F at h1 h2 ⊢
    refine ⟨?_, fun y hy => ?_⟩
    · rcases List.mem_cons.mp h1 with e | e
      · rw [e]; split
        · exact List.mem_cons_of_mem _ List.mem_cons_self
        · exact List.mem_cons_self
      · exact List.mem_cons_of_mem _ (List.mem_cons_of_mem _ e)
    · have h3 := h2 _ List.mem_cons_self
      rcases List.mem_cons.mp hy with e | e
      · subst e; split at h3 <;> omega
      · rcases List.mem_cons.mp e with e | e
        · subst e; split at h3 <;> omega
        · exact h2 y (List.mem_cons_of_mem _ e)
theorem foldmin (r : List Int) : ∀ a : Int, (r.foldl (fun m x => if x < m then x else m) a) ∈ a :: r ∧ ∀ y ∈ a :: r, r.foldl (fun m x => if x < m then x else m) a ≤ y := by
  induction r with
  | nil => intro a; exact ⟨List.mem_cons_self, fun y hy => by simp at hy; subst hy; exact Int.le_refl _⟩
  | cons b r ih =>
    intro a
    rw [List.foldl_cons]
    obtain ⟨h1, h2⟩ := ih (if b < a then b else a)
    generalize r.foldl (fun m x => if x < m then x else m) (if b < a then b else a) = F at h1 h2 ⊢
    refine ⟨?_, fun y hy => ?_⟩
    · rcases List.mem_cons.mp h1 with e | e
      · rw [e]; split
        · exact List.mem_cons_of_mem _ List.mem_cons_self
        · exact List.mem_cons_self
      · exact List.mem_cons_of_mem _ (List.mem_cons_of_mem _ e)
    · have h3 := h2 _ List.mem_cons_self
      rcases List.mem_cons.mp hy with e | e
      · subst e; split at h3 <;> omega
      · rcases List.mem_cons.mp e with e | e
        · subst e; split at h3 <;> omega
        · exact h2 y (List.mem_cons_of_mem _ e)
theorem max_uniq {ns : List Int} {m : Int} (hm : m ∈ ns) (h : ∀ y ∈ ns, y ≤ m) : m = maxI ns := by
  cases ns with
  | nil => simp at hm
  | cons a r =>
    obtain ⟨h1, h2⟩ := foldmax r a
    have := h _ h1
    have := h2 _ hm
    show m = r.foldl (fun m x => if x > m then x else m) a
    omega
theorem min_uniq {ns : List Int} {m : Int} (hm : m ∈ ns) (h : ∀ y ∈ ns, m ≤ y) : m = minI ns := by
  cases ns with
  | nil => simp at hm
  | cons a r =>
    obtain ⟨h1, h2⟩ := foldmin r a
    have := h _ h1
    have := h2 _ hm
    show m = r.foldl (fun m x => if x < m then x else m) a
    omega
def gMax : List D → Option D
  | [.int i, .int j] => some (.int (if j > i then j else i))
  | [.list xs] => (match intsOf xs with | some (a :: r) => some (.int (maxI (a :: r))) | _ => none)
  | _ => none
theorem cd_max (hc : X.calm = true) : CallD X T (.builtin "max") gMax := by
  intro pins s σ H vs us Q I rv h
  obtain ⟨G, ds, d, sub, nt, ha, hg, q⟩ := h
  unfold gMax at hg
  split at hg
  · obtain ⟨v, w, rfl, h1, h2⟩ := ha.two
    cases h1.int; cases h2.int; cases hg
    exact call_max2 hc pins s σ H _ us Q I rv ⟨_, _, rfl, same_ sub nt (.int _) q⟩
  · split at hg
    · rename_i xs a r e
      obtain ⟨v, rfl, h⟩ := ha.one
      obtain ⟨p, xs, rfl, hp, ra⟩ := h.list sub
      cases hg
      rw [intsOf_eq e] at ra
      rw [ra.ints] at hp
      exact cr_max hc pins s σ H _ us Q I rv ⟨_, a :: r, rfl, SqL.of hp, by simp, fun m h1 h2 => by rw [max_uniq h1 h2]; exact same_ sub nt (.int _) q⟩
    · cases hg
  · cases hg
def gMin : List D → Option D
  | [.int i, .int j] => some (.int (if j < i then j else i))
  | [.list xs] => (match intsOf xs with | some (a :: r) => some (.int (minI (a :: r))) | _ => none)
  | _ => none
theorem cd_min (hc : X.calm = true) : CallD X T (.builtin "min") gMin := by
  intro pins s σ H vs us Q I rv h
  obtain ⟨G, ds, d, sub, nt, ha, hg, q⟩ := h
  unfold gMin at hg
  split at hg
  · obtain ⟨v, w, rfl, h1, h2⟩ := ha.two
    cases h1.int; cases h2.int; cases hg
    exact call_min2 hc pins s σ H _ us Q I rv ⟨_, _, rfl, same_ sub nt (.int _) q⟩
  · split at hg
    · rename_i xs a r e
      obtain ⟨v, rfl, h⟩ := ha.one
      obtain ⟨p, xs, rfl, hp, ra⟩ := h.list sub
      cases hg
      rw [intsOf_eq e] at ra
      rw [ra.ints] at hp
      exact cr_min hc pins s σ H _ us Q I rv ⟨_, a :: r, rfl, SqL.of hp, by simp, fun m h1 h2 => by rw [min_uniq h1 h2]; exact same_ sub nt (.int _) q⟩
    · cases hg
  · cases hg
def gSum : List D → Option D
  | [.list xs] => (intsOf xs).map fun is => .int is.sum
  | _ => none
theorem cd_sum (hc : X.calm = true) : CallD X T (.builtin "sum") gSum := by
  intro pins s σ H vs us Q I rv h
  obtain ⟨G, ds, d, sub, nt, ha, hg, q⟩ := h
  unfold gSum at hg
  split at hg
  · obtain ⟨is, e1, e2⟩ := Option.map_eq_some_iff.mp hg
    obtain ⟨v, rfl, h⟩ := ha.one
    obtain ⟨a, xs, rfl, hp, ra⟩ := h.list sub
    subst e2
    rw [intsOf_eq e1] at ra
    rw [ra.ints] at hp
    exact cr_sum hc pins s σ H _ us Q I rv ⟨_, is, rfl, SqL.of hp, same_ sub nt (.int _) q⟩
  · cases hg
def gStr : List D → Option D
  | [.int i] => if i.natAbs.log2 < 1920 then some (.str (toString i)) else none
  | _ => none
theorem cd_str : CallD X T (.type "str") gStr := by
  intro pins s σ H vs us Q I rv h
  obtain ⟨G, ds, d, sub, nt, ha, hg, q⟩ := h
  unfold gStr at hg
  split at hg
  · split at hg
    · rename_i hl
      obtain ⟨v, rfl, h⟩ := ha.one
      cases h.int; cases hg
      exact call_str_int pins s σ H _ us Q I rv ⟨_, rfl, hl, same_ sub nt (.str _) q⟩
    · cases hg
  · cases hg
def gInt : List D → Option D
  | [.int i] => some (.int i)
  | [.bool k] => some (.int (if k then 1 else 0))
  | [.str a] => if a.length ≤ 640 then (PySem.intText? a).map .int else none
  | _ => none
theorem cd_int : CallD X T (.type "int") gInt := by
  intro pins s σ H vs us Q I rv h
  obtain ⟨G, ds, d, sub, nt, ha, hg, q⟩ := h
  unfold gInt at hg
  split at hg
  · obtain ⟨v, rfl, h⟩ := ha.one
    cases h.int; cases hg
    exact call_int1 pins s σ H _ us Q I rv (.inl ⟨_, rfl, same_ sub nt (.int _) q⟩)
  · obtain ⟨v, rfl, h⟩ := ha.one
    cases h.bool; cases hg
    exact call_int1 pins s σ H _ us Q I rv (.inr ⟨_, rfl, same_ sub nt (.int _) q⟩)
  · split at hg
    · rename_i hl
      obtain ⟨v, rfl, h⟩ := ha.one
      cases h.str
      obtain ⟨n, e1, e2⟩ := Option.map_eq_some_iff.mp hg
      subst e2
      exact call_int_str pins s σ H _ us Q I rv ⟨_, _, rfl, e1, hl, same_ sub nt (.int _) q⟩
    · cases hg
  · cases hg
end
end DL

set_option maxHeartbeats 4000000
/-! calls of the program's own defs, isinstance, methods -/
namespace DL
open PySem PySem.Spec PyProof.Rows L2
/-- what may be handed to a def -/
def SV.argOk : SV → Bool
  | .own _ => false
  | _ => true
theorem AllV.lk {lk lk' : Bool} {δ : Dl} {G H : Hp} : ∀ {vs : List V} {svs : List SV}, AllV lk δ G H vs svs → svs.all SV.argOk = true → AllV lk' δ G H vs svs
  | _, _, .nil, _ => .nil
  | _, _, .cons (sv := sv) h r, a => by
    rw [List.all_cons, Bool.and_eq_true] at a
    refine .cons ?_ (r.lk a.2)
    cases sv with
    | dat d => exact h
    | own d => exact absurd a.1 (by simp [SV.argOk])
    | dice => exact h
    | bench => exact h
    | exc _ => exact h
abbrev Fn := List SV → DSt → Rs D
/-- a def that reckons g -/
def spD (K : PySem.W.Frag) (T : Tb) (n : Nat) (g : Fn) : Sp := fun vs H Q E => vs.length = n ∧ ∃ δ G svs st, BOk K δ ∧ Gd T δ G H st ∧ AllV false δ G H vs svs ∧ svs.all SV.argOk = true ∧ EndC K T δ E G H Q (g svs st)
theorem spD.imp {K : PySem.W.Frag} {T : Tb} {n : Nat} {g g' : Fn} (h : ∀ svs st, g' svs st ≠ .stuck → g svs st = g' svs st) {vs : List V} {H : Hp} {Q : VK} {E : XK} (s : spD K T n g' vs H Q E) : spD K T n g vs H Q E := by
  obtain ⟨hl, δ, G, svs, st, bo, gd, av, ao, e⟩ := s
  refine ⟨hl, δ, G, svs, st, bo, gd, av, ao, ?_⟩
  by_cases q : g' svs st = .stuck
  · rw [q] at e; exact e.elim
  · rw [h svs st q]; exact e
def fCall (g : Fn) (fs : Fs) : F := fun ev st => (fs ev st).bind fun svs st1 => if svs.all SV.argOk = true then (g svs st1).bind fun d st2 => .ok (.dat d) st2 else .stuck
section
variable {X : Cx} {T : Tb} {δ : Dl} {E : XK} {G H : Hp} {Q : VK} {a b c e : Expr} {es : List Expr} {pos p : Pos} {fa fb fc : F} {fs : Fs}
theorem de_call {k n : Nat} {f : Addr} {fd : FuncData} {ps : List Str} {g : Fn} {x : Str} (bo : BOk X.K δ) (F : FnOk X.prog X.w X.K X.mg X.base (L2N.CX X.prog X.w) k f fd ps (spD X.K T n g)) (hr : Room k X.A) (hg : Gl X x) (hm : X.mg x = some (.ref f)) (hk : PySem.W.keepIn X.K (.ref f) = true) (hb : Binds X.K fd ps [])
    (hx : Passes (L2N.CX X.prog X.w) X E) (hl : (e :: es).length = n) (ha : DA X T δ E (e :: es) fs) (hdb : (x == ("__debug__" : Str)) = false := by decide) (he : starEach (e :: es) X.env = (false, eval e X.env) :: starEach es X.env := by rfl) (hpl : (backTo pos (starEach es X.env)).any (·.1) = false := by rfl)
    (hlen : ∀ ev st svs st', fs ev st = .ok svs st' → svs.length = n) :
    DE X T δ E (.Call (.Name x p) (e :: es) [] pos) (fCall g fs) :=
  PE.imp (pe_call F hr hg hm hk hb .nil hx ha hdb he hpl) fun σ H Q ⟨lk, G, ev, st, r, h⟩ => goA (e := fun G H r => EndE X.K lk T δ E G H Q r) r h fun svs st1 vs G1 H1 e1 f1 r1 x1 h1 => by
    split at h1
    · rename_i ao
      rw [List.append_nil]
      refine ⟨by rw [x1.length]; exact hlen _ _ _ _ e1, δ, G1, svs, st1, bo, r1.toGd, x1.lk ao, ao, ?_⟩
      cases q : g svs st1 with
      | ok d st2 => rw [q] at h1; exact fun v G' H' f d x => h1 v G' H' f d x
      | exc c st2 => rw [q] at h1; exact h1
      | stuck => rw [q] at h1; exact h1
    · exact h1.elim
theorem len_nil : ∀ (ev : Ev) (st : DSt) (svs : List SV) (st' : DSt), fN ev st = .ok svs st' → svs.length = 0 := fun _ _ _ _ e => by cases e; rfl
theorem len_cons {n : Nat} {f : F} {fs : Fs} (h : ∀ (ev : Ev) (st : DSt) (svs : List SV) (st' : DSt), fs ev st = .ok svs st' → svs.length = n) : ∀ (ev : Ev) (st : DSt) (svs : List SV) (st' : DSt), fK f fs ev st = .ok svs st' → svs.length = n + 1 := fun ev st svs st' e => by
  unfold fK at e
  cases q : f ev st with
  | ok sv st1 =>
    rw [q] at e
    have e : (fs ev st1).bind (fun svs st2 => .ok (sv :: svs) st2) = .ok svs st' := e
    cases q2 : fs ev st1 with
    | ok svs2 st2 => rw [q2] at e; cases e; show svs2.length + 1 = n + 1; rw [h _ _ _ _ q2]
    | exc c st2 => rw [q2] at e; cases e
    | stuck => rw [q2] at e; cases e
  | exc c st1 => rw [q] at e; cases e
  | stuck => rw [q] at e; cases e
/-! ### isinstance(x, T) -/
def tyName : D → String
  | .none => "NoneType"
  | .bool _ => "bool"
  | .int _ => "int"
  | .str _ => "str"
  | .list _ => "list"
  | .tuple _ => "tuple"
  | .dict _ => "dict"
def gIst (t : String) : D → Option D
  | .dict _ => none
  | d => (kitB (tyName d) t).map .bool
theorem tyx_of {K : PySem.W.Frag} {v : V} {d : D} (s : Sub G H) (h : Rd1 G H v d) (nd : ∀ kvs, d ≠ .dict kvs) : TyX K H v (.type (tyName d)) := by
  cases h with
  | dat h =>
    cases h with
    | non => exact .base .non
    | bl b => exact .base (.bl b)
    | int i => exact .base (.int i)
    | str x => exact .base (.str x)
    | lst h r => exact .base (.lst (s _ _ h))
    | tup h r => exact .base (.tup (s _ _ h))
    | dct h r => exact absurd rfl (nd _)
    | dcn h _ r => exact absurd rfl (nd _)
    | exc h => exact absurd rfl (nd _)
  | lst e h r => subst e; exact .base (.lst h)
  | dct e h r => exact absurd rfl (nd _)
def fIst (t : String) (fa : F) : F := fOp1 (gIst t) fa
theorem de_ist {t : String} {tx : Str} {p1 p2 : Pos} (hg : Gl X "isinstance") (hm : X.mg "isinstance" = none) (hg2 : Gl X tx) (hm2 : X.mg tx = none) (hv2 : bootBuiltins tx = some (.type t)) (ha : DE X T δ E a fa) (hn2 : tx ≠ "__name__" := by decide) (hd2 : (tx == ("__debug__" : Str)) = false := by decide)
    (he : starEach (a :: [.Name tx p2]) X.env = (false, eval a X.env) :: starEach [.Name tx p2] X.env := by rfl) (he2 : starEach [.Name tx p2] X.env = (false, eval (.Name tx p2) X.env) :: starEach [] X.env := by rfl) (hpl : (backTo pos (starEach [.Name tx p2] X.env)).any (·.1) = false := by rfl) :
    DE X T δ E (.Call (.Name "isinstance" p1) [a, .Name tx p2] [] pos) (fIst t fa) :=
  PE.imp (pe_callB call_isi hg hm (by decide +kernel) (pa_cons ha (pa_cons (pe_bltn (v := .ty t) hg2 hm2 hv2 rfl hn2 hd2) pa_nil he2) he) (by decide) (by decide) he hpl) fun σ H Q ⟨lk, G, ev, st, r, h⟩ =>
    goE (e := fun G H r => EndE X.K lk T δ E G H Q r) r h fun sa st1 v G1 H1 e1 f1 r1 x1 h1 => by
      obtain ⟨a, d, e2, e3, h2⟩ := of1_some h1
      have hr := x1.rd e2
      unfold gIst at e3
      split at e3
      · cases e3
      · rename_i d' nd
        obtain ⟨b, e4, e5⟩ := Option.map_eq_some_iff.mp e3
        subst e5
        exact ⟨v, .ty t, _, _, b, rfl, .ty t, tyx_of r1.sub hr (fun kvs z => nd kvs z), kit_ty e4, EndE.here r1 h2 (.bl b)⟩
/-! ### -x -/
def gNeg : D → Option D
  | .int i => some (.int (-i))
  | _ => none
theorem de_neg (ha : DE X T δ E a fa) : DE X T δ E (.UnaryOp .USub a pos) (fOp1 gNeg fa) :=
  PE.imp (pe_un un_neg ha) fun σ H Q ⟨lk, G, ev, st, r, h⟩ => goE (e := fun G H r => EndE X.K lk T δ E G H Q r) r h fun sa st1 v G1 H1 e1 f1 r1 x1 h1 => by
    obtain ⟨a, d, e2, e3, h2⟩ := of1_some h1
    have hr := x1.rd e2
    unfold gNeg at e3
    split at e3
    · cases hr.int
      cases e3
      exact ⟨_, rfl, EndE.here r1 h2 (.int _)⟩
    · cases e3
/-! ### methods -/
theorem RelOpt.getD {G : Hp} {o : Option V} {p : Option D} {v : V} {d : D} (r : RelOpt G o p) (h : Rp G v d) : Rp G (o.getD v) (p.getD d) := by
  cases o <;> cases p <;> first | exact h | exact r | exact r.elim
/-- d.get(k, x) -/
def dGetK (kvs : List (D × D)) (k d : D) : Option D := match k with
  | .tuple ds => if kOk kvs ds = true then some ((dLook kvs (.tuple ds)).getD d) else none
  | _ => none
def dictOf : SV → Option (List (D × D))
  | .dat (.dict kvs) => if isX kvs = true then none else some kvs
  | .own (.dict kvs) => if isX kvs = true then none else some kvs
  | _ => none
theorem dictOf_data {sa : SV} {kvs : List (D × D)} (h : dictOf sa = some kvs) : sa.data = some (.dict kvs) := by
  unfold dictOf at h
  split at h
  · split at h
    · cases h
    · cases h; rfl
  · split at h
    · cases h
    · cases h; rfl
  · cases h
theorem dictOf_x {sa : SV} {kvs : List (D × D)} (h : dictOf sa = some kvs) : isX kvs = false := by
  unfold dictOf at h
  split at h
  · split at h
    · cases h
    · rename_i n; cases h; exact Bool.eq_false_iff.mpr n
  · split at h
    · cases h
    · rename_i n; cases h; exact Bool.eq_false_iff.mpr n
  · cases h
def fGet (fa fb fc : F) : F := fun ev st => (fa ev st).bind fun sa st1 => match dictOf sa with
  | some kvs => (fb ev st1).bind fun sb st2 => (fc ev st2).bind fun sc st3 => of2 (dGetK kvs) sb sc st3
  | none => .stuck
theorem de_get {apos : Pos} (hu : X.A.units + 2 < cLine) (ha : DE X T δ E a fa) (hb : DE X T δ E b fb) (hc : DE X T δ E c fc) (hcd : ∀ ev st sv st', fc ev st = .ok sv st' → ∃ d, sv = .dat d) (m : M2 X a "get" apos b c pos := by exact ⟨rfl, rfl, rfl, rfl⟩) : DE X T δ E (.Call (.Attribute a "get" apos) [b, c] [] pos) (fGet fa fb fc) :=
  PE.imp (pe_eget2 hu ha hb hc m) fun σ H Q ⟨lk, G, ev, st, r, h⟩ =>
    goE (e := fun G H r => EndE X.K lk T δ E G H Q r) r h fun sa st1 v G1 H1 e1 f1 r1 x1 h1 => by
      split at h1
      · rename_i kvs ed
        have hx := x1.rd (dictOf_data ed)
        obtain ⟨p, u0, rfl, hp, ra⟩ := hx.dict r1.sub (dictOf_x ed)
        have hE : EIs H1 p := by
          rcases ra with ⟨ks, e0, _⟩ | ⟨ks, e0, _, rk⟩
          · subst e0; exact .inl (.inr ⟨ks, hp⟩)
          · subst e0; exact .inr ⟨ks, .inl ⟨hp, rk.keys r1.sub⟩⟩
        refine ⟨p, rfl, hE, ?_⟩
        refine goE (e := fun G H r => EndE X.K lk T δ E G H Q r) r1 h1 fun sb st2 w G2 H2 e2 f2 r2 x2 h2 => goE (e := fun G H r => EndE X.K lk T δ E G H Q r) r2 h2 fun sc st3 u G3 H3 e3 f3 r3 x3 h3 => ?_
        obtain ⟨kd, d, r', q1, q2, q3, h4⟩ := of2_some h3
        obtain ⟨d', rfl⟩ := hcd _ _ _ _ e3
        cases q2
        unfold dGetK at q3
        split at q3
        · split at q3
          · rename_i ds e
            cases q3
            obtain ⟨p', o, ep, g, ro⟩ := dget_of r3.sub (((x1.fr f2).fr f3).rd (dictOf_data ed)) ((x2.fr f3).rd q1) e
            cases ep
            exact ⟨o, g, EndE.here r3 h4 (ro.getD x3)⟩
          · cases q3
        · cases q3
      · exact h1.elim
/-- sep.join(xs), s.split(sep) -/
def strsOf : List D → Option (List Str)
  | [] => some []
  | .str i :: r => (strsOf r).map (i :: ·)
  | _ :: _ => none
theorem strsOf_eq : ∀ {ds : List D} {is : List Str}, strsOf ds = some is → ds = is.map PyData.str
  | [], is, e => by cases e; rfl
  | .str i :: r, is, e => by
    unfold strsOf at e
    obtain ⟨js, e1, e2⟩ := Option.map_eq_some_iff.mp e
    subst e2
    rw [strsOf_eq e1]; rfl
  | .none :: _, _, e => by cases e
  | .int _ :: _, _, e => by cases e
  | .bool _ :: _, _, e => by cases e
  | .list _ :: _, _, e => by cases e
  | .tuple _ :: _, _, e => by cases e
  | .dict _ :: _, _, e => by cases e
theorem RpA.strs {G : Hp} : ∀ {vs : List V} {is : List Str}, RpA G vs (is.map PyData.str) → vs = is.map V.str
  | [], [], _ => rfl
  | _ :: _, [], h => by cases h
  | [], _ :: _, h => by cases h
  | v :: vs, i :: is, h => by
    cases h with
    | cons h r => cases h; rw [RpA.strs r]; rfl
theorem rpA_strs {G : Hp} : ∀ is : List Str, RpA G (is.map V.str) (is.map PyData.str)
  | [] => .nil
  | i :: is => .cons (.str i) (rpA_strs is)
def strOf : SV → Option Str
  | .dat (.str x) => some x
  | _ => none
theorem strOf_eq {sv : SV} {x : Str} (h : strOf sv = some x) : sv = .dat (.str x) := by
  unfold strOf at h
  split at h
  · cases h; rfl
  · cases h
/-- a text's method of one argument -/
def fM1 (g : Str → D → Option D) (fa fb : F) : F := fun ev st => (fa ev st).bind fun sa st1 => match strOf sa with
  | some x => (fb ev st1).bind fun sb st2 => of1 (g x) sb st2
  | none => .stuck
theorem m1_read {K : PySem.W.Frag} {r : V → List V → Hp → VK → Prop} {g : Str → D → Option D} (rule : ∀ (x : Str) (v : V) (d d' : D) (G H : Hp) (Q : VK), Sub G H → (∀ b ps, G b ≠ some (.tbl ps)) → Rd1 G H v d → g x d = some d' → (∀ v G' H', Fr T .nil G H G' H' → Rp G' v d' → Q v H') → r (.str x) [v] H Q) :
    ∀ σ H Q, tD K T δ E (fM1 g fa fb) σ H Q → tM1 r (tD K T δ E fa) (tD K T δ E fb) σ H Q := fun σ H Q ⟨lk, G, ev, st, r, h⟩ =>
  goE (e := fun G H r => EndE K lk T δ E G H Q r) r h fun sa st1 v G1 H1 e1 f1 r1 x1 h1 => by
    split at h1
    · rename_i x ex
      rw [strOf_eq ex] at x1
      cases x1
      refine ⟨⟨x, rfl⟩, goE (e := fun G H r => EndE K lk T δ E G H Q r) r1 h1 fun sb st2 w G2 H2 e2 f2 r2 x2 h2 => ?_⟩
      obtain ⟨d, d', q1, q2, h3⟩ := of1_some h2
      exact rule x w d d' G2 H2 Q r2.sub r2.nt (x2.rd q1) q2 fun v G' H' f x => h3 v G' H' f.any (r2.di.fr f) x
    · exact h1.elim
def gJoin (x : Str) : D → Option D
  | .list ds => (match strsOf ds with | some ys => if (ys.map (·.length)).sum + ys.length * x.length ≤ lim then some (.str (Txt.join x ys)) else none | none => none)
  | _ => none
def gSplit (x : Str) : D → Option D
  | .str y => if (y.length == 0) = false ∧ x.length + 2 ≤ lim then some (.list ((Txt.split x y).map .str)) else none
  | _ => none
theorem de_join {apos : Pos} (ha : DE X T δ E a fa) (hb : DE X T δ E b fb) (hs : starEach [b] X.env = [(false, eval b X.env)] := by rfl) (hbase : attributeBase a "join" X.env (eval a X.env) = eval a X.env := by rfl) (hline : (apos.endLine == pos.line) = true := by rfl) :
    DE X T δ E (.Call (.Attribute a "join" apos) [b] [] pos) (fM1 gJoin fa fb) :=
  PE.imp (pe_join ha hb hs hbase hline) (m1_read fun x v d d' G H Q sub nt hv hg q => by
    unfold gJoin at hg
    split at hg
    · split at hg
      · rename_i ds ys e
        split at hg
        · rename_i hl
          obtain ⟨p, vs, rfl, hp, ra⟩ := hv.list sub
          rw [strsOf_eq e] at ra
          rw [ra.strs] at hp
          cases hg
          exact ⟨x, p, ys, rfl, rfl, .inl (SqL.of hp), by have := hl; unfold lim at this; omega, same_ sub nt (.str _) q⟩
        · cases hg
      · cases hg
    · cases hg)
theorem de_split {apos : Pos} (ha : DE X T δ E a fa) (hb : DE X T δ E b fb) (hs : starEach [b] X.env = [(false, eval b X.env)] := by rfl) (hbase : attributeBase a "split" X.env (eval a X.env) = eval a X.env := by rfl) (hline : (apos.endLine == pos.line) = true := by rfl) :
    DE X T δ E (.Call (.Attribute a "split" apos) [b] [] pos) (fM1 gSplit fa fb) :=
  PE.imp (pe_split ha hb hs hbase hline) (m1_read fun x v d d' G H Q sub nt hv hg q => by
    unfold gSplit at hg
    split at hg
    · split at hg
      · rename_i hl
        cases hv.str
        cases hg
        exact ⟨x, _, rfl, rfl, hl.1, lim_line hl.2, fun p hp => newL sub nt hp (rpA_strs _) q⟩
      · cases hg
    · cases hg)
/-- xs.index(x): the first place of an equal one -/
def firstAt (xs : List D) (x : D) : Option Nat := xs.findIdx? fun z => PyData.eqv z x
def gIndex : D → D → Option D
  | .list xs, x => if (SeqAt.shaped (.list xs) && SeqAt.shaped x) = true then (firstAt xs x).map fun j => .int (j : Nat) else none
  | _, _ => none
def fIndex (fa fb : F) : F := fun ev st => (fa ev st).bind fun sa st1 => match sa.data with
  | some (.list xs) => (fb ev st1).bind fun sb st2 => of1 (gIndex (.list xs)) sb st2
  | _ => .stuck
theorem de_index {apos : Pos} (hu : X.A.units + 65 < cLine) (ha : DE X T δ E a fa) (hb : DE X T δ E b fb) (hbase : attributeBase a "index" X.env (eval a X.env) = eval a X.env := by rfl)
    (hfew : ((backTo pos (starEach (b :: []) X.env)).all (fun x => !x.1) && (backToKw pos (keywordEach [] X.env)).all (fun x => x.1.isSome)
      && decide ((b :: []).length + ([] : List Keyword).length + (if ([] : List Keyword).isEmpty then 0 else 1) < 30)) = true := by rfl)
    (hline : (apos.endLine == pos.line) = true := by rfl) (hs : starEach (b :: []) X.env = (false, eval b X.env) :: starEach [] X.env := by rfl) (hplain : (backTo pos (starEach [] X.env)).any (·.1) = false := by rfl) :
    DE X T δ E (.Call (.Attribute a "index" apos) [b] [] pos) (fIndex fa fb) :=
  PE.imp (pe_bm PySem.F.plainAttrs_list PySem.F.slot_list_index PySem.F.type_list_index (mt_indexD hu) ha (pa_cons hb pa_nil hs) hbase hfew hline hs hplain) fun σ H Q ⟨lk, G, ev, st, r, h⟩ =>
    goE (e := fun G H r => EndE X.K lk T δ E G H Q r) r h fun sa st1 v G1 H1 e1 f1 r1 x1 h1 => by
      split at h1
      · rename_i xs ed
        have hx := x1.rd ed
        obtain ⟨p, vs, rfl, hp, ra⟩ := hx.list r1.sub
        refine ⟨.inl ⟨rfl, _, SqL.of hp⟩, goE (e := fun G H r => EndE X.K lk T δ E G H Q r) r1 h1 fun sb st2 w G2 H2 e2 f2 r2 x2 h2 => ?_⟩
        obtain ⟨d, d', q1, q2, h3⟩ := of1_some h2
        unfold gIndex at q2
        simp only at q2
        split at q2
        · rename_i hl
          rw [Bool.and_eq_true] at hl
          obtain ⟨j, e3, e4⟩ := Option.map_eq_some_iff.mp q2
          subst e4
          obtain ⟨hj, h4, h5⟩ := List.findIdx?_eq_some_iff_getElem.mp e3
          refine ⟨p, w, d, xs, j, xs[j], rfl, rfl, ((x1.fr f2).rd ed).dp r2.sub (SeqAt.canLay_of_shaped hl.1), (x2.rd q1).dp r2.sub (SeqAt.canLay_of_shaped hl.2), hl.1, hl.2, by simp [hj], h4, fun m z' hm hz => ?_, EndE.here r2 h3 (.int _)⟩
          obtain ⟨hm2, e5⟩ := List.getElem?_eq_some_iff.mp hz
          have := h5 m hm
          rw [e5] at this
          exact Bool.eq_false_iff.mpr (fun z => by simp [z] at this)
        · cases q2
      · exact h1.elim
end
end DL

set_option maxHeartbeats 4000000
/-! (a, b, ..) = a list of that length -/
namespace PyProof.Rows
open PySem
section
variable {prog : Program} {w : World} {A : Around} {E : Value → Shared → Prop} {s : Shared}
theorem dl_draw_list {it t : Addr} {items : Array Value} (hne : t ≠ it) : ∀ (n i : Nat) (s : Shared) (Q : List Value → Shared → Prop), s.heap.IsListIter it t i → s.heap.IsList t items → i + n ≤ items.size →
    (∀ h', h'.IsListIter it t (i + n) → Heap.SameBut it s.heap h' → Q ((items.toList.drop i).take n) { s with heap := h' }) → wpAny (model prog w) A (draw (.ref it) n) Q E s
  | 0, i, s, Q, hit, _, _, hQ => by
    show wpAny _ _ (pure []) Q E s
    exact wpAny_pure (by simpa using hQ s.heap hit (Heap.SameBut.refl ..))
  | n + 1, i, s, Q, hit, ht, hle, hQ => by
    have hlt : i < items.size := by omega
    show wpAny _ _ (pyNext (.ref it) >>= _) Q E s
    refine wpAny_bind (wpAny_pyNext_list_item hit ht (x := items[i]) (by simp [hlt]) fun h₁ hit₁ hs₁ => ?_)
    refine wpAny_bind (wpAny_holding (dl_draw_list hne n (i + 1) _ _ hit₁ (ht.extBut hs₁.extBut hne) (by omega) fun h₂ hit₂ hs₂ => wpAny_pure ?_))
    have hd : items.toList.drop i = items[i] :: items.toList.drop (i + 1) := by simp [List.drop_eq_getElem_cons, hlt]
    have := hQ h₂ (by rw [show i + (n + 1) = i + 1 + n by omega]; exact hit₂) (hs₁.trans hs₂)
    rw [hd, List.take_succ_cons] at this
    exact this
theorem dl_unpackItems_list {t : Addr} {items : Array Value} {Q : List Value → Shared → Prop} (hh : A.handled = none) (ht : s.heap.IsList t items)
    (hQ : ∀ h', Heap.ExtBut s.heap.objs.size s.heap h' → Q items.toList { s with heap := h' }) : wpAny (model prog w) A (unpackItems (.ref t) items.size none) Q E s := by
  have hlt : t ≠ s.heap.objs.size := by obtain ⟨o, ho, _⟩ := ht; exact Nat.ne_of_lt (Heap.lt_size ho)
  unfold unpackItems
  refine wpAny_bind ?_
  · unfold notIterableAtAll
    refine wpAny_bind (wpAny_specialOf (Heap.IsList.typeIs ht) slot_list_iter.lookup ?_)
    refine wpAny_pure ?_
    simp only [Bool.false_eq_true, if_false]
    refine wpAny_bind (wpAny_holding (wpAny_pyIter_list ht ?_))
    refine wpAny_bind (wpAny_holding (dl_draw_list hlt items.size 0 _ _ ⟨_, Heap.get?_push_size _ rfl, rfl, rfl⟩ (Heap.IsList.push ht _) (by omega) fun h₁ hit₁ hs₁ => ?_))
    have hall : List.take items.size (List.drop 0 items.toList) = items.toList := by
      rw [List.drop_zero]; exact List.take_of_length_le (by simp)
    rw [hall]
    rw [if_neg (by simp)]
    have ht₁ : h₁.IsList t items := (Heap.IsList.push ht _).extBut hs₁.extBut hlt
    refine wpAny_bind (wpAny_holding (wpAny_pyNext_list_end hh hit₁ ht₁ (by simp) fun h₂ he₂ => ?_))
    simp only [Option.isSome_none, Bool.false_eq_true, if_false]
    refine wpAny_pure (hQ h₂ fun b o hb e => he₂ b o hb (hs₁.extBut b o hb (Heap.get?_push_of_some _ e)))
theorem dl_unpack_list {t : Addr} {items : Array Value} {targets : List (Bool × (Value → Sem Unit))} {Q : Unit → Shared → Prop} (hh : A.handled = none) (ht : s.heap.IsList t items)
    (hn : targets.length = items.size) (hstar : targets.findIdx? (·.1) = none)
    (h : ∀ h', Heap.ExtBut s.heap.objs.size s.heap h' → wpAny (model prog w) A (assignInOrder (targets.map (·.2)) items.toList) Q E { s with heap := h' }) :
    wpAny (model prog w) A (unpack (.ref t) targets) Q E s := by
  unfold unpack
  rw [hn, hstar]
  exact wpAny_bind (wpAny_holding (dl_unpackItems_list hh ht h))
end
end PyProof.Rows
namespace DL
open PySem PySem.Spec PyProof.Rows L2
/-- a tuple or a list of that length -/
def gSq (K : PySem.W.Frag) (n : Nat) (t : TGs) : TG := fun v σ H Q => ∃ a xs, v = .ref a ∧ (SqT K H a xs ∨ SqL K H a xs) ∧ xs.length = n ∧ t xs σ H Q
theorem pg_sq {X : Cx} {pos : Pos} {es : List Expr} {k : Nat} {t : TGs} {n : Nat} (hc : X.calm = true) (h : PGs X es t)
    (hn : (assignEach es X.env).length = n := by rfl) (hst : (assignEach es X.env).findIdx? (·.1) = none := by rfl) : PG X (.Tuple es k pos) (gSq X.K n t) := by
  refine ⟨fun pins s σ H v u Q I r hw => ?_⟩
  obtain ⟨a, xs, e1, hq, hl, hw⟩ := hw
  rcases hq with hq | hq
  · exact (pg_tup hc h hn hst).run pins s σ H v u Q I r ⟨a, xs, e1, hq, hl, hw⟩
  · subst e1
    cases r
    obtain ⟨its, rv, ht, hz⟩ := I.list hq
    rw [assign_Tuple]
    refine wpAny_bind (wpAny_standAt (dl_unpack_list (I.ok.hd hc) ht.isList (by simp [hn, ← hl, rv.length]) hst fun h' hx => ?_))
    have I1 : Inv X pins σ H { s with heap := h' } := I.kept (t' := s.toks) fun b o e => hx b o (Nat.ne_of_lt (Heap.lt_size e)) e
    exact h.run pins _ σ H xs _ Q I1 (by simpa using rv) hw
end DL

set_option maxHeartbeats 4000000
/-! targets, walks, comprehensions -/
namespace DL
open PySem PySem.Spec PyProof.Rows L2
/-! ### targets -/
theorem PG.imp {X : Cx} {e : Expr} {t u : TG} (h : PG X e t) (i : ∀ v σ H Q, u v σ H Q → t v σ H Q) : PG X e u := ⟨fun pins s σ H v w Q I r hq => h.run pins s σ H v w Q I r (i v σ H Q hq)⟩
theorem PGs.imp {X : Cx} {e : List Expr} {t u : TGs} (h : PGs X e t) (i : ∀ v σ H Q, u v σ H Q → t v σ H Q) : PGs X e u := ⟨fun pins s σ H v w Q I r hq => h.run pins s σ H v w Q I r (i v σ H Q hq)⟩
theorem PI.imp {X : Cx} {tg e : Expr} {t u : TI} (h : PI X tg e t) (i : ∀ σ H Q, u σ H Q → t σ H Q) : PI X tg e u := ⟨fun pins s σ H Q I hq => h.run pins s σ H Q I (i σ H Q hq)⟩
abbrev Tg := D → Ev → Option Ev
abbrev Tgs := List D → Ev → Option Ev
def Off (ss : List Nat) (σ σ' : L2.St) : Prop := σ'.length = σ.length ∧ ∀ i, i ∉ ss → σ'[i]? = σ[i]?
def tG (T : Tb) (δ : Dl) (t : Tg) (ss : List Nat) : TG := fun v σ H Q => ∃ lk G ev st d ev', Rel lk T δ G H σ ev st ∧ Rp G v d ∧ t d ev = some ev' ∧ ∀ σ', Rel lk T δ G H σ' ev' st → Off ss σ σ' → Q σ' H
def tGs (T : Tb) (δ : Dl) (t : Tgs) (ss : List Nat) : TGs := fun vs σ H Q => ∃ lk G ev st ds ev', Rel lk T δ G H σ ev st ∧ RpA G vs ds ∧ t ds ev = some ev' ∧ ∀ σ', Rel lk T δ G H σ' ev' st → Off ss σ σ' → Q σ' H
def DG (X : Cx) (T : Tb) (δ : Dl) (e : Expr) (t : Tg) (ss : List Nat) : Prop := PG X e (tG T δ t ss)
def DGs (X : Cx) (T : Tb) (δ : Dl) (es : List Expr) (t : Tgs) (ss : List Nat) : Prop := PGs X es (tGs T δ t ss)
/-- a slot takes a datum -/
theorem Rel.set {lk : Bool} {T : Tb} {δ : Dl} {G H : Hp} {σ : L2.St} {ev : Ev} {st : DSt} (r : Rel lk T δ G H σ ev st) (i : Nat) {v : V} {d : D} (h : Rp G v d) : Rel lk T δ G H (σ.set i (some v)) (ev.set i (some (.dat d))) st :=
  ⟨r.toGd, by rw [List.length_set, List.length_set]; exact r.len, fun j sv e => by
    by_cases hj : i = j
    · subst hj
      have hl : i < ev.length := by
        rcases Nat.lt_or_ge i ev.length with z | z
        · exact z
        · rw [List.getElem?_eq_none (by rw [List.length_set]; exact z)] at e; cases e
      rw [List.getElem?_set_self hl] at e
      cases e
      exact ⟨v, List.getElem?_set_self (by rw [← r.len]; exact hl), h⟩
    · rw [List.getElem?_set_ne hj] at e ⊢
      exact r.sl j sv e, fun j k d1 d2 a e1 e2 e3 e4 => by
    have h1 : i ≠ j := fun z => by
      subst z
      by_cases hl : i < ev.length
      · rw [List.getElem?_set_self hl] at e1; cases e1
      · rw [List.getElem?_eq_none (by rw [List.length_set]; omega)] at e1; cases e1
    have h2 : i ≠ k := fun z => by
      subst z
      by_cases hl : i < ev.length
      · rw [List.getElem?_set_self hl] at e2; cases e2
      · rw [List.getElem?_eq_none (by rw [List.length_set]; omega)] at e2; cases e2
    rw [List.getElem?_set_ne h1] at e1 e3
    rw [List.getElem?_set_ne h2] at e2 e4
    exact r.ds j k d1 d2 a e1 e2 e3 e4⟩
/-- a slot is forgotten -/
theorem Rel.unset {lk : Bool} {T : Tb} {δ : Dl} {G H : Hp} {σ : L2.St} {ev : Ev} {st : DSt} (r : Rel lk T δ G H σ ev st) (i : Nat) (o : Option V) : Rel lk T δ G H (σ.set i o) (ev.set i none) st :=
  ⟨r.toGd, by rw [List.length_set, List.length_set]; exact r.len, fun j sv e => by
    by_cases hj : i = j
    · subst hj
      by_cases hl : i < ev.length
      · rw [List.getElem?_set_self hl] at e; cases e
      · rw [List.getElem?_eq_none (by rw [List.length_set]; omega)] at e; cases e
    · rw [List.getElem?_set_ne hj] at e ⊢
      exact r.sl j sv e, fun j k d1 d2 a e1 e2 e3 e4 => by
    have h1 : i ≠ j := fun z => by
      subst z
      by_cases hl : i < ev.length
      · rw [List.getElem?_set_self hl] at e1; cases e1
      · rw [List.getElem?_eq_none (by rw [List.length_set]; omega)] at e1; cases e1
    have h2 : i ≠ k := fun z => by
      subst z
      by_cases hl : i < ev.length
      · rw [List.getElem?_set_self hl] at e2; cases e2
      · rw [List.getElem?_eq_none (by rw [List.length_set]; omega)] at e2; cases e2
    rw [List.getElem?_set_ne h1] at e1 e3
    rw [List.getElem?_set_ne h2] at e2 e4
    exact r.ds j k d1 d2 a e1 e2 e3 e4⟩
def wipeE (ev : Ev) : List Nat → Ev
  | [] => ev
  | v :: vs => (wipeE ev vs).set v none
theorem Rel.wipe {lk : Bool} {T : Tb} {δ : Dl} {G H : Hp} {σ : L2.St} {ev : Ev} {st : DSt} (r : Rel lk T δ G H σ ev st) : ∀ vs : List Nat, Rel lk T δ G H (L2.wipe σ vs) (wipeE ev vs) st
  | [] => r
  | v :: vs => (r.wipe vs).unset v none
theorem wipe_get {σ : L2.St} {i : Nat} : ∀ {vs : List Nat}, (L2.wipe σ vs)[i]? = if i ∈ vs then (σ[i]?).map fun _ => none else σ[i]?
  | [] => by simp [L2.wipe]
  | v :: vs => by
    unfold L2.wipe
    have ih := wipe_get (σ := σ) (i := i) (vs := vs)
    by_cases h : v = i
    · subst h
      rw [if_pos List.mem_cons_self]
      by_cases hl : v < σ.length
      · rw [List.getElem?_set_self (by rw [L2.wipe_length]; exact hl), List.getElem?_eq_getElem hl]; rfl
      · rw [List.getElem?_eq_none (by rw [List.length_set, L2.wipe_length]; omega), List.getElem?_eq_none (by omega)]; rfl
    · rw [List.getElem?_set_ne h, ih]
      have : (i ∈ v :: vs) ↔ i ∈ vs := ⟨fun z => (List.mem_cons.mp z).elim (fun z => absurd z.symm h) id, List.mem_cons_of_mem _⟩
      by_cases hi : i ∈ vs
      · rw [if_pos hi, if_pos (this.mpr hi)]
      · rw [if_neg hi, if_neg (fun z => hi (this.mp z))]
/-- what a target within a block does not touch -/
theorem wipe_off {σ σ' : L2.St} {ss vs : List Nat} (o : Off ss σ σ') (h : ∀ i ∈ ss, i ∈ vs) : L2.wipe σ' vs = L2.wipe σ vs := by
  have hl := o.1
  apply List.ext_getElem?
  intro i
  rw [wipe_get, wipe_get]
  by_cases hi : i ∈ vs
  · rw [if_pos hi, if_pos hi]
    by_cases hb : i < σ.length
    · rw [List.getElem?_eq_getElem hb, List.getElem?_eq_getElem (by rw [hl]; exact hb)]; rfl
    · rw [List.getElem?_eq_none (by omega), List.getElem?_eq_none (by omega)]
  · rw [if_neg hi, if_neg hi]
    exact o.2 i (fun z => hi (h i z))
def gN (i : Nat) : Tg := fun d ev => some (ev.set i (some (.dat d)))
def gNs : Tgs := fun ds ev => match ds with
  | [] => some ev
  | _ => none
def gCs (t : Tg) (ts : Tgs) : Tgs := fun ds ev => match ds with
  | d :: r => (t d ev).bind fun ev1 => ts r ev1
  | [] => none
def gTp (n : Nat) (ts : Tgs) : Tg := fun d ev => match d with
  | .tuple ds => if ds.length = n then ts ds ev else none
  | .list ds => if ds.length = n then ts ds ev else none
  | _ => none
section
variable {X : Cx} {T : Tb} {δ : Dl} {E : XK} {pos : Pos} {t : Tg} {ts : Tgs} {ss ss' : List Nat}
theorem dg_name (i : Nat) {x : Str} (hN : X.N.Nodup) (hi : X.N[i]? = some x := by rfl) (hx : Loc X.env.scope x := by first | exact Or.inl rfl | exact Or.inr rfl) (hf : X.fn x = true ∨ X.env.scope.names.lookup x = some .local := by first | exact .inl rfl | exact .inr rfl | assumption) : DG X T δ (.Name x pos) (gN i) [i] :=
  PG.imp (pg_name hN hi hx hf) fun v σ H Q ⟨lk, G, ev, st, d, ev', r, rp, e, h⟩ => by
    cases e
    exact h _ (r.set i rp) ⟨List.length_set, fun j hj => List.getElem?_set_ne (fun z => hj (by simp [z]))⟩
theorem dgs_nil : DGs X T δ [] gNs [] :=
  PGs.imp pgs_nil fun v σ H Q ⟨lk, G, ev, st, d, ev', r, rp, e, h⟩ => by
    cases rp with
    | nil => cases e; exact ⟨rfl, h _ r ⟨rfl, fun _ _ => rfl⟩⟩
    | cons _ _ => cases e
theorem dgs_cons {e : Expr} {es : List Expr} (h1 : DG X T δ e t ss) (h2 : DGs X T δ es ts ss')
    (hs : (assignEach (e :: es) X.env).map (·.2) = assign e X.env :: (assignEach es X.env).map (·.2) := by rfl) : DGs X T δ (e :: es) (gCs t ts) (ss ++ ss') :=
  PGs.imp (pgs_cons h1 h2 hs) fun v σ H Q ⟨lk, G, ev, st, ds, ev', r, rp, e, h⟩ => by
    cases rp with
    | nil => cases e
    | cons rp ra =>
      obtain ⟨ev1, e1, e2⟩ := Option.bind_eq_some_iff.mp e
      exact ⟨_, _, rfl, lk, G, ev, st, _, ev1, r, rp, e1, fun σ1 r1 o1 => ⟨lk, G, ev1, st, _, ev', r1, ra, e2, fun σ2 r2 o2 => h σ2 r2 ⟨o2.1.trans o1.1, fun j hj => (o2.2 j fun z => hj (List.mem_append_right _ z)).trans (o1.2 j fun z => hj (List.mem_append_left _ z))⟩⟩⟩
theorem dg_tup {es : List Expr} {k : Nat} {n : Nat} (hc : X.calm = true) (h : DGs X T δ es ts ss)
    (hn : (assignEach es X.env).length = n := by rfl) (hst : (assignEach es X.env).findIdx? (·.1) = none := by rfl) : DG X T δ (.Tuple es k pos) (gTp n ts) ss :=
  PG.imp (pg_sq hc h hn hst) fun v σ H Q ⟨lk, G, ev, st, d, ev', r, rp, e, h⟩ => by
    unfold gTp at e
    split at e
    · split at e
      · rename_i hl
        cases rp with
        | tup ha ra => exact ⟨_, _, rfl, .inl (SqT.of (r.sub _ _ ha)), by rw [ra.length]; exact hl, lk, G, ev, st, _, ev', r, ra, e, h⟩
      · cases e
    · split at e
      · rename_i hl
        cases rp with
        | lst ha ra => exact ⟨_, _, rfl, .inr (SqL.of (r.sub _ _ ha)), by rw [ra.length]; exact hl, lk, G, ev, st, _, ev', r, ra, e, h⟩
      · cases e
    · cases e
end
/-! ### walks -/
def Held (ps : List (Addr × HO)) (H : Hp) : Prop := ∀ p ∈ ps, H p.1 = some p.2
/-- the iterator J hands out items, while G0 stands and ps is held -/
structure WalkD (T : Tb) (J : It) (G0 : Hp) (ps : List (Addr × HO)) (items : List D) : Prop where
  stop : ∀ G H, Sub G0 G → Sub G H → Held ps H → J.stop items.length H
  go : ∀ i G H d, items[i]? = some d → Sub G0 G → Sub G H → (∀ b qs, G b ≠ some (.tbl qs)) → Held ps H → J.go i H ∧ ∀ x H', J.yld i H x H' → ∃ G', Fr T .nil G H G' H' ∧ Rp G' x d
/-- what is held is no dice, no table -/
def PsOk (δ : Dl) (ps : List (Addr × HO)) : Prop := ∀ p ∈ ps, ¬ δ.has p.1 ∧ ∀ qs, p.2 ≠ .tbl qs
theorem Held.fr {T : Tb} {δ : Dl} {G H G' H' : Hp} {ps : List (Addr × HO)} (h : Held ps H) (o : PsOk δ ps) (f : Fr T δ G H G' H') : Held ps H' := fun p hp => f.kp _ _ (h p hp) (o p hp).1 (o p hp).2
abbrev Fi := Ev → DSt → Rs (List D)
def EndI (K : PySem.W.Frag) (T : Tb) (δ : Dl) (E : XK) (G H : Hp) (R : It → Hp → Prop) : Rs (List D) → Prop
  | .ok items st' => ∀ J G' H', Fr T δ G H G' H' → DiceAt δ G' H' st' → WalkD T J G' [] items → R J H'
  | .exc c st' => ∀ G' H', Fr T δ G H G' H' → DiceAt δ G' H' st' → E (c.at K) none H'
  | .stuck => False
theorem EndI.tr {K : PySem.W.Frag} {T : Tb} {δ : Dl} {E : XK} {G H G1 H1 : Hp} {R : It → Hp → Prop} (f : Fr T δ G H G1 H1) : ∀ {r : Rs (List D)}, EndI K T δ E G H R r → EndI K T δ E G1 H1 R r
  | .ok _ _, h => fun J G' H' f' d x => h J G' H' (f.tr f') d x
  | .exc _ _, h => fun G' H' f' d => h G' H' (f.tr f') d
  | .stuck, h => h
instance {K : PySem.W.Frag} {T : Tb} {δ : Dl} {E : XK} {R : It → Hp → Prop} : EndK K T δ E (fun G H r => EndI K T δ E G H R r) := ⟨fun h => h, fun h => h, fun f h => h.tr f⟩
def tI (K : PySem.W.Frag) (T : Tb) (δ : Dl) (E : XK) (f : Fi) : TI := fun σ H R => ∃ lk G ev st, Rel lk T δ G H σ ev st ∧ EndI K T δ E G H R (f ev st)
def DI (X : Cx) (T : Tb) (δ : Dl) (E : XK) (tg e : Expr) (f : Fi) : Prop := PI X tg e (tI X.K T δ E f)
/-- over frozen data: a list, a tuple -/
def fiL (fa : F) : Fi := fun ev st => (fa ev st).bind fun sv st1 => match sv with
  | .dat (.list xs) => .ok xs st1
  | _ => .stuck
def fiT (fa : F) : Fi := fun ev st => (fa ev st).bind fun sv st1 => match sv with
  | .dat (.tuple xs) => .ok xs st1
  | _ => .stuck
theorem walk_l {T : Tb} {K : PySem.W.Frag} {G : Hp} {a : Addr} {vs : List V} {ds : List D} (h : G a = some (.lst vs)) (ra : RpA G vs ds) : WalkD T (Itl K a) G [] ds where
  stop := fun G1 H1 s1 s2 _ => ⟨vs, SqL.of (s2 _ _ (s1 _ _ h)), by rw [ra.length]; exact Nat.le_refl _⟩
  go := fun i G1 H1 d e s1 s2 nt _ => by
    obtain ⟨v, e1, e2⟩ := ra.get e
    have hs : SqL K H1 a vs := SqL.of (s2 _ _ (s1 _ _ h))
    refine ⟨⟨vs, v, hs, e1⟩, fun x H' ⟨eH, hx⟩ => ?_⟩
    subst eH
    have e3 := hx vs hs
    rw [e1] at e3
    cases e3
    exact ⟨G1, .rf s2 nt, e2.mono s1⟩
theorem walk_t {T : Tb} {K : PySem.W.Frag} {G : Hp} {a : Addr} {vs : List V} {ds : List D} (h : G a = some (.tup vs)) (ra : RpA G vs ds) : WalkD T (Itt K a) G [] ds where
  stop := fun G1 H1 s1 s2 _ => ⟨vs, SqT.of (s2 _ _ (s1 _ _ h)), by rw [ra.length]; exact Nat.le_refl _⟩
  go := fun i G1 H1 d e s1 s2 nt _ => by
    obtain ⟨v, e1, e2⟩ := ra.get e
    have hs : SqT K H1 a vs := SqT.of (s2 _ _ (s1 _ _ h))
    refine ⟨⟨vs, v, hs, e1⟩, fun x H' ⟨eH, hx⟩ => ?_⟩
    subst eH
    have e3 := hx vs hs
    rw [e1] at e3
    cases e3
    exact ⟨G1, .rf s2 nt, e2.mono s1⟩
def upto (lo : Int) (n : Nat) : List D := (List.range n).map fun i => .int (lo + (i : Nat))
theorem upto_get {lo : Int} {n i : Nat} {d : D} (h : (upto lo n)[i]? = some d) : i < n ∧ d = .int (lo + (i : Nat)) := by
  unfold upto at h
  rw [List.getElem?_map] at h
  obtain ⟨j, h1, h2⟩ := Option.map_eq_some_iff.mp h
  obtain ⟨h3, h4⟩ := List.getElem?_eq_some_iff.mp h1
  rw [List.getElem_range] at h4
  subst h4
  exact ⟨by simpa using h3, h2.symm⟩
theorem walk_r {T : Tb} {G : Hp} {lo : Int} {n : Nat} : WalkD T (Itr lo n) G [] (upto lo n) where
  stop := fun G1 H1 s1 s2 _ => by show n ≤ _; unfold upto; rw [List.length_map, List.length_range]; exact Nat.le_refl _
  go := fun i G1 H1 d e s1 s2 nt _ => by
    obtain ⟨hi, rfl⟩ := upto_get e
    refine ⟨hi, fun x H' ⟨eH, ex⟩ => ?_⟩
    subst eH ex
    exact ⟨G1, .rf s2 nt, .int _⟩
section
variable {X : Cx} {T : Tb} {δ : Dl} {E : XK} {pos p : Pos} {tg a b : Expr} {fa fb : F} {fs : Fs}
theorem di_l (ha : DE X T δ E a fa) : DI X T δ E tg a (fiL fa) :=
  PI.imp (pi_list ha) fun σ H R ⟨lk, G, ev, st, r, h⟩ => goE (e := fun G H r => EndI X.K T δ E G H R r) r h fun sv st1 v G1 H1 e1 f1 r1 x1 h1 => by
    split at h1
    · cases x1 with
      | lst hp ra => exact ⟨_, rfl, ⟨_, SqL.of (r1.sub _ _ hp)⟩, h1 _ G1 H1 (.rf r1.sub r1.nt) r1.di (walk_l hp ra)⟩
    · exact h1.elim
theorem di_t (ha : DE X T δ E a fa) : DI X T δ E tg a (fiT fa) :=
  PI.imp (pi_tup ha) fun σ H R ⟨lk, G, ev, st, r, h⟩ => goE (e := fun G H r => EndI X.K T δ E G H R r) r h fun sv st1 v G1 H1 e1 f1 r1 x1 h1 => by
    split at h1
    · cases x1 with
      | tup hp ra => exact ⟨_, rfl, ⟨_, SqT.of (r1.sub _ _ hp)⟩, h1 _ G1 H1 (.rf r1.sub r1.nt) r1.di (walk_t hp ra)⟩
    · exact h1.elim
/-- range(n), range(a, b) -/
def fiR (fs : Fs) : Fi := fun ev st => (fs ev st).bind fun svs st1 => match svs with
  | [.dat (.int j)] => if -1000000 ≤ j ∧ j ≤ 1000000 then .ok (upto 0 j.toNat) st1 else .stuck
  | [.dat (.int i), .dat (.int j)] => if (-1000000 ≤ i ∧ i ≤ 1000000) ∧ (-1000000 ≤ j ∧ j ≤ 1000000) then .ok (upto i (j - i).toNat) st1 else .stuck
  | _ => .stuck
theorem di_r1 (hg : Gl X "range") (hm : X.mg "range" = none) (ha : DA X T δ E [a] fs) (hs : starEach [a] X.env = [(false, eval a X.env)] := by rfl) (hlen : ∀ ev st svs st', fs ev st = .ok svs st' → svs.length = 1) : DI X T δ E tg (.Call (.Name "range" p) [a] [] pos) (fiR fs) :=
  PI.imp (pi_range1 hg hm ha hs) fun σ H R ⟨lk, G, ev, st, r, h⟩ => goA (e := fun G H r => EndI X.K T δ E G H R r) r h fun svs st1 vs G1 H1 e1 f1 r1 x1 h1 => by
    split at h1
    · split at h1
      · rename_i j hl
        cases x1 with
        | cons h x => cases x; cases h; exact ⟨j, rfl, by omega, by omega, h1 _ G1 H1 (.rf r1.sub r1.nt) r1.di walk_r⟩
      · exact h1.elim
    · have := hlen _ _ _ _ e1
      cases this
    · exact h1.elim
theorem di_r2 (hg : Gl X "range") (hm : X.mg "range" = none) (ha : DA X T δ E [a, b] fs) (hs : starEach [a, b] X.env = [(false, eval a X.env), (false, eval b X.env)] := by rfl) (hs2 : starEach [b] X.env = [(false, eval b X.env)] := by rfl) (hlen : ∀ ev st svs st', fs ev st = .ok svs st' → svs.length = 2) : DI X T δ E tg (.Call (.Name "range" p) [a, b] [] pos) (fiR fs) :=
  PI.imp (pi_range2 hg hm ha hs hs2) fun σ H R ⟨lk, G, ev, st, r, h⟩ => goA (e := fun G H r => EndI X.K T δ E G H R r) r h fun svs st1 vs G1 H1 e1 f1 r1 x1 h1 => by
    split at h1
    · have := hlen _ _ _ _ e1
      cases this
    · split at h1
      · rename_i i j hl
        cases x1 with
        | cons h x => cases x with | cons h' x => cases x; cases h; cases h'; exact ⟨i, j, rfl, ⟨by omega, by omega, by omega, by omega⟩, h1 _ G1 H1 (.rf r1.sub r1.nt) r1.di walk_r⟩
      · exact h1.elim
    · exact h1.elim
end
end DL

set_option maxHeartbeats 4000000
/-! enumerate(tuple) -/
namespace DL
open PySem PySem.Spec PyProof.Rows L2
open AutoSeq1 (wpAny_loadPart')
theorem meets_enumT (l : Addr) (items : Array Value) (n : Nat) (dct : Option Addr) (sl : Array (Option Value)) :
    Meets (Builtin.«enumerate.__new__» ⟨[.type "enumerate", .ref l], []⟩) (fun _ R s => s.heap.get? l = some { cls := .type "tuple", dict := dct, data := .seq items n, slots := sl } ∧
      R (.ok (.ret (.ref (s.heap.push { cls := .type "tuple_iterator", data := .fields #[.ref l, .int 0 0] }).objs.size)))
        { s with heap := (s.heap.push { cls := .type "tuple_iterator", data := .fields #[.ref l, .int 0 0] }).push { cls := .type "enumerate", data := .fields #[.none, .bool false, .ref s.heap.objs.size, rawInt 0, .none, .none] } }) :=
  .of_wp fun prog w A R s h => by
    obtain ⟨hp, g, d, tk, os⟩ := s; obtain ⟨hl, h⟩ := h
    have hsub := sub_enumerate
    have hL : Heap.IsTuple (Shared.heap ⟨hp, g, d, tk, os⟩) l items := ⟨_, hl, rfl, n, rfl⟩
    wp_walk using wpAny_loadPart' hl
    refine wpAny_stack_any fun st => wpAny_pure ?_
    split
    · rename_i c _ _ _ _ _
      cases (c == Value.type "enumerate")
      · wp_walk using wpAny_loadPart' hl, wpAny_pyIter_tuple hL
        exact ⟨_, rfl, h⟩
      · wp_walk using wpAny_loadPart' hl, wpAny_pyIter_tuple hL
        exact ⟨_, rfl, h⟩
    · wp_walk using wpAny_loadPart' hl, wpAny_pyIter_tuple hL
      exact ⟨_, rfl, h⟩
theorem call_enumT {prog : Program} {w : World} {A : Around} {E : Value → Shared → Prop} {s : Shared} {l : Addr} {items : Array Value} {Q : Value → Shared → Prop} (hL : s.heap.IsTuple l items)
    (h : ∀ h', IsEnum h' (s.heap.objs.size + 1) s.heap.objs.size 0 .none → h'.IsTupleIter s.heap.objs.size l 0 → h'.objs.size = s.heap.objs.size + 2 →
      (∀ b o, s.heap.get? b = some o → h'.get? b = some o) → Q (.ref (s.heap.objs.size + 1)) { s with heap := h' }) :
    wpAny (model prog w) A (call (.type "enumerate") [.ref l]) Q E s := by
  obtain ⟨⟨c, dct, dt, sl⟩, hl, hc, n, hd⟩ := hL
  replace hc : c = .type "tuple" := hc
  replace hd : dt = .seq items n := hd
  subst hc hd
  refine callType_new F.called_enumerate (by decide) (F.typeCall_enumerate_1 _) (F.newCall_enumerate_1 _) (fun obj => F.args_object_init_2 obj _) F.entry_enumerate_new
    (meets_enumT l items n dct sl) ⟨hl, ?_⟩
  have hz : (s.heap.push { cls := .type "tuple_iterator", data := .fields #[.ref l, .int 0 0] }).objs.size = s.heap.objs.size + 1 := Heap.size_push ..
  show _ ∧ _
  rw [hz]
  have he : IsEnum ((s.heap.push { cls := .type "tuple_iterator", data := .fields #[.ref l, .int 0 0] }).push
      { cls := .type "enumerate", data := .fields #[.none, .bool false, .ref s.heap.objs.size, rawInt 0, .none, .none] }) (s.heap.objs.size + 1) s.heap.objs.size 0 .none := by
    have := Heap.get?_push_size (s.heap.push { cls := .type "tuple_iterator", data := .fields #[.ref l, .int 0 0] })
      (o := { cls := .type "enumerate", data := .fields #[.none, .bool false, .ref s.heap.objs.size, rawInt 0, .none, .none] }) rfl
    rw [hz] at this; exact this
  refine ⟨⟨_, he, rfl⟩, h _ he ⟨_, Heap.get?_push_of_some _ (Heap.get?_push_size _ rfl), rfl, rfl⟩ (by rw [Heap.size_push, hz]) fun b o x => Heap.get?_push_of_some _ (Heap.get?_push_of_some _ x)⟩
/-- the tuple at a, each item in a new pair -/
def Iet (K : PySem.W.Frag) (a : Addr) : It :=
  ⟨fun i H => ∃ (xs : List V) (x : V), SqT K H a xs ∧ xs[i]? = some x, fun i H v H' => ∃ T x, v = .ref T ∧ H T = none ∧ H' = upd H T (.tup [.int (i : Nat), x]) ∧ ∀ xs, SqT K H a xs → xs[i]? = some x, fun i H => ∃ xs : List V, SqT K H a xs ∧ xs.length ≤ i⟩
theorem turn_enumT {P : Program} {w : World} {K : PySem.W.Frag} {elts : List Expr} {kk : Nat} {tpos : Pos} (a e it : Addr) (hae : a ≠ e) (hai : a ≠ it) :
    Turn P w K (.Tuple elts kk tpos) (Iet K a) [e, it] e (fun i h => (∃ old, IsEnum h e it ((i : Nat) : Int) old) ∧ h.IsTupleIter it a i ∧ e ≠ it) where
  mem := by simp
  obj := fun i h st b hb => by
    obtain ⟨⟨old, he⟩, ⟨o, ho, hc, hd⟩, _⟩ := st
    have e' : b = e ∨ b = it := by simpa using hb
    rcases e' with z | z
    · rw [z]; exact ⟨_, he, fun v q => nomatch q⟩
    · rw [z]; exact ⟨o, ho, fun v q => by rw [hd] at q; cases q⟩
  keep := fun i h h' st k => let ⟨⟨old, he⟩, hi, hne⟩ := st; ⟨⟨old, k e (by simp) _ he⟩, hi.at fun o q => k it (by simp) o q, hne⟩
  item := by
    intro X hP hw hK hc i pins s σ H E I hf st hg
    subst hP hw hK
    obtain ⟨⟨old, he⟩, hit, hne⟩ := st
    obtain ⟨xs, x, hq, hx⟩ := hg
    obtain ⟨its, rv, p, hz⟩ := I.tuple hq
    obtain ⟨u, hu, ru⟩ := rv.get hx
    have hel : e < s.heap.objs.size := Heap.lt_size he
    have hil : it < s.heap.objs.size := by obtain ⟨_, q, _⟩ := hit; exact Heap.lt_size q
    have DR := Draws.tuple (prog := X.prog) (w := X.w) (A := X.A.in1) (I.ok.hd hc) it a hai its.toArray
    have hlt : i < its.toArray.size := by
      have := (List.getElem?_eq_some_iff.mp hu).1
      simpa using this
    refine wpAny_pyNext_enum_itemD DR he ⟨hit, show s.heap.IsTuple a its.toArray from p⟩ hlt hne (by simp [Ne.symm hae, hne]) fun x' h' tk hx' ho hit' hT hsz hk => ?_
    have ex : x' = u := by
      have h1 : its[i]? = some x' := by simpa using hx'
      rw [hu] at h1
      exact (Option.some.inj h1).symm
    subst ex
    refine ⟨_, rfl, wpAny_letOwnedTupleGo_enum (s := { s with heap := h', toks := tk + 1 }) ho fun h'' he' sb => ?_⟩
    have hT2 : h''.get? s.heap.objs.size = some { cls := .type "tuple", data := .seq #[.int i tk, x'] } := (sb.2 _ (Nat.ne_of_gt hel)).trans hT
    have new : ObjOk X.prog X.w (upd H s.heap.objs.size (.tup [.int (i : Nat), x])) h'' s.heap.objs.size (.tup [.int (i : Nat), x]) :=
      ⟨by show 2 ≤ sizeLine; decide, [.int i tk, x'], .cons ⟨_, rfl⟩ (.cons ru .nil), ⟨_, hT2, rfl, _, rfl⟩⟩
    have I1 : Inv X pins σ (upd H s.heap.objs.size (.tup [.int (i : Nat), x])) { s with heap := h'', toks := tk + 1 } :=
      I.turnedNew (ch := [e, it]) (fun b ob hb q => (sb.2 b (fun z => hb (by simp [z]))).trans (hk b ob (fun z => hb (by simp [z])) (fun z => hb (by simp [z])) q)) hf (Nat.le_refl _) new
    refine ⟨.ref s.heap.objs.size, _, I1, rfl, ⟨_, x, rfl, I.hok.fresh (Nat.le_refl _), rfl, fun ys hy => by rw [I.tuple_inj hy hq]; exact hx⟩, ⟨⟨x', ?_⟩, hit'.1.at fun o q => (sb.2 it (Ne.symm hne)).trans q, hne⟩, fun b hb => ?_⟩
    · have e1 : ((i + 1 : Nat) : Int) = (i : Int) + 1 := by omega
      rw [e1]; exact he'
    · have hb' : b < s.heap.objs.size := by
        have e' : b = e ∨ b = it := by simpa using hb
        rcases e' with z | z
        · rw [z]; exact hel
        · rw [z]; exact hil
      rw [upd_ne (Nat.ne_of_lt hb')]
      exact (hf b hb).1
  done := by
    intro X hP hw hK hc i pins s σ H E I hf st hg
    subst hP hw hK
    obtain ⟨⟨old, he⟩, hit, hne⟩ := st
    obtain ⟨xs, hq, hx⟩ := hg
    obtain ⟨its, rv, p, hz⟩ := I.tuple hq
    obtain ⟨f0, f1, f2, f3, f4, f5⟩ := hf it (by simp)
    have hl := rv.length
    have hT : s.TypeIs (.ref e) "enumerate" := ⟨_, he, rfl⟩
    unfold pyNext
    refine wpAny_bind (wpAny_attempt (wpAny_callSpecial?_slot (name := Str.ofString "__next__") hT F.slot_enumerate_next
      (wpAny_call_entry F.slot_enumerate_next hT F.entry_enumerate_next ?_ (F.args_enumerate_next_1 _))))
    show wpAny _ _ (field (.ref e) 2 >>= _) _ _ _
    refine wpAny_bind (wpAny_field he rfl (x := .ref it) rfl ?_)
    refine wpAny_bind (wpAny_nextOf_tuple_end (I.ok.hd hc) hit (show s.heap.IsTuple a its.toArray from p) (by simp; omega) fun h' x he' hx' => ?_)
    obtain ⟨o, ho, hcl⟩ := hx'
    refine wpAny_bind (wpAny_isInstance (T := "StopIteration") (b := true) ⟨o, ho, hcl⟩ isSubtype_stop ?_)
    exact wpAny_pure ⟨rfl, I.turned (t' := s.toks) (fun b o hb q => he' b o hb q) f0 f1 f3 f4 f5⟩
  self := fun A i s Q E st h => let ⟨⟨_, he⟩, _⟩ := st; wpAny_pyIter_enum he h
def iEnumT (K : PySem.W.Frag) (ta : TA) : TI := fun σ H R => ta σ H fun vs H1 => ∃ a xs, vs = [.ref a] ∧ SqT K H1 a xs ∧ R (Iet K a) H1
theorem pi_enumT {X : Cx} {e : Expr} {ta : TA} {p pos tpos : Pos} {elts : List Expr} {kk : Nat} (hg : Gl X "enumerate") (hm : X.mg "enumerate" = none) (ha : PA X [e] ta) (hs : starEach [e] X.env = [(false, eval e X.env)] := by rfl) :
    PI X (.Tuple elts kk tpos) (.Call (.Name "enumerate" p) [e] [] pos) (iEnumT X.K ta) := by
  refine ⟨fun pins s σ H R I h => ?_⟩
  refine Call_ (ld_blt I hg hm boot_enumerate (PyProof.Rows.callWith_type1 (thn (ha.run pos pins s σ H _ I h) fun us s1 ⟨vs, H1, I1, r1, q1⟩ => ?_) hs rfl))
  obtain ⟨a, xs, ex, hq, q⟩ := q1
  subst ex
  cases r1 with
  | cons r rr =>
    cases rr
    cases r
    obtain ⟨its, rv, p', hz⟩ := I1.tuple hq
    have hal : a < s1.heap.objs.size := p'.lt
    refine call_enumT (show s1.heap.IsTuple a its.toArray from p') fun h' he hit hsz hk => wpAny_pyIter_enum he ?_
    have I2 : Inv X pins σ H1 { s1 with heap := h' } := I1.kept (t' := s1.toks) hk
    refine ⟨s1.heap.objs.size + 1, [s1.heap.objs.size + 1, s1.heap.objs.size], _, _, H1, rfl, I2, turn_enumT a (s1.heap.objs.size + 1) s1.heap.objs.size (Nat.ne_of_lt (Nat.lt_succ_of_lt hal)) (Nat.ne_of_lt hal), ⟨⟨.none, he⟩, hit, Nat.succ_ne_self _⟩, fun b hb => ?_, q⟩
    have e' : b = s1.heap.objs.size + 1 ∨ b = s1.heap.objs.size := by simpa using hb
    have hle : s1.heap.objs.size ≤ b := by
      rcases e' with z | z
      · rw [z]; exact Nat.le_add_right _ _
      · rw [z]; exact Nat.le_refl _
    exact I1.fpOk hle (I1.hok.fresh hle)
def enumD (ds : List D) : List D := ds.zipIdx.map fun p => .tuple [.int (p.2 : Nat), p.1]
theorem enumD_get {ds : List D} {i : Nat} {d : D} (h : (enumD ds)[i]? = some d) : ∃ x, ds[i]? = some x ∧ d = .tuple [.int (i : Nat), x] := by
  unfold enumD at h
  rw [List.getElem?_map, List.getElem?_zipIdx] at h
  cases q : ds[i]? with
  | none => rw [q] at h; cases h
  | some x => rw [q] at h; simp at h; exact ⟨x, rfl, h.symm⟩
theorem walk_e {T : Tb} {K : PySem.W.Frag} {G : Hp} {a : Addr} {vs : List V} {ds : List D} (h : G a = some (.tup vs)) (ra : RpA G vs ds) : WalkD T (Iet K a) G [] (enumD ds) where
  stop := fun G1 H1 s1 s2 _ => ⟨vs, SqT.of (s2 _ _ (s1 _ _ h)), by rw [ra.length]; unfold enumD; simp⟩
  go := fun i G1 H1 d e s1 s2 nt _ => by
    obtain ⟨x, e0, rfl⟩ := enumD_get e
    obtain ⟨v, e1, e2⟩ := ra.get e0
    have hs : SqT K H1 a vs := SqT.of (s2 _ _ (s1 _ _ h))
    refine ⟨⟨vs, v, hs, e1⟩, fun y H' ⟨q, z, ey, hq, eH, hx⟩ => ?_⟩
    subst ey eH
    have e3 := hx vs hs
    rw [e1] at e3
    cases e3
    have f : Fr T .nil G1 H1 (upd G1 q (.tup [.int (i : Nat), v])) (upd H1 q (.tup [.int (i : Nat), v])) := .new s2 nt hq (fun _ z => by cases z)
    exact ⟨_, f, .tup upd_same (.cons (.int _) (.cons ((e2.mono s1).mono f.gg) .nil))⟩
def fiE (fs : Fs) : Fi := fun ev st => (fs ev st).bind fun svs st1 => match svs with
  | [.dat (.tuple ds)] => .ok (enumD ds) st1
  | _ => .stuck
section
variable {X : Cx} {T : Tb} {δ : Dl} {E : XK} {pos p tpos : Pos} {tg a b : Expr} {fa fb : F} {fs : Fs} {elts : List Expr} {kk : Nat}
theorem di_e (hg : Gl X "enumerate") (hm : X.mg "enumerate" = none) (ha : DA X T δ E [a] fs) (hs : starEach [a] X.env = [(false, eval a X.env)] := by rfl) : DI X T δ E (.Tuple elts kk tpos) (.Call (.Name "enumerate" p) [a] [] pos) (fiE fs) :=
  PI.imp (pi_enumT hg hm ha hs) fun σ H R ⟨lk, G, ev, st, r, h⟩ => goA (e := fun G H r => EndI X.K T δ E G H R r) r h fun svs st1 vs G1 H1 e1 f1 r1 x1 h1 => by
    split at h1
    · cases x1 with
      | cons h x =>
        cases x
        cases h with
        | tup hp ra => exact ⟨_, _, rfl, SqT.of (r1.sub _ _ hp), h1 _ G1 H1 (.rf r1.sub r1.nt) r1.di (walk_e hp ra)⟩
    · exact h1.elim
end
end DL

set_option maxHeartbeats 4000000
/-! list comprehensions -/
namespace DL
open PySem PySem.Spec PyProof.Rows L2
def Rs.nx {α : Type} : Rs α → Rs α
  | .ok a st => .ok a st
  | _ => .stuck
def tst (ft : Option F) (ev : Ev) (st : DSt) : Rs Bool := match ft with
  | none => .ok true st
  | some f => (f ev st).bind fun sv st1 => match sv with
    | .dat (.bool b) => .ok b st1
    | _ => .stuck
def lcGo (t : Tg) (ft : Option F) (fe : F) (ev : Ev) : List D → DSt → Rs (List D)
  | [], st => .ok [] st
  | d :: r, st => match t d ev with
    | none => .stuck
    | some ev' => (tst ft ev' st).nx.bind fun b st1 => if b = true then
        (fe ev' st1).nx.bind fun sv st2 => match sv with
          | .dat y => (lcGo t ft fe ev r st2).bind fun ys st3 => .ok (y :: ys) st3
          | _ => .stuck
      else lcGo t ft fe ev r st1
def fLc (fi : Fi) (t : Tg) (ft : Option F) (fe : F) (vs : List Nat) : F := fun ev st => (fi ev st).bind fun items st1 => if items.length ≤ lim then
    (lcGo t ft fe (wipeE ev vs) items st1).bind fun ys st2 => .ok (.dat (.list ys)) st2
  else .stuck
theorem Rs.nx_noexc {α β : Type} {r : Rs α} {k : α → DSt → Rs β} (h : ∀ a st c st', k a st ≠ .exc c st') : ∀ c st', r.nx.bind k ≠ .exc c st' := by
  intro c st' e
  cases r with
  | ok a st => exact h a st c st' e
  | exc c st => cases e
  | stuck => cases e
theorem lcGo_noexc {t : Tg} {ft : Option F} {fe : F} {ev : Ev} : ∀ (items : List D) (st : DSt) (c : Exn) (st' : DSt), lcGo t ft fe ev items st ≠ .exc c st'
  | [], st, c, st', e => by cases e
  | d :: r, st, c, st', e => by
    unfold lcGo at e
    split at e
    · cases e
    · refine Rs.nx_noexc (fun b st1 c st' e => ?_) c st' e
      split at e
      · refine Rs.nx_noexc (fun sv st2 c st' e => ?_) c st' e
        split at e
        · cases q : lcGo t ft fe ev r st2 with
          | ok ys st3 => rw [q] at e; cases e
          | exc c2 st3 => exact lcGo_noexc r st2 c2 st3 q
          | stuck => rw [q] at e; cases e
        · cases e
      · exact lcGo_noexc r st1 c st' e
theorem Rs.nx_ok {α β : Type} {r : Rs α} {k : α → DSt → Rs β} {b : β} {st' : DSt} (h : r.nx.bind k = .ok b st') : ∃ a st, r = .ok a st ∧ k a st = .ok b st' := by
  cases r with
  | ok a st => exact ⟨a, st, rfl, h⟩
  | exc c st => cases h
  | stuck => cases h
theorem Rs.bind_ok {α β : Type} {r : Rs α} {k : α → DSt → Rs β} {b : β} {st' : DSt} (h : r.bind k = .ok b st') : ∃ a st, r = .ok a st ∧ k a st = .ok b st' := by
  cases r with
  | ok a st => exact ⟨a, st, rfl, h⟩
  | exc c st => cases h
  | stuck => cases h
/-- one turn -/
theorem lcGo_ok {t : Tg} {ft : Option F} {fe : F} {ev : Ev} {d : D} {r : List D} {st st2 : DSt} {ys : List D} (h : lcGo t ft fe ev (d :: r) st = .ok ys st2) :
    ∃ ev' b st1, t d ev = some ev' ∧ tst ft ev' st = .ok b st1 ∧ ((b = true ∧ ∃ y st3 zs, fe ev' st1 = .ok (.dat y) st3 ∧ lcGo t ft fe ev r st3 = .ok zs st2 ∧ ys = y :: zs) ∨ (b = false ∧ lcGo t ft fe ev r st1 = .ok ys st2)) := by
  unfold lcGo at h
  split at h
  · cases h
  · rename_i ev' e
    obtain ⟨b, st1, e1, h⟩ := Rs.nx_ok h
    refine ⟨ev', b, st1, e, e1, ?_⟩
    split at h
    · rename_i hb
      obtain ⟨sv, st3, e2, h⟩ := Rs.nx_ok h
      split at h
      · obtain ⟨zs, st4, e3, h⟩ := Rs.bind_ok h
        cases h
        exact .inl ⟨hb, _, st3, zs, e2, e3, rfl⟩
      · cases h
    · rename_i hb
      exact .inr ⟨by simpa using hb, h⟩
abbrev noE : XK := fun _ _ _ => False
def tTo (K : PySem.W.Frag) (T : Tb) (δ : Dl) (ft : Option F) : TT := match ft with
  | none => tYes
  | some f => tT K T δ noE f
def DPT (X : Cx) (T : Tb) (δ : Dl) (ifs : List Expr) (ft : Option F) : Prop := PTs X ifs (tTo X.K T δ ft)
theorem dpt_none {X : Cx} {T : Tb} {δ : Dl} : DPT X T δ [] none := pts_nil
theorem dpt_some {X : Cx} {T : Tb} {δ : Dl} {c : Expr} {f : F} (h : DT X T δ noE c f) : DPT X T δ [c] (some f) := pts_one h
/-- an own new object is data from now on -/
theorem Fr.frz {T : Tb} {δ : Dl} {G0 H0 G H : Hp} {p : Addr} {o : HO} (f : Fr T δ G0 H0 G H) (h0 : ¬ Alv (H0 p)) (g : G p = none) (hp : H p = some o) (hn : ∀ ps, o ≠ .tbl ps) : Fr T δ G0 H0 (upd G p o) H where
  gg := fun b u e => by
    have hb : b ≠ p := fun z => by have := f.gg _ _ e; rw [z, g] at this; cases this
    rw [upd_ne hb]; exact f.gg _ _ e
  gh := fun b u e => by
    by_cases hb : b = p
    · subst hb; rw [upd_same] at e; rw [hp]; exact e
    · rw [upd_ne hb] at e; exact f.gh _ _ e
  nt := fun b ps e => by
    by_cases hb : b = p
    · subst hb; rw [upd_same] at e; exact hn ps (Option.some.inj e)
    · rw [upd_ne hb] at e; exact f.nt b ps e
  nw := fun b hb n g => by
    have hn : b ≠ p := fun z => h0 (by rw [← z]; exact hb)
    rw [upd_ne hn]; exact f.nw b hb n g
  kp := f.kp
  un := f.un
  ut := f.ut
  tb := f.tb
/-- the turns of a comprehension over a walk: D the new list -/
theorem lc_turns {K : PySem.W.Frag} {T : Tb} {δ : Dl} {lk : Bool} {G1 H1 : Hp} {σ : L2.St} {ev : Ev} {st1 st2 : DSt} {t : Tg} {ss vs : List Nat} {ft : Option F} {fe : F} {J : It} {ps : List (Addr × HO)} {items ys : List D} {D' : Addr} {Qd : Hp → Prop}
    (hss : ∀ i ∈ ss, i ∈ vs) (r1 : Rel lk T δ G1 H1 σ ev st1) (wk : WalkD T J G1 ps items) (hd : Held ps H1) (po : PsOk δ ps) (hD : H1 D' = none) (hlim : items.length ≤ lim) (hlc : lcGo t ft fe (wipeE ev vs) items st1 = .ok ys st2)
    (done : ∀ G H vs', Fr T δ G1 H1 G H → DiceAt δ G H st2 → G D' = none → H D' = some (.lst vs') → RpA G vs' ys → Held ps H → Qd H) :
    ∃ W : Nat → Nat → Hp → Prop, (∃ m, W 0 m (upd H1 D' (.lst []))) ∧ ∀ i m H, W i m H →
      (J.stop i H ∧ Qd H) ∨ (J.go i H ∧ ∃ Nx : Hp → Prop, (∀ H', Nx H' → ∃ m', m' < m ∧ W (i + 1) m' H') ∧ ∀ x H', J.yld i H x H' → tG T δ t ss x (L2.wipe σ vs) H' fun σ2 H2 => L2.wipe σ2 vs = L2.wipe σ vs ∧ tTo K T δ ft σ2 H2 fun b H3 =>
        if b = true then tD K T δ noE fe σ2 H3 fun y H4 => ∃ acc, H4 D' = some (.lst acc) ∧ acc.length < sizeLine ∧ Nx (upd H4 D' (.lst (acc ++ [y]))) else Nx H3) := by
  have hδD : ¬ δ.has D' := fun z => (r1.di.alv z).1.ne hD
  refine ⟨fun i m H => m = items.length - i ∧ i ≤ items.length ∧ ∃ G st acc vs', Fr T δ G1 H1 G H ∧ DiceAt δ G H st ∧ G D' = none ∧ H D' = some (.lst vs') ∧ RpA G vs' acc ∧ acc.length ≤ i ∧ ∃ zs, lcGo t ft fe (wipeE ev vs) (items.drop i) st = .ok zs st2 ∧ acc ++ zs = ys, ?_, ?_⟩
  · have g1 : G1 D' = none := by
      cases q : G1 D' with
      | none => rfl
      | some z => rw [r1.sub _ _ q] at hD; cases hD
    have f : Fr T δ G1 H1 G1 (upd H1 D' (.lst [])) := .newH r1.sub r1.nt hD
    refine ⟨items.length, by simp, Nat.zero_le _, G1, st1, [], [], f, f.kpD r1.di hδD, g1, upd_same, .nil, Nat.zero_le _, ys, hlc, rfl⟩
  · rintro i m H ⟨rfl, hi, G, st, acc, vs', f, d, gD, hDl, ra, hal, zs, hz, hy⟩
    have hs : Sub G H := f.gh
    by_cases hlt : i < items.length
    · have hit : items[i]? = some items[i] := List.getElem?_eq_getElem hlt
      obtain ⟨hgo, hyl⟩ := wk.go i G H items[i] hit f.gg hs f.nt (hd.fr po f)
      refine .inr ⟨hgo, fun H => i + 1 ≤ items.length ∧ ∃ G st acc vs', Fr T δ G1 H1 G H ∧ DiceAt δ G H st ∧ G D' = none ∧ H D' = some (.lst vs') ∧ RpA G vs' acc ∧ acc.length ≤ i + 1 ∧ ∃ zs, lcGo t ft fe (wipeE ev vs) (items.drop (i + 1)) st = .ok zs st2 ∧ acc ++ zs = ys, fun H' n => ⟨items.length - (i + 1), by omega, rfl, n.1, n.2⟩, fun x H' y => ?_⟩
      obtain ⟨G', f', rp⟩ := hyl x H' y
      rw [List.drop_eq_getElem_cons hlt] at hz
      obtain ⟨ev', b, st', e1, e2, e3⟩ := lcGo_ok hz
      have fa : Fr T δ G1 H1 G' H' := f.tr f'.any
      have da : DiceAt δ G' H' st := d.fr f'
      have gD' : G' D' = none := f'.nw D' (by rw [hDl]; exact ⟨_, rfl, fun _ z => by cases z⟩) (by rw [hDl]; intro _ z; cases z) gD
      have hDl' : H' D' = some (.lst vs') := f'.kp _ _ hDl (fun z => by cases z) (fun _ z => by cases z)
      have rw_ : Rel lk T δ G' H' (L2.wipe σ vs) (wipeE ev vs) st := (r1.fr fa da).wipe vs
      refine ⟨lk, G', wipeE ev vs, st, items[i], ev', rw_, rp, e1, fun σ2 r2 o2 => ⟨?_, ?_⟩⟩
      · have := wipe_off o2 hss
        rw [this]
        apply List.ext_getElem?
        intro j
        rw [wipe_get, wipe_get]
        by_cases hj : j ∈ vs
        · rw [if_pos hj, if_pos hj]
          cases σ[j]? <;> rfl
        · rw [if_neg hj, if_neg hj]
      · have step : ∀ G3 H3, Fr T δ G' H' G3 H3 → DiceAt δ G3 H3 st' → (if b = true then tD K T δ noE fe σ2 H3 fun y H4 => ∃ acc, H4 D' = some (.lst acc) ∧ acc.length < sizeLine ∧ (i + 1 ≤ items.length ∧ ∃ G st acc_1 vs', Fr T δ G1 H1 G (upd H4 D' (.lst (acc ++ [y]))) ∧ DiceAt δ G (upd H4 D' (.lst (acc ++ [y]))) st ∧ G D' = none ∧ (upd H4 D' (.lst (acc ++ [y]))) D' = some (.lst vs') ∧ RpA G vs' acc_1 ∧ acc_1.length ≤ i + 1 ∧ ∃ zs, lcGo t ft fe (wipeE ev vs) (items.drop (i + 1)) st = .ok zs st2 ∧ acc_1 ++ zs = ys)
            else (i + 1 ≤ items.length ∧ ∃ G st acc vs', Fr T δ G1 H1 G H3 ∧ DiceAt δ G H3 st ∧ G D' = none ∧ H3 D' = some (.lst vs') ∧ RpA G vs' acc ∧ acc.length ≤ i + 1 ∧ ∃ zs, lcGo t ft fe (wipeE ev vs) (items.drop (i + 1)) st = .ok zs st2 ∧ acc ++ zs = ys)) := by
          intro G3 H3 f3 d3
          have gD3 : G3 D' = none := f3.nw D' (by rw [hDl']; exact ⟨_, rfl, fun _ z => by cases z⟩) (by rw [hDl']; intro _ z; cases z) gD'
          have hD3 : H3 D' = some (.lst vs') := f3.kp _ _ hDl' hδD (fun _ z => by cases z)
          have ra3 : RpA G3 vs' acc := (ra.mono f'.gg).mono f3.gg
          rcases e3 with ⟨hb, yv, st3, zs', e4, e5, e6⟩ | ⟨hb, e4⟩
          · rw [hb, if_pos rfl]
            refine ⟨lk, G3, ev', st', r2.fr f3 d3, ?_⟩
            rw [e4]
            intro v G4 H4 f4 d4 x4
            have gD4 : G4 D' = none := f4.nw D' (by rw [hD3]; exact ⟨_, rfl, fun _ z => by cases z⟩) (by rw [hD3]; intro _ z; cases z) gD3
            have hD4 : H4 D' = some (.lst vs') := f4.kp _ _ hD3 hδD (fun _ z => by cases z)
            have fx : Fr T δ G1 H1 G4 (upd H4 D' (.lst (vs' ++ [v]))) := ((fa.tr f3).tr f4).wr (.inl fun z => z.ne hD) gD4 (fun ps z => by rw [hD4] at z; cases z) (fun _ _ z => by rw [hD4] at z; cases z) (fun _ z => by cases z) (fun _ z => by cases z)
            refine ⟨vs', hD4, ?_, hlt, G4, st3, acc ++ [yv], vs' ++ [v], fx, d4.upd hδD, gD4, upd_same, (ra3.mono f4.gg).app (.cons x4 .nil), by rw [List.length_append]; show acc.length + 1 ≤ i + 1; omega, zs', e5, by rw [← hy, e6]; simp⟩
            · have hl := ra.length
              have : vs'.length ≤ lim - 1 := by omega
              rw [sizeLine_eq]; unfold lim at this; omega
          · rw [hb, if_neg Bool.false_ne_true]
            exact ⟨hlt, G3, st', acc, vs', fa.tr f3, d3, gD3, hD3, ra3, Nat.le_succ_of_le hal, zs, e4, hy⟩
        cases ft with
        | none =>
          cases e2
          exact step G' H' (.rf rw_.sub rw_.nt) da
        | some f0 =>
          refine ⟨lk, G', ev', st, r2, ?_⟩
          obtain ⟨sv, st0, e4, e5⟩ := Rs.bind_ok (show (f0 ev' st).bind _ = .ok b st' from e2)
          split at e5
          · cases e5
            rw [e4]
            exact ⟨_, rfl, step⟩
          · cases e5
    · have e : i = items.length := by omega
      subst e
      rw [List.drop_length] at hz
      cases hz
      rw [List.append_nil] at hy
      subst hy
      exact .inl ⟨wk.stop G H f.gg hs (hd.fr po f), done G H vs' f d gD hDl ra (hd.fr po f)⟩
section
variable {X : Cx} {T : Tb} {δ : Dl} {E : XK} {pos : Pos} {tg iter elt : Expr} {ifs : List Expr} {scope : Scope} {own : List (Str × Nat)} {fi : Fi} {t : Tg} {ss : List Nat} {ft : Option F} {fe : F}
theorem lc_read {K : PySem.W.Frag} {vs : List Nat} (hss : ∀ i ∈ ss, i ∈ vs) : ∀ σ H Q, tD K T δ E (fLc fi t ft fe vs) σ H Q → tLc (tI K T δ E fi) (tG T δ t ss) (tTo K T δ ft) (tD K T δ noE fe) vs σ H Q := fun σ H Q ⟨lk, G, ev, st, r, h⟩ => by
  refine ⟨lk, G, ev, st, r, ?_⟩
  unfold fLc at h
  cases q : fi ev st with
  | exc c st1 => rw [q] at h; exact h
  | stuck => rw [q] at h; exact h
  | ok items st1 =>
    rw [q] at h
    intro J G1 H1 f1 d1 wk D hD
    have h1 : EndE K lk T δ E G1 H1 Q (if items.length ≤ lim then (lcGo t ft fe (wipeE ev vs) items st1).bind fun ys st2 => .ok (.dat (.list ys)) st2 else .stuck) := EndE.tr f1 h
    split at h1
    · rename_i hl
      cases q2 : lcGo t ft fe (wipeE ev vs) items st1 with
      | exc c st2 => exact absurd q2 (lcGo_noexc _ _ _ _)
      | stuck => rw [q2] at h1; exact h1.elim
      | ok ys st2 =>
        rw [q2] at h1
        exact lc_turns (K := K) (lk := lk) (Qd := fun H => Q (.ref D) H) hss (r.fr f1 d1) wk (ps := []) (fun _ z => by cases z) (fun _ z => by cases z) hD hl q2 fun G2 H2 vs' f2 d2 g2 hD2 ra _ => h1 (.ref D) (upd G2 D (.lst vs')) H2 (f2.frz (fun z => z.ne hD) g2 hD2 (fun _ z => by cases z)) (d2.gup (sub_upd g2)) (.lst upd_same (ra.mono fun b u e => by
          have : b ≠ D := fun z => by rw [z, g2] at e; cases e
          rw [upd_ne this]; exact e))
    · exact h1.elim
/-- [elt for target in iter if ..] -/
theorem de_lc (hc : X.calm = true) (hN : X.N.Nodup) (hi : DI X T δ E tg iter fi) (ok : BlkOk X.N X.env.scope scope own)
    (hg : ∀ (s : Shared) (H : Hp) (C : Addr) (cl : List (Str × Addr)) (fp : List Addr), DG (X.blk s H scope (compEnvC scope cl C X.env) fp) T δ tg t ss) (ht : ∀ (s : Shared) (H : Hp) (C : Addr) (cl : List (Str × Addr)) (fp : List Addr), DPT (X.blk s H scope (compEnvC scope cl C X.env) fp) T δ ifs ft)
    (he : ∀ (s : Shared) (H : Hp) (C : Addr) (cl : List (Str × Addr)) (fp : List Addr), DE (X.blk s H scope (compEnvC scope cl C X.env) fp) T δ noE elt fe) (hss : ∀ i ∈ ss, i ∈ own.map (·.2) := by decide) (hs : ∀ x, foldedSetIterable iter X.env x = pure x := by intro _; rfl) :
    DE X T δ E (.ListComp elt [⟨tg, iter, ifs, 0⟩] scope pos) (fLc fi t ft fe (own.map (·.2))) :=
  PE.imp (pe_lc (wi := tI X.K T δ E fi) (g := tG T δ t ss) (tt := tTo X.K T δ ft) (te := tD X.K T δ noE fe) hc hN hi ok hg ht he hs) (lc_read hss)
end
end DL

set_option maxHeartbeats 4000000
/-! statements -/
namespace DL
open PySem PySem.Spec PyProof.Rows L2
inductive Fl where
  | nx (ev : Ev)
  | ret (d : D)
abbrev FS := Ev → DSt → Rs Fl
structure RelS (T : Tb) (δ : Dl) (G0 H0 G H : Hp) (σ : L2.St) (ev : Ev) (st : DSt) : Prop extends Rel false T δ G H σ ev st where
  fr : Fr T δ G0 H0 G H
  fo : ∀ (i : Nat) (d : D) (a : Addr), ev[i]? = some (some (.own d)) → σ[i]? = some (some (.ref a)) → ¬ Alv (H0 a)
def EndS (K : PySem.W.Frag) (T : Tb) (δ : Dl) (E : XK) (G0 H0 Gs : Hp) (D' : Ends) : Rs Fl → Prop
  | .ok (.nx ev') st' => ∀ σ' G' H', RelS T δ G0 H0 G' H' σ' ev' st' → Sub Gs G' → D'.nx σ' H'
  | .ok (.ret d) st' => ∀ v G' H', Fr T δ G0 H0 G' H' → DiceAt δ G' H' st' → Rp G' v d → D'.rt v H'
  | .exc c st' => ∀ G' H', Fr T δ G0 H0 G' H' → DiceAt δ G' H' st' → E (c.at K) none H'
  | .stuck => False
theorem EndS.sub {K : PySem.W.Frag} {T : Tb} {δ : Dl} {E : XK} {G0 H0 G G1 : Hp} {D' : Ends} (s : Sub G G1) : ∀ {r : Rs Fl}, EndS K T δ E G0 H0 G D' r → EndS K T δ E G0 H0 G1 D' r
  | .ok (.nx _) _, h => fun σ' G' H' r' s' => h σ' G' H' r' (s.tr s')
  | .ok (.ret _) _, h => h
  | .exc _ _, h => h
  | .stuck, h => h
def tS (K : PySem.W.Frag) (T : Tb) (δ : Dl) (E : XK) (G0 H0 : Hp) (f : FS) : TS := fun D' σ H => ∃ G ev st, RelS T δ G0 H0 G H σ ev st ∧ EndS K T δ E G0 H0 G D' (f ev st)
def DS (X : Cx) (T : Tb) (δ : Dl) (E : XK) (G0 H0 : Hp) (s : Stmt) (f : FS) : Prop := PS X s (tS X.K T δ E G0 H0 f)
def DSs (X : Cx) (T : Tb) (δ : Dl) (E : XK) (G0 H0 : Hp) (s : List Stmt) (f : FS) : Prop := PSs X s (tS X.K T δ E G0 H0 f)
def fNil : FS := fun ev st => .ok (.nx ev) st
def fSeq (f g : FS) : FS := fun ev st => (f ev st).bind fun fl st1 => match fl with
  | .nx ev1 => g ev1 st1
  | .ret d => .ok (.ret d) st1
def fRet (f : F) : FS := fun ev st => (f ev st).bind fun sv st1 => match sv with
  | .dat d => .ok (.ret d) st1
  | _ => .stuck
/-- return x, x an own list, dict -/
def fRetV (i : Nat) : FS := fun ev st => match ev[i]? with
  | some (some (.dat d)) => .ok (.ret d) st
  | some (some (.own d)) => .ok (.ret d) st
  | _ => .stuck
def fDrop (f : F) : FS := fun ev st => (f ev st).bind fun _ st1 => .ok (.nx ev) st1
def fSet (i : Nat) (f : F) : FS := fun ev st => (f ev st).bind fun sv st1 => match sv with
  | .dat d => .ok (.nx (ev.set i (some (.dat d)))) st1
  | _ => .stuck
def fIfS (c : F) (f g : FS) : FS := fun ev st => (c ev st).bind fun sv st1 => match sv with
  | .dat (.bool b) => if b = true then f ev st1 else g ev st1
  | _ => .stuck
def fRaise (c : Exn) : FS := fun _ st => .exc c st
def fAsg (f : F) (t : Tg) : FS := fun ev st => (f ev st).bind fun sv st1 => match sv with
  | .dat d => (match t d ev with | some ev' => .ok (.nx ev') st1 | none => .stuck)
  | _ => .stuck
section
variable {T : Tb} {δ : Dl} {G0 H0 G H : Hp} {σ : L2.St} {ev : Ev} {st : DSt}
theorem RelS.go (r : RelS T δ G0 H0 G H σ ev st) {G1 H1 : Hp} {st1 : DSt} (f : Fr T δ G H G1 H1) (d : DiceAt δ G1 H1 st1) : RelS T δ G0 H0 G1 H1 σ ev st1 :=
  ⟨r.toRel.fr f d, r.fr.tr f, r.fo⟩
/-- from an expression's state back to the statement's -/
theorem RelS.of (r : RelS T δ G0 H0 G H σ ev st) {G1 H1 : Hp} {st1 : DSt} (r1 : Rel false T δ G1 H1 σ ev st1) (f : Fr T δ G0 H0 G1 H1) : RelS T δ G0 H0 G1 H1 σ ev st1 := ⟨r1, f, r.fo⟩
theorem RelS.set (r : RelS T δ G0 H0 G H σ ev st) (i : Nat) {v : V} {d : D} (h : Rp G v d) : RelS T δ G0 H0 G H (σ.set i (some v)) (ev.set i (some (.dat d))) st :=
  ⟨r.toRel.set i h, r.fr, fun j d' a e1 e2 => by
    have h1 : i ≠ j := fun z => by
      subst z
      by_cases hl : i < ev.length
      · rw [List.getElem?_set_self hl] at e1; cases e1
      · rw [List.getElem?_eq_none (by rw [List.length_set]; omega)] at e1; cases e1
    rw [List.getElem?_set_ne h1] at e1 e2
    exact r.fo j d' a e1 e2⟩
/-- an own slot's object changed -/
theorem RelS.wr (r : RelS T δ G0 H0 G H σ ev st) {i : Nat} {d d' : D} {a : Addr} {o : HO} (e1 : ev[i]? = some (some (.own d))) (e2 : σ[i]? = some (some (.ref a))) (g : G a = none) (nd : ¬ δ.has a) (hn : ∀ ps, H a ≠ some (.tbl ps)) (hx : ∀ c q, H a ≠ some (LamX.CodeO c q)) (no : ∀ xs, o ≠ .tup xs) (no2 : ∀ ps, o ≠ .tbl ps)
    (ok : OwnOk false G (upd H a o) a d') : RelS T δ G0 H0 G (upd H a o) σ (ev.set i (some (.own d'))) st := by
  have h0 := r.fo i d a e1 e2
  have f : Fr T δ G0 H0 G (upd H a o) := r.fr.wr (.inl h0) g hn hx no no2
  have hi : i < ev.length := (List.getElem?_eq_some_iff.mp e1).1
  have own_of : ∀ {j : Nat} {dj : D}, (ev.set i (some (.own d')))[j]? = some (some (.own dj)) → ∃ dk, ev[j]? = some (some (.own dk)) := fun {j dj} e => by
    by_cases hj : i = j
    · subst hj; exact ⟨d, e1⟩
    · rw [List.getElem?_set_ne hj] at e; exact ⟨dj, e⟩
  refine ⟨⟨⟨f.gh, r.nt, r.dg, r.di.upd nd, ?_⟩, by rw [List.length_set]; exact r.len, fun j sv e => ?_, fun j k d1 d2 b e3 e4 e5 e6 => ?_⟩, f, fun j dj b e3 e4 => ?_⟩
  · intro q hq
    obtain ⟨ps, h1, h2, h3⟩ := r.tb q hq
    have hq1 : q.1 ≠ a := fun z => hn ps (by rw [← z]; exact h1)
    refine ⟨ps, by rw [upd_ne hq1]; exact h1, h2, fun pos cv hc => ?_⟩
    obtain ⟨c, e5, e6⟩ := h3 pos cv hc
    have hcp : c ≠ a := fun z => by rw [z] at e6; exact hx _ _ e6
    exact ⟨c, e5, by rw [upd_ne hcp]; exact e6⟩
  · by_cases hj : i = j
    · subst hj
      rw [List.getElem?_set_self hi] at e
      cases e
      exact ⟨.ref a, e2, a, rfl, g, nd, ok⟩
    · rw [List.getElem?_set_ne hj] at e
      obtain ⟨v, h1, h2⟩ := r.sl j sv e
      refine ⟨v, h1, ?_⟩
      cases sv with
      | dat d => exact h2
      | own d2 =>
        obtain ⟨b, eb, gb, nb, ob⟩ := h2
        have hb : b ≠ a := fun z => hj (r.ds i j d d2 a e1 e e2 (by rw [h1, eb, z]))
        refine ⟨b, eb, gb, nb, ?_⟩
        cases d2 with
        | list ds => obtain ⟨vs, q1, q2⟩ := ob; exact ⟨vs, by rw [upd_ne hb]; exact q1, q2⟩
        | dict ds =>
          obtain ⟨vs, q1, q2⟩ := ob
          refine ⟨vs, ?_, q2⟩
          rcases q1 with q1 | ⟨q0, _⟩
          · exact .inl (by rw [upd_ne hb]; exact q1)
          · cases q0
        | _ => exact ob.elim
      | dice => exact h2
      | bench => exact h2
      | exc _ => exact h2
  · obtain ⟨dk1, q1⟩ := own_of e3
    obtain ⟨dk2, q2⟩ := own_of e4
    exact r.ds j k dk1 dk2 b q1 q2 e5 e6
  · obtain ⟨dk1, q1⟩ := own_of e3
    exact r.fo j dk1 b q1 e4
/-- a slot takes a new own object -/
theorem RelS.own (r : RelS T δ G0 H0 G H σ ev st) (i : Nat) {d : D} {a : Addr} (h0 : ¬ Alv (H0 a)) (g : G a = none) (nd : ¬ δ.has a) (ok : OwnOk false G H a d) (nw : ∀ (j : Nat) (d : D), ev[j]? = some (some (.own d)) → σ[j]? ≠ some (some (.ref a))) :
    RelS T δ G0 H0 G H (σ.set i (some (.ref a))) (ev.set i (some (.own d))) st := by
  have key : ∀ {j : Nat} {dj : D} {b : Addr}, (ev.set i (some (.own d)))[j]? = some (some (.own dj)) → (σ.set i (some (.ref a)))[j]? = some (some (.ref b)) → (i = j ∧ b = a) ∨ (i ≠ j ∧ ev[j]? = some (some (.own dj)) ∧ σ[j]? = some (some (.ref b))) := fun {j dj b} e1 e2 => by
    by_cases hj : i = j
    · subst hj
      by_cases hl : i < ev.length
      · rw [List.getElem?_set_self (by rw [← r.len]; exact hl)] at e2
        cases e2
        exact .inl ⟨rfl, rfl⟩
      · rw [List.getElem?_eq_none (by rw [List.length_set]; omega)] at e1; cases e1
    · rw [List.getElem?_set_ne hj] at e1 e2
      exact .inr ⟨hj, e1, e2⟩
  refine ⟨⟨r.toGd, by rw [List.length_set, List.length_set]; exact r.len, fun j sv e => ?_, fun j k d1 d2 b e1 e2 e3 e4 => ?_⟩, r.fr, fun j dj b e1 e2 => ?_⟩
  · by_cases hj : i = j
    · subst hj
      by_cases hl : i < ev.length
      · rw [List.getElem?_set_self hl] at e
        cases e
        exact ⟨.ref a, List.getElem?_set_self (by rw [← r.len]; exact hl), a, rfl, g, nd, ok⟩
      · rw [List.getElem?_eq_none (by rw [List.length_set]; omega)] at e; cases e
    · rw [List.getElem?_set_ne hj] at e ⊢
      exact r.sl j sv e
  · rcases key e1 e3 with ⟨h1, h2⟩ | ⟨h1, h2, h3⟩
    · rcases key e2 e4 with ⟨h4, h5⟩ | ⟨h4, h5, h6⟩
      · exact h1.symm.trans h4
      · exact absurd (by rw [h6, h2]) (nw k d2 h5)
    · rcases key e2 e4 with ⟨h4, h5⟩ | ⟨h4, h5, h6⟩
      · exact absurd (by rw [h3, h5]) (nw j d1 h2)
      · exact r.ds j k d1 d2 b h2 h5 h3 h6
  · rcases key e1 e2 with ⟨h1, h2⟩ | ⟨h1, h2, h3⟩
    · rw [h2]; exact h0
    · exact r.fo j dj b h2 h3
end
section
variable {X : Cx} {T : Tb} {δ : Dl} {E : XK} {G0 H0 : Hp} {s : Stmt} {ss bs : List Stmt} {f g : FS} {e : Expr} {fe : F} {pos : Pos}
theorem PS.nox {X : Cx} {st : Stmt} {t : TS} (h : PS X.nox st t) : PS X st t := ⟨fun pins s σ H D I hw =>
  wpAny_mono (h.run pins s σ H D (I.wish _) hw) (fun _ _ q => q.unwish) fun _ _ z => False.elim z⟩
/-- an expression reckoned at a statement -/
theorem goS {K : PySem.W.Frag} {G H : Hp} {σ : L2.St} {ev : Ev} {st : DSt} {f : F} {k : SV → DSt → Rs Fl} {D' : Ends} {R : VK} (r : RelS T δ G0 H0 G H σ ev st) (h : EndS K T δ E G0 H0 G D' ((f ev st).bind k))
    (hk : ∀ sv st1 v G1 H1, f ev st = .ok sv st1 → RelS T δ G0 H0 G1 H1 σ ev st1 → VOk false δ G1 H1 v sv → Fr T δ G H G1 H1 → EndS K T δ E G0 H0 G1 D' (k sv st1) → R v H1) : tD K T δ E f σ H R := by
  refine ⟨false, G, ev, st, r.toRel, ?_⟩
  cases q : f ev st with
  | ok sv st1 => rw [q] at h; exact fun v G1 H1 f1 d1 x => hk sv st1 v G1 H1 q (r.go f1 d1) x f1 (h.sub f1.gg)
  | exc c st1 => rw [q] at h; exact fun G1 H1 f1 d1 => h G1 H1 (r.fr.tr f1) d1
  | stuck => rw [q] at h; exact h.elim
theorem goST {K : PySem.W.Frag} {G H : Hp} {σ : L2.St} {ev : Ev} {st : DSt} {f : F} {k : Bool → DSt → Rs Fl} {D' : Ends} {R : Bool → Hp → Prop} (r : RelS T δ G0 H0 G H σ ev st)
    (h : EndS K T δ E G0 H0 G D' ((f ev st).bind fun sv st1 => match sv with | .dat (.bool b) => k b st1 | _ => .stuck))
    (hk : ∀ b st1 G1 H1, f ev st = .ok (.dat (.bool b)) st1 → RelS T δ G0 H0 G1 H1 σ ev st1 → EndS K T δ E G0 H0 G1 D' (k b st1) → R b H1) : tT K T δ E f σ H R := by
  refine ⟨false, G, ev, st, r.toRel, ?_⟩
  cases q : f ev st with
  | ok sv st1 =>
    rw [q] at h
    cases sv with
    | dat d =>
      cases d with
      | bool b => exact ⟨b, rfl, fun G1 H1 f1 d1 => hk b st1 G1 H1 q (r.go f1 d1) (EndS.sub f1.gg h)⟩
      | _ => exact h.elim
    | _ => exact h.elim
  | exc c st1 => rw [q] at h; exact fun G1 H1 f1 d1 => h G1 H1 (r.fr.tr f1) d1
  | stuck => rw [q] at h; exact h.elim
theorem dss_nil : DSs X T δ E G0 H0 [] fNil := PSs.imp pss_nil fun D σ H ⟨G, ev, st, r, h⟩ => h σ G H r (Sub.rf _)
theorem dss_cons (h1 : DS X T δ E G0 H0 s f) (h2 : DSs X T δ E G0 H0 ss g) : DSs X T δ E G0 H0 (s :: ss) (fSeq f g) :=
  PSs.imp (pss_cons h1 h2) fun D σ H ⟨G, ev, st, r, h⟩ => by
    refine ⟨G, ev, st, r, ?_⟩
    unfold fSeq at h
    cases q : f ev st with
    | ok fl st1 =>
      rw [q] at h
      cases fl with
      | nx ev1 => exact fun σ' G' H' r' s' => ⟨G', ev1, st1, r', EndS.sub s' h⟩
      | ret d => exact h
    | exc c st1 => rw [q] at h; exact h
    | stuck => rw [q] at h; exact h.elim
theorem dss_one (h1 : DS X T δ E G0 H0 s f) : DSs X T δ E G0 H0 [s] f := pss_one h1
theorem ds_expr (he : DE X T δ E e fe) (hs : swapsWith e none pos.line X.env = pure false := by rfl) : DS X T δ E G0 H0 (.Expr e pos) (fDrop fe) :=
  PS.imp (ps_expr he hs) fun D σ H ⟨G, ev, st, r, h⟩ => goS r h fun sv st1 v G1 H1 e1 r1 x1 f1 h1 => h1 σ G1 H1 r1 (Sub.rf _)
theorem ds_ret (he : DE X T δ E e fe) : DS X T δ E G0 H0 (.Return (some e) pos) (fRet fe) :=
  PS.imp (ps_ret he) fun D σ H ⟨G, ev, st, r, h⟩ => by
    refine goS r h fun sv st1 v G1 H1 e1 r1 x1 f1 h1 => ?_
    cases sv with
    | dat d => exact h1 v G1 H1 r1.fr r1.di x1
    | own d => exact h1.elim
    | dice => exact h1.elim
    | bench => exact h1.elim
    | exc _ => exact h1.elim
theorem RelS.ret {G H : Hp} {σ : L2.St} {ev : Ev} {st : DSt} (r : RelS T δ G0 H0 G H σ ev st) {i : Nat} {d : D} (e : ev[i]? = some (some (.own d))) : ∃ v G', σ[i]? = some (some v) ∧ Fr T δ G0 H0 G' H ∧ Rp G' v d ∧ Sub G G' := by
  obtain ⟨v, e1, a, rfl, g, nd, ok⟩ := r.sl i _ e
  have h0 := r.fo i d a e e1
  have up : ∀ {o : HO}, Sub G (upd G a o) := fun {o} b u e => by
    have : b ≠ a := fun z => by rw [z, g] at e; cases e
    rw [upd_ne this]; exact e
  cases d with
  | list ds =>
    obtain ⟨vs, h1, h2⟩ := ok
    exact ⟨_, upd G a (.lst vs), e1, r.fr.frz h0 g h1 (fun _ z => by cases z), .lst upd_same (h2.mono up), up⟩
  | dict kvs =>
    obtain ⟨u, h1 | ⟨h1, _⟩, h2⟩ := ok
    · refine ⟨_, upd G a u, e1, r.fr.frz h0 g h1 (fun ps => h2.ntb ps), ?_, up⟩
      rcases h2 with ⟨ks, e, h2⟩ | ⟨ks, e, n, h2⟩
      · subst e; exact .dct upd_same (h2.mono up)
      · subst e; exact .dcn upd_same n (h2.mono up)
    · cases h1
  | _ => exact ok.elim
theorem ds_retV (i : Nat) {x : Str} {p : Pos} (hN : X.N[i]? = some x := by rfl) (hv : Vis X.env.scope x := by first | exact Or.inl rfl | exact Or.inr (Or.inl rfl) | exact Or.inr (Or.inr rfl)) (hd : (x == ("__debug__" : Str)) = false := by decide)
    (hcd : (x == ("__classdict__" : Str)) = false := by decide) : DS X T δ E G0 H0 (.Return (some (.Name x p)) pos) (fRetV i) :=
  PS.imp (ps_ret (pe_var hN hv hd hcd)) fun D' σ H ⟨G, ev, st, r, h⟩ => by
    unfold fRetV at h
    split at h
    · rename_i d e
      obtain ⟨v, e1, x1⟩ := r.sl i _ e
      exact ⟨v, e1, h v G H r.fr r.di x1⟩
    · rename_i d e
      obtain ⟨v, G', e1, f, rp, sg⟩ := r.ret e
      exact ⟨v, e1, h v G' H f (r.di.gup sg) rp⟩
    · exact h.elim
theorem ds_if {c : Expr} {fc : F} {a b : List Stmt} (hc : DT X T δ E c fc) (ha : DSs X T δ E G0 H0 a f) (hb : DSs X T δ E G0 H0 b g) : DS X T δ E G0 H0 (.If c a b pos) (fIfS fc f g) :=
  PS.imp (ps_if hc ha hb) fun D σ H ⟨G, ev, st, r, h⟩ => goST r h fun b st1 G1 H1 e1 r1 h1 => by
    cases b with
    | true => exact ⟨G1, ev, st1, r1, h1⟩
    | false => exact ⟨G1, ev, st1, r1, h1⟩
theorem ds_set (i : Nat) {x : Str} {pos' : Pos} (hN : X.N.Nodup) (hi : X.N[i]? = some x := by rfl) (hx : Loc X.env.scope x := by first | exact Or.inl rfl | exact Or.inr rfl) (he : DE X T δ E e fe) (hs : swapsWith e (some (.Name x pos')) pos.line X.env = pure false := by rfl) (hf : X.fn x = true ∨ X.env.scope.names.lookup x = some .local := by first | exact .inl rfl | exact .inr rfl | assumption) :
    DS X T δ E G0 H0 (.Assign [.Name x pos'] e pos) (fSet i fe) :=
  PS.imp (ps_set hN hi hx he hs hf) fun D σ H ⟨G, ev, st, r, h⟩ => goS r h fun sv st1 v G1 H1 e1 r1 x1 f1 h1 => by
    cases sv with
    | dat d => exact h1 _ G1 H1 (r1.set i x1) (Sub.rf _)
    | own d => exact h1.elim
    | dice => exact h1.elim
    | bench => exact h1.elim
    | exc _ => exact h1.elim
/-- a target stores data alone, at the places sl -/
def TgOk (t : Tg) (sl : List Nat) : Prop := ∀ d ev ev', t d ev = some ev' → ∀ (i : Nat) (dd : D), ev'[i]? = some (some (.own dd)) → ev[i]? = some (some (.own dd)) ∧ i ∉ sl
def TgsOk (t : Tgs) (sl : List Nat) : Prop := ∀ ds ev ev', t ds ev = some ev' → ∀ (i : Nat) (dd : D), ev'[i]? = some (some (.own dd)) → ev[i]? = some (some (.own dd)) ∧ i ∉ sl
theorem tgOk_n (i : Nat) : TgOk (gN i) [i] := fun d ev ev' e j dd e1 => by
  cases e
  have h1 : i ≠ j := fun z => by
    subst z
    by_cases hl : i < ev.length
    · rw [List.getElem?_set_self hl] at e1; cases e1
    · rw [List.getElem?_eq_none (by rw [List.length_set]; omega)] at e1; cases e1
  rw [List.getElem?_set_ne h1] at e1
  exact ⟨e1, fun z => h1 (List.mem_singleton.mp z).symm⟩
theorem tgsOk_nil : TgsOk gNs [] := fun ds ev ev' e j dd e1 => by
  unfold gNs at e
  split at e
  · cases e; exact ⟨e1, fun z => by cases z⟩
  · cases e
theorem tgsOk_cons {t : Tg} {ts : Tgs} {sl sl' : List Nat} (h : TgOk t sl) (h' : TgsOk ts sl') : TgsOk (gCs t ts) (sl ++ sl') := fun ds ev ev' e j dd e1 => by
  unfold gCs at e
  split at e
  · obtain ⟨ev1, q1, q2⟩ := Option.bind_eq_some_iff.mp e
    obtain ⟨a1, a2⟩ := h' _ _ _ q2 j dd e1
    obtain ⟨b1, b2⟩ := h _ _ _ q1 j dd a1
    exact ⟨b1, fun z => (List.mem_append.mp z).elim b2 a2⟩
  · cases e
theorem tgOk_tp {n : Nat} {ts : Tgs} {sl : List Nat} (h : TgsOk ts sl) : TgOk (gTp n ts) sl := fun d ev ev' e j dd e1 => by
  unfold gTp at e
  split at e
  · split at e
    · exact h _ _ _ e j dd e1
    · cases e
  · split at e
    · exact h _ _ _ e j dd e1
    · cases e
  · cases e
theorem RelS.tg {G H : Hp} {σ σ' : L2.St} {ev ev' : Ev} {st : DSt} {t : Tg} {sl : List Nat} {d : D} (r : RelS T δ G0 H0 G H σ ev st) (ht : TgOk t sl) (e : t d ev = some ev') (o : Off sl σ σ') (r' : Rel false T δ G H σ' ev' st) : RelS T δ G0 H0 G H σ' ev' st :=
  ⟨r', r.fr, fun i dd a e1 e2 => by
    obtain ⟨h1, h2⟩ := ht _ _ _ e i dd e1
    exact r.fo i dd a h1 (by rw [← o.2 i h2]; exact e2)⟩
theorem ds_asg {tg : Expr} {t : Tg} {sl : List Nat} (he : DE X T δ E e fe) (hg : DG X T δ tg t sl) (ht : TgOk t sl) (hs : swapsWithSole [tg] e pos.line X.env = pure false := by rfl) (hw : swappedStores [tg] e X.env = pure none := by rfl)
    (h1 : (assignEach [tg] X.env).map (·.2) = [assign tg X.env] := by rfl) : DS X T δ E G0 H0 (.Assign [tg] e pos) (fAsg fe t) :=
  PS.imp (ps_asg he hg hs hw h1) fun D' σ H ⟨G, ev, st, r, h⟩ => goS r h fun sv st1 v G1 H1 e1 r1 x1 f1 h1 => by
    cases sv with
    | dat d =>
      simp only at h1
      split at h1
      · rename_i ev' e2
        exact ⟨false, G1, ev, st1, d, ev', r1.toRel, x1, e2, fun σ' r' o => h1 σ' G1 H1 (r1.tg ht e2 o r') (Sub.rf _)⟩
      · exact h1.elim
    | own d => exact h1.elim
    | dice => exact h1.elim
    | bench => exact h1.elim
    | exc _ => exact h1.elim
/-! ### loops -/
def forGo (t : Tg) (body : FS) : List D → Ev → DSt → Rs Fl
  | [], ev, st => .ok (.nx ev) st
  | d :: r, ev, st => match t d ev with
    | none => .stuck
    | some ev1 => (body ev1 st).nx.bind fun fl st1 => match fl with
      | .nx ev2 => forGo t body r ev2 st1
      | .ret x => .ok (.ret x) st1
def fFor (fi : Fi) (t : Tg) (body : FS) : FS := fun ev st => (fi ev st).nx.bind fun items st1 => forGo t body items ev st1
theorem ds_for {tg iter : Expr} {body : List Stmt} {fi : Fi} {t : Tg} {sl : List Nat} (hc : X.calm = true) (hi : DI X.nox T δ noE tg iter fi) (hg : DG X.nox T δ tg t sl) (ht : TgOk t sl) (hb : DSs X.nox T δ noE G0 H0 body f)
    (hs : ∀ x, foldedSetIterable iter X.env x = pure x := by intro _; rfl) : DS X T δ E G0 H0 (.For tg iter body [] pos) (fFor fi t f) :=
  PS.nox (PS.imp (ps_for (X := X.nox) PassesOwn.never hc hi hg hb hs) fun D' σ H ⟨G, ev, st, r, h⟩ => by
    unfold fFor at h
    refine ⟨false, G, ev, st, r.toRel, ?_⟩
    cases q : fi ev st with
    | exc c st1 => rw [q] at h; exact h.elim
    | stuck => rw [q] at h; exact h.elim
    | ok items st1 =>
      rw [q] at h
      have h : EndS X.K T δ E G0 H0 G D' (forGo t f items ev st1) := h
      intro J G1 H1 f1 d1 wk
      have r1 := r.go f1 d1
      refine ⟨fun i m σ' H' => m = items.length - i ∧ i ≤ items.length ∧ ∃ G' ev' st', RelS T δ G0 H0 G' H' σ' ev' st' ∧ Sub G1 G' ∧ EndS X.K T δ E G0 H0 G' D' (forGo t f (items.drop i) ev' st'), ⟨items.length, by simp, Nat.zero_le _, G1, ev, st1, r1, Sub.rf _, EndS.sub f1.gg h⟩, ?_⟩
      rintro i m σ' H' ⟨rfl, hi, G', ev', st', r', s1, h'⟩
      by_cases hlt : i < items.length
      · have hit : items[i]? = some items[i] := List.getElem?_eq_getElem hlt
        obtain ⟨hgo, hyl⟩ := wk.go i G' H' items[i] hit s1 r'.sub r'.nt (fun _ z => by cases z)
        refine .inr ⟨hgo, fun σ' H' => i + 1 ≤ items.length ∧ ∃ G' ev' st', RelS T δ G0 H0 G' H' σ' ev' st' ∧ Sub G1 G' ∧ EndS X.K T δ E G0 H0 G' D' (forGo t f (items.drop (i + 1)) ev' st'), fun σ2 H2 n => ⟨items.length - (i + 1), by omega, rfl, n.1, n.2⟩, fun x H2 y => ?_⟩
        obtain ⟨G2, f2, rp⟩ := hyl x H2 y
        rw [List.drop_eq_getElem_cons hlt] at h'
        unfold forGo at h'
        split at h'
        · exact h'.elim
        · rename_i ev1 e1
          have r2 := r'.go f2.any (r'.di.fr f2)
          refine ⟨false, G2, ev', st', items[i], ev1, r2.toRel, rp, e1, fun σ3 r3 o3 => ?_⟩
          have r3' := r2.tg ht e1 o3 r3
          refine ⟨G2, ev1, st', r3', ?_⟩
          cases q2 : f ev1 st' with
          | exc c st2 => rw [q2] at h'; exact h'.elim
          | stuck => rw [q2] at h'; exact h'.elim
          | ok fl st2 =>
            rw [q2] at h'
            cases fl with
            | nx ev2 => exact fun σ4 G4 H4 r4 s4 => ⟨hlt, G4, ev2, st2, r4, (s1.tr f2.gg).tr s4, EndS.sub (f2.gg.tr s4) h'⟩
            | ret d => exact h'
      · have e : i = items.length := by omega
        subst e
        rw [List.drop_length] at h'
        exact .inl ⟨wk.stop G' H' s1 r'.sub (fun _ z => by cases z), h' σ' G' H' r' (Sub.rf _)⟩)
def whileGo (c : F) (body : FS) : Nat → Ev → DSt → Rs Fl
  | 0, _, _ => .stuck
  | n + 1, ev, st => (c ev st).nx.bind fun sv st1 => match sv with
    | .dat (.bool b) => if b = true then (body ev st1).nx.bind fun fl st2 => match fl with
        | .nx ev2 => whileGo c body n ev2 st2
        | .ret x => .ok (.ret x) st2
      else .ok (.nx ev) st1
    | _ => .stuck
theorem ds_while {c : Expr} {fc : F} {body : List Stmt} (n : Nat) (hc : DT X.nox T δ noE c fc) (hb : DSs X.nox T δ noE G0 H0 body f) : DS X T δ E G0 H0 (.While c body [] pos) (whileGo fc f n) :=
  PS.nox (PS.imp (ps_while (X := X.nox) PassesOwn.never hc hb) fun D' σ H ⟨G, ev, st, r, h⟩ => by
    refine ⟨fun m σ' H' => ∃ G' ev' st', RelS T δ G0 H0 G' H' σ' ev' st' ∧ EndS X.K T δ E G0 H0 G' D' (whileGo fc f m ev' st'), ⟨n, G, ev, st, r, h⟩, ?_⟩
    rintro m σ1 H1 ⟨G1, ev1, st1, r1, h1⟩
    cases m with
    | zero => exact h1.elim
    | succ m =>
      unfold whileGo at h1
      refine ⟨false, G1, ev1, st1, r1.toRel, ?_⟩
      cases q : fc ev1 st1 with
      | exc c st2 => rw [q] at h1; exact h1.elim
      | stuck => rw [q] at h1; exact h1.elim
      | ok sv st2 =>
        rw [q] at h1
        cases sv with
        | dat d =>
          cases d with
          | bool b =>
            refine ⟨b, rfl, fun G2 H2 f2 d2 => ?_⟩
            have r2 := r1.go f2 d2
            have h1 : EndS X.K T δ E G0 H0 G1 D' (if b = true then (f ev1 st2).nx.bind fun fl st2 => match fl with
              | .nx ev2 => whileGo fc f m ev2 st2
              | .ret x => .ok (.ret x) st2
              else .ok (.nx ev1) st2) := h1
            cases b with
            | false => exact h1 _ G2 H2 r2 f2.gg
            | true =>
              rw [if_pos rfl] at h1
              refine iteT ⟨fun σ' H' => ∃ G' ev' st', RelS T δ G0 H0 G' H' σ' ev' st' ∧ EndS X.K T δ E G0 H0 G' D' (whileGo fc f m ev' st'), fun σ' H' z => ⟨m, Nat.lt_succ_self m, z⟩, G2, ev1, st2, r2, ?_⟩
              cases q2 : f ev1 st2 with
              | exc c st3 => rw [q2] at h1; exact h1.elim
              | stuck => rw [q2] at h1; exact h1.elim
              | ok fl st3 =>
                rw [q2] at h1
                cases fl with
                | nx ev2 => exact fun σ4 G4 H4 r4 s4 => ⟨G4, ev2, st3, r4, EndS.sub (f2.gg.tr s4) h1⟩
                | ret d => exact h1
          | _ => exact h1.elim
        | _ => exact h1.elim)
end
end DL

set_option maxHeartbeats 4000000
/-! statements that write; defs -/
namespace DL
open PySem PySem.Spec PyProof.Rows L2
/-! ### several names at once; new own objects -/
inductive AVl where
  | dat (d : D)
  | newD
  | newL
def AVl.sv : AVl → SV
  | .dat d => .dat d
  | .newD => .own (.dict [])
  | .newL => .own (.list [])
inductive AllN (δ : Dl) (G H Hs : Hp) : List V → List AVl → List Addr → Prop
  | nil : AllN δ G H Hs [] [] []
  | dat {v : V} {d : D} {vs : List V} {avs : List AVl} {as : List Addr} : Rp G v d → AllN δ G H Hs vs avs as → AllN δ G H Hs (v :: vs) (.dat d :: avs) as
  | newD {a : Addr} {vs : List V} {avs : List AVl} {as : List Addr} : ¬ Alv (Hs a) → ¬ δ.has a → G a = none → H a = some (.dT []) → a ∉ as → AllN δ G H Hs vs avs as → AllN δ G H Hs (.ref a :: vs) (.newD :: avs) (a :: as)
  | newL {a : Addr} {vs : List V} {avs : List AVl} {as : List Addr} : ¬ Alv (Hs a) → ¬ δ.has a → G a = none → H a = some (.lst []) → a ∉ as → AllN δ G H Hs vs avs as → AllN δ G H Hs (.ref a :: vs) (.newL :: avs) (a :: as)
abbrev Fn' := Ev → DSt → Rs (List AVl)
def EndN (K : PySem.W.Frag) (T : Tb) (δ : Dl) (E : XK) (G H : Hp) (Q : List V → Hp → Prop) : Rs (List AVl) → Prop
  | .ok avs st' => ∀ vs as G' H', Fr T δ G H G' H' → DiceAt δ G' H' st' → AllN δ G' H' H vs avs as → Q vs H'
  | .exc c st' => ∀ G' H', Fr T δ G H G' H' → DiceAt δ G' H' st' → E (c.at K) none H'
  | .stuck => False
def tN (K : PySem.W.Frag) (T : Tb) (δ : Dl) (E : XK) (f : Fn') : TA := fun σ H Q => ∃ lk G ev st, Rel lk T δ G H σ ev st ∧ EndN K T δ E G H Q (f ev st)
def DN (X : Cx) (T : Tb) (δ : Dl) (E : XK) (es : List Expr) (f : Fn') : Prop := PA X es (tN X.K T δ E f)
theorem AllN.lower {δ : Dl} {G H Hs Hs' : Hp} (h : ∀ a, ¬ Alv (Hs a) → ¬ Alv (Hs' a)) : ∀ {vs : List V} {avs : List AVl} {as : List Addr}, AllN δ G H Hs vs avs as → AllN δ G H Hs' vs avs as
  | _, _, _, .nil => .nil
  | _, _, _, .dat r q => .dat r (q.lower h)
  | _, _, _, .newD a b c d e q => .newD (h _ a) b c d e (q.lower h)
  | _, _, _, .newL a b c d e q => .newL (h _ a) b c d e (q.lower h)
theorem AllN.fresh {δ : Dl} {G H Hs : Hp} : ∀ {vs : List V} {avs : List AVl} {as : List Addr}, AllN δ G H Hs vs avs as → ∀ a ∈ as, ¬ Alv (Hs a)
  | _, _, _, .nil, a, h => by cases h
  | _, _, _, .dat r q, a, h => q.fresh a h
  | _, _, _, .newD e _ _ _ _ q, a, h => (List.mem_cons.mp h).elim (fun z => by rw [z]; exact e) (q.fresh a)
  | _, _, _, .newL e _ _ _ _ q, a, h => (List.mem_cons.mp h).elim (fun z => by rw [z]; exact e) (q.fresh a)
def fNN : Fn' := fun _ st => .ok [] st
def fNK (f : F) (fs : Fn') : Fn' := fun ev st => (f ev st).bind fun sv st1 => match sv with
  | .dat d => (fs ev st1).bind fun avs st2 => .ok (.dat d :: avs) st2
  | _ => .stuck
def fND (fs : Fn') : Fn' := fun ev st => (fs ev st).bind fun avs st2 => .ok (.newD :: avs) st2
def fNL (fs : Fn') : Fn' := fun ev st => (fs ev st).bind fun avs st2 => .ok (.newL :: avs) st2
theorem goN {K : PySem.W.Frag} {lk : Bool} {T : Tb} {δ : Dl} {E : XK} {G H : Hp} {σ : L2.St} {ev : Ev} {st : DSt} {f : Fn'} {k : List AVl → DSt → Rs (List AVl)} {R : List V → Hp → Prop} (r : Rel lk T δ G H σ ev st)
    (hx : ∀ c st', ((f ev st).bind k = .exc c st') → ∀ G' H', Fr T δ G H G' H' → DiceAt δ G' H' st' → E (c.at K) none H') (hs : (f ev st).bind k ≠ .stuck)
    (hk : ∀ avs st1 vs as G1 H1, f ev st = .ok avs st1 → Fr T δ G H G1 H1 → DiceAt δ G1 H1 st1 → AllN δ G1 H1 H vs avs as → R vs H1) : tN K T δ E f σ H R := by
  refine ⟨lk, G, ev, st, r, ?_⟩
  cases q : f ev st with
  | ok avs st1 => exact fun vs as G1 H1 f1 d1 x => hk avs st1 vs as G1 H1 q f1 d1 x
  | exc c st1 => exact hx c st1 (by rw [q]; rfl)
  | stuck => exact absurd (by rw [q]; rfl) hs
theorem EndN.parts {K : PySem.W.Frag} {T : Tb} {δ : Dl} {E : XK} {G H : Hp} {Q : List V → Hp → Prop} {r : Rs (List AVl)} (h : EndN K T δ E G H Q r) :
    (∀ c st', r = .exc c st' → ∀ G' H', Fr T δ G H G' H' → DiceAt δ G' H' st' → E (c.at K) none H') ∧ r ≠ .stuck := by
  constructor
  · intro c st' e; subst e; exact h
  · intro e; subst e; exact h
theorem EndN.tr {K : PySem.W.Frag} {T : Tb} {δ : Dl} {E : XK} {G H G1 H1 : Hp} {Q : List V → Hp → Prop} (f : Fr T δ G H G1 H1) (un : ∀ a, ¬ Alv (H1 a) → ¬ Alv (H a)) : ∀ {r : Rs (List AVl)}, EndN K T δ E G H Q r → EndN K T δ E G1 H1 Q r
  | .ok _ _, h => fun vs as G' H' f' d x => h vs as G' H' (f.tr f') d (x.lower un)
  | .exc _ _, h => fun G' H' f' d => h G' H' (f.tr f') d
  | .stuck, h => h
theorem Fr.un' {T : Tb} {δ : Dl} {G H G1 H1 : Hp} (f : Fr T δ G H G1 H1) : ∀ a, ¬ Alv (H1 a) → ¬ Alv (H a) := fun a h z => h (f.un a z)
section
variable {X : Cx} {T : Tb} {δ : Dl} {E : XK} {G0 H0 : Hp} {e : Expr} {es : List Expr} {fe : F} {fs : Fn'} {pos : Pos}
theorem dn_nil : DN X T δ E [] fNN := PA.imp pa_nil fun σ H Q ⟨lk, G, ev, st, r, h⟩ => h [] [] G H (.rf r.sub r.nt) r.di .nil
instance {K : PySem.W.Frag} {T : Tb} {δ : Dl} {E : XK} {Q : List V → Hp → Prop} : EndK K T δ E (fun G H r => EndN K T δ E G H Q r) := ⟨fun h => h, fun h => h, fun f h => h.tr f f.un'⟩
theorem dn_dat (he : DE X T δ E e fe) (hr : DN X T δ E es fs) (hs : starEach (e :: es) X.env = (false, eval e X.env) :: starEach es X.env := by rfl) : DN X T δ E (e :: es) (fNK fe fs) :=
  PA.imp (pa_cons he hr hs) fun σ H Q ⟨lk, G, ev, st, r, h⟩ => goE (e := fun G H r => EndN X.K T δ E G H Q r) r h fun sv st1 v G1 H1 e1 f1 r1 x1 h1 => by
    cases sv with
    | dat d =>
      obtain ⟨p1, p2⟩ := EndN.parts h1
      refine goN r1 p1 p2 fun avs st2 vs as G2 H2 e2 f2 d2 x2 => ?_
      have h1 : EndN X.K T δ E G1 H1 Q ((fs ev st1).bind fun avs st2 => .ok (.dat d :: avs) st2) := h1
      rw [e2] at h1
      exact h1 (v :: vs) as G2 H2 f2 d2 (.dat (Rp.mono f2.gg x1) x2)
    | own d => exact h1.elim
    | dice => exact h1.elim
    | bench => exact h1.elim
    | exc _ => exact h1.elim
theorem dn_newD {p : Pos} (hr : DN X T δ E es fs) (hs : starEach (Expr.Dict [] [] p :: es) X.env = (false, eval (.Dict [] [] p) X.env) :: starEach es X.env := by rfl) : DN X T δ E (.Dict [] [] p :: es) (fND fs) :=
  PA.imp (pa_cons pe_dnewT hr hs) fun σ H Q ⟨lk, G, ev, st, r, h⟩ => fun a ha => by
    have f1 : Fr T δ G H G (upd H a (.dT [])) := .newH r.sub r.nt ha
    have nd : ¬ δ.has a := fun z => (r.di.alv z).1.ne ha
    have g0 : G a = none := by
      cases q : G a with
      | none => rfl
      | some z => rw [r.sub _ _ q] at ha; cases ha
    have r1 : Rel lk T δ G (upd H a (.dT [])) σ ev st := r.fr f1 (f1.kpD r.di nd)
    have h0 := h
    have h := EndN.tr f1 f1.un' h
    obtain ⟨p1, p2⟩ := EndN.parts h
    refine goN r1 p1 p2 fun avs st2 vs as G2 H2 e2 f2 d2 x2 => ?_
    have h2 : EndN X.K T δ E G H Q ((fs ev st).bind fun avs st2 => .ok (.newD :: avs) st2) := h0
    rw [e2] at h2
    have hH : (upd H a (.dT [])) a = some (.dT []) := upd_same
    refine h2 (.ref a :: vs) (a :: as) G2 H2 (f1.tr f2) d2 (.newD (fun z => z.ne ha) nd (f2.nw a (by rw [hH]; exact ⟨_, rfl, fun _ z => by cases z⟩) (by rw [hH]; intro _ z; cases z) g0) (f2.kp _ _ hH nd (fun _ z => by cases z)) (fun z => ?_) (x2.lower f1.un'))
    exact x2.fresh a z (by rw [hH]; exact ⟨_, rfl, fun _ z => by cases z⟩)
theorem dn_newL {p : Pos} (hr : DN X T δ E es fs) (hs : starEach (Expr.List [] p :: es) X.env = (false, eval (.List [] p) X.env) :: starEach es X.env := by rfl) : DN X T δ E (.List [] p :: es) (fNL fs) :=
  PA.imp (pa_cons (pe_lst pa_nil) hr hs) fun σ H Q ⟨lk, G, ev, st, r, h⟩ => ⟨by simp, fun a ha => by
    have f1 : Fr T δ G H G (upd H a (.lst [])) := .newH r.sub r.nt ha
    have nd : ¬ δ.has a := fun z => (r.di.alv z).1.ne ha
    have g0 : G a = none := by
      cases q : G a with
      | none => rfl
      | some z => rw [r.sub _ _ q] at ha; cases ha
    have r1 : Rel lk T δ G (upd H a (.lst [])) σ ev st := r.fr f1 (f1.kpD r.di nd)
    have h0 := h
    have h := EndN.tr f1 f1.un' h
    obtain ⟨p1, p2⟩ := EndN.parts h
    refine goN r1 p1 p2 fun avs st2 vs as G2 H2 e2 f2 d2 x2 => ?_
    have h2 : EndN X.K T δ E G H Q ((fs ev st).bind fun avs st2 => .ok (.newL :: avs) st2) := h0
    rw [e2] at h2
    have hH : (upd H a (.lst [])) a = some (.lst []) := upd_same
    refine h2 (.ref a :: vs) (a :: as) G2 H2 (f1.tr f2) d2 (.newL (fun z => z.ne ha) nd (f2.nw a (by rw [hH]; exact ⟨_, rfl, fun _ z => by cases z⟩) (by rw [hH]; intro _ z; cases z) g0) (f2.kp _ _ hH nd (fun _ z => by cases z)) (fun z => ?_) (x2.lower f1.un'))
    exact x2.fresh a z (by rw [hH]; exact ⟨_, rfl, fun _ z => by cases z⟩)⟩
end
def setE (ev : Ev) : List Nat → List AVl → Ev
  | i :: is, a :: as => setE (ev.set i (some a.sv)) is as
  | _, _ => ev
def setV (σ : L2.St) : List Nat → List V → L2.St
  | i :: is, v :: vs => setV (σ.set i (some v)) is vs
  | _, _ => σ
theorem RelS.all {T : Tb} {δ : Dl} {G0 H0 G H Hs : Hp} {st : DSt} : ∀ {vs : List V} {avs : List AVl} {as : List Addr} {is : List Nat} {σ : L2.St} {ev : Ev}, RelS T δ G0 H0 G H σ ev st → AllN δ G H Hs vs avs as → (∀ a ∈ as, ¬ Alv (H0 a) ∧ ∀ (j : Nat) (d : D), ev[j]? = some (some (.own d)) → σ[j]? ≠ some (some (.ref a))) →
    RelS T δ G0 H0 G H (setV σ is vs) (setE ev is avs) st
  | _, _, _, [], _, _, r, .nil, _ => r
  | _, _, _, _ :: _, _, _, r, .nil, _ => r
  | _, _, _, [], _, _, r, .dat _ _, _ => r
  | _, _, _, [], _, _, r, .newD _ _ _ _ _ _, _ => r
  | _, _, _, [], _, _, r, .newL _ _ _ _ _ _, _ => r
  | _, _, _, i :: is, σ, ev, r, .dat (v := v) (d := d) (vs := vs) (avs := avs) h q, n => by
    show RelS T δ G0 H0 G H (setV (σ.set i (some v)) is vs) (setE (ev.set i (some (.dat d))) is avs) st
    refine RelS.all (r.set i h) q fun a ha => ⟨(n a ha).1, fun j d e => ?_⟩
    have h1 : i ≠ j := fun z => by
      subst z
      by_cases hl : i < ev.length
      · rw [List.getElem?_set_self hl] at e; cases e
      · rw [List.getElem?_eq_none (by rw [List.length_set]; omega)] at e; cases e
    rw [List.getElem?_set_ne h1] at e ⊢
    exact (n a ha).2 j d e
  | _, _, _, i :: is, σ, ev, r, .newD (a := a) (vs := vs) (avs := avs) h0 nd g h na q, n => by
    have n0 := n a List.mem_cons_self
    show RelS T δ G0 H0 G H (setV (σ.set i (some (.ref a))) is vs) (setE (ev.set i (some (.own (.dict [])))) is avs) st
    refine RelS.all (r.own i (d := .dict []) n0.1 g nd ⟨_, .inl h, .inl ⟨[], rfl, .nil⟩⟩ n0.2) q fun b hb => ⟨(n b (List.mem_cons_of_mem _ hb)).1, fun j d e e2 => ?_⟩
    by_cases hj : i = j
    · subst hj
      by_cases hl : i < ev.length
      · rw [List.getElem?_set_self (by rw [← r.len]; exact hl)] at e2
        cases e2
        exact na hb
      · rw [List.getElem?_eq_none (by rw [List.length_set]; omega)] at e; cases e
    · rw [List.getElem?_set_ne hj] at e e2
      exact (n b (List.mem_cons_of_mem _ hb)).2 j d e e2
  | _, _, _, i :: is, σ, ev, r, .newL (a := a) (vs := vs) (avs := avs) h0 nd g h na q, n => by
    have n0 := n a List.mem_cons_self
    show RelS T δ G0 H0 G H (setV (σ.set i (some (.ref a))) is vs) (setE (ev.set i (some (.own (.list [])))) is avs) st
    refine RelS.all (r.own i (d := .list []) n0.1 g nd ⟨[], h, .nil⟩ n0.2) q fun b hb => ⟨(n b (List.mem_cons_of_mem _ hb)).1, fun j d e e2 => ?_⟩
    by_cases hj : i = j
    · subst hj
      by_cases hl : i < ev.length
      · rw [List.getElem?_set_self (by rw [← r.len]; exact hl)] at e2
        cases e2
        exact na hb
      · rw [List.getElem?_eq_none (by rw [List.length_set]; omega)] at e; cases e
    · rw [List.getElem?_set_ne hj] at e e2
      exact (n b (List.mem_cons_of_mem _ hb)).2 j d e e2
def fPar (is : List Nat) (fs : Fn') : FS := fun ev st => (fs ev st).bind fun avs st1 => if avs.length = is.length then .ok (.nx (setE ev is avs)) st1 else .stuck
theorem AllN.length {δ : Dl} {G H Hs : Hp} : ∀ {vs : List V} {avs : List AVl} {as : List Addr}, AllN δ G H Hs vs avs as → vs.length = avs.length
  | _, _, _, .nil => rfl
  | _, _, _, .dat r q => congrArg (· + 1) q.length
  | _, _, _, .newD _ _ _ _ _ q => congrArg (· + 1) q.length
  | _, _, _, .newL _ _ _ _ _ q => congrArg (· + 1) q.length
theorem AllN.fr {T : Tb} {δ : Dl} {G H G' H' Hs : Hp} (f : Fr T δ G H G' H') : ∀ {vs : List V} {avs : List AVl} {as : List Addr}, AllN δ G H Hs vs avs as → AllN δ G' H' Hs vs avs as
  | _, _, _, .nil => .nil
  | _, _, _, .dat r q => .dat (r.mono f.gg) (q.fr f)
  | _, _, _, .newD a b c d e q => .newD a b (f.nw _ (by rw [d]; exact ⟨_, rfl, fun _ z => by cases z⟩) (by rw [d]; intro _ z; cases z) c) (f.kp _ _ d b (fun _ z => by cases z)) e (q.fr f)
  | _, _, _, .newL a b c d e q => .newL a b (f.nw _ (by rw [d]; exact ⟨_, rfl, fun _ z => by cases z⟩) (by rw [d]; intro _ z; cases z) c) (f.kp _ _ d b (fun _ z => by cases z)) e (q.fr f)
/-- the parts' reading, then all names are set -/
theorem par_read {K : PySem.W.Frag} {T : Tb} {δ : Dl} {E : XK} {G0 H0 : Hp} {is : List Nat} {fs : Fn'} {D' : Ends} {σ : L2.St} {H : Hp} (h : tS K T δ E G0 H0 (fPar is fs) D' σ H) : tN K T δ E fs σ H fun vs H1 => vs.length = is.length ∧ D'.nx (setV σ is vs) H1 ∧ ∀ p o, H1 p = none → D'.nx (setV σ is vs) (upd H1 p o) := by
  obtain ⟨G, ev, st, r, h⟩ := h
  refine ⟨false, G, ev, st, r.toRel, ?_⟩
  unfold fPar at h
  cases q : fs ev st with
  | exc c st1 => rw [q] at h; exact fun G1 H1 f1 d1 => h G1 H1 (r.fr.tr f1) d1
  | stuck => rw [q] at h; exact h.elim
  | ok avs st1 =>
    rw [q] at h
    intro vs as G1 H1 f1 d1 x
    have h : EndS K T δ E G0 H0 G D' (if avs.length = is.length then .ok (.nx (setE ev is avs)) st1 else .stuck) := h
    split at h
    · rename_i hl
      have nn : ∀ a ∈ as, ¬ Alv (H0 a) ∧ ∀ (j : Nat) (d : D), ev[j]? = some (some (.own d)) → σ[j]? ≠ some (some (.ref a)) := fun a ha => by
        have hn := x.fresh a ha
        refine ⟨r.fr.un' a hn, fun j d e e2 => ?_⟩
        obtain ⟨v, e3, b, e4, g, nd, ok⟩ := r.sl j _ e
        rw [e2] at e3
        cases e3
        cases e4
        exact hn ok.alv
      refine ⟨x.length.trans hl, h _ G1 H1 ((r.go f1 d1).all x nn) f1.gg, fun p o hp => ?_⟩
      have f2 : Fr T δ G1 H1 G1 (upd H1 p o) := .newH f1.gh f1.nt hp
      have d2 : DiceAt δ G1 (upd H1 p o) st1 := f2.kpD d1 (fun z => (d1.alv z).1.ne hp)
      exact h _ G1 (upd H1 p o) ((r.go (f1.tr f2) d2).all (x.fr f2) nn) f1.gg
    · exact h.elim
def gAllN : List Nat → TGs
  | [] => gNil
  | i :: is => gCons (gName i) (gAllN is)
theorem gAllN_of {H : Hp} {Q : L2.St → Hp → Prop} : ∀ {is : List Nat} {vs : List V} {σ : L2.St}, vs.length = is.length → Q (setV σ is vs) H → gAllN is vs σ H Q
  | [], [], σ, _, q => ⟨rfl, q⟩
  | i :: is, v :: vs, σ, e, q => ⟨v, vs, rfl, gAllN_of (is := is) (by simpa using e) q⟩
  | [], _ :: _, _, e, _ => by cases e
  | _ :: _, [], _, e, _ => by cases e
section
variable {X : Cx} {T : Tb} {δ : Dl} {E : XK} {G0 H0 : Hp} {es : List Expr} {fe : F} {fs : Fn'} {pos : Pos}
theorem ds_par2 {i j : Nat} {x y : Str} {a b : Expr} {px py pt : Pos} {kt k2 pt2} (hc : X.calm = true) (hN : X.N.Nodup) (hi : X.N[i]? = some x) (hj : X.N[j]? = some y) (hij : i ≠ j)
    (hx : X.env.scope.names.lookup x = some .local) (hy : X.env.scope.names.lookup y = some .local) (ha : DN X T δ E [a, b] fs)
    (hw : swappedStores [.Tuple [.Name x px, .Name y py] kt pt] (.Tuple [a, b] k2 pt2) X.env = pure (some [x, y]))
    (hs : swapsWithSole [.Tuple [.Name x px, .Name y py] kt pt] (.Tuple [a, b] k2 pt2) pos.line X.env = pure false := by rfl) :
    DS X T δ E G0 H0 (.Assign [.Tuple [.Name x px, .Name y py] kt pt] (.Tuple [a, b] k2 pt2) pos) (fPar [i, j] fs) :=
  PS.imp (ps_par hc hN hi hj hij hx hy ha hw hs) fun D' σ H h => by
    have h := par_read h
    obtain ⟨lk, G, ev, st, r, h⟩ := h
    refine ⟨lk, G, ev, st, r, ?_⟩
    cases q : fs ev st with
    | exc c st1 => rw [q] at h; exact h
    | stuck => rw [q] at h; exact h.elim
    | ok avs st1 =>
      rw [q] at h
      intro vs as G1 H1 f1 d1 x
      obtain ⟨hl, hn, _⟩ := h vs as G1 H1 f1 d1 x
      match vs, hl with
      | [v, w'], _ => exact ⟨v, w', rfl, hn⟩
theorem ds_par3 {i j l : Nat} {x y z : Str} {a b c : Expr} {px py pz pt : Pos} {kt k2 pt2} (hc : X.calm = true) (hN : X.N.Nodup) (hi : X.N[i]? = some x) (hj : X.N[j]? = some y) (hl : X.N[l]? = some z) (hij : i ≠ j) (hil : i ≠ l) (hjl : j ≠ l)
    (hx : X.env.scope.names.lookup x = some .local) (hy : X.env.scope.names.lookup y = some .local) (hz : X.env.scope.names.lookup z = some .local) (ha : DN X T δ E [a, b, c] fs)
    (hw : swappedStores [.Tuple [.Name x px, .Name y py, .Name z pz] kt pt] (.Tuple [a, b, c] k2 pt2) X.env = pure (some [x, y, z]))
    (hs : swapsWithSole [.Tuple [.Name x px, .Name y py, .Name z pz] kt pt] (.Tuple [a, b, c] k2 pt2) pos.line X.env = pure false := by rfl) :
    DS X T δ E G0 H0 (.Assign [.Tuple [.Name x px, .Name y py, .Name z pz] kt pt] (.Tuple [a, b, c] k2 pt2) pos) (fPar [i, j, l] fs) :=
  PS.imp (ps_par3 hc hN hi hj hl hij hil hjl hx hy hz ha hw hs) fun D' σ H h => by
    have h := par_read h
    obtain ⟨lk, G, ev, st, r, h⟩ := h
    refine ⟨lk, G, ev, st, r, ?_⟩
    cases q : fs ev st with
    | exc c st1 => rw [q] at h; exact h
    | stuck => rw [q] at h; exact h.elim
    | ok avs st1 =>
      rw [q] at h
      intro vs as G1 H1 f1 d1 x
      obtain ⟨hl, hn, _⟩ := h vs as G1 H1 f1 d1 x
      match vs, hl with
      | [v, w', u], _ => exact ⟨v, w', u, rfl, hn⟩
/-- several names by a tuple that is made -/
theorem ds_parT {ts : List Expr} {is : List Nat} {k k2 : Nat} {pt pt2 : Pos} (hc : X.calm = true) (ha : DN X T δ E es fs) (hg : PGs X ts (gAllN is)) (hn : (assignEach ts X.env).length = is.length := by rfl) (hst : (assignEach ts X.env).findIdx? (·.1) = none := by rfl) (hl : is.length ≤ 1000 := by decide)
    (hs : swapsWithSole [.Tuple ts k pt] (.Tuple es k2 pt2) pos.line X.env = pure false := by rfl) (hw : swappedStores [.Tuple ts k pt] (.Tuple es k2 pt2) X.env = pure none := by rfl) (h1 : (assignEach [.Tuple ts k pt] X.env).map (·.2) = [assign (.Tuple ts k pt) X.env] := by rfl) :
    DS X T δ E G0 H0 (.Assign [.Tuple ts k pt] (.Tuple es k2 pt2) pos) (fPar is fs) :=
  PS.imp (ps_asg (pe_tup ha) (pg_tup hc hg hn hst) hs hw h1) fun D' σ H h => by
    have h := par_read h
    obtain ⟨lk, G, ev, st, r, h⟩ := h
    refine ⟨lk, G, ev, st, r, ?_⟩
    cases q : fs ev st with
    | exc c st1 => rw [q] at h; exact h
    | stuck => rw [q] at h; exact h.elim
    | ok avs st1 =>
      rw [q] at h
      intro vs as G1 H1 f1 d1 x
      obtain ⟨hl', hn, hn2⟩ := h vs as G1 H1 f1 d1 x
      refine ⟨by rw [hl', sizeLine_eq]; omega, fun p hp => ⟨p, vs, rfl, SqT.of upd_same, hl', gAllN_of hl' (hn2 p _ hp)⟩⟩
/-- x = [..], x = {}: to be written later -/
theorem ds_newD (i : Nat) {x : Str} {p pos' : Pos} (hN : X.N.Nodup) (hi : X.N[i]? = some x := by rfl) (hx : Loc X.env.scope x := by first | exact Or.inl rfl | exact Or.inr rfl) (hs : swapsWith (.Dict [] [] p) (some (.Name x pos')) pos.line X.env = pure false := by rfl) (hf : X.fn x = true ∨ X.env.scope.names.lookup x = some .local := by first | exact .inl rfl | exact .inr rfl | assumption) :
    DS X T δ E G0 H0 (.Assign [.Name x pos'] (.Dict [] [] p) pos) (fun ev st => .ok (.nx (ev.set i (some (.own (.dict []))))) st) :=
  PS.imp (ps_set hN hi hx pe_dnewT hs hf) fun D' σ H ⟨G, ev, st, r, h⟩ => fun a ha => by
    have nd : ¬ δ.has a := fun z => (r.di.alv z).1.ne ha
    have g0 : G a = none := by
      cases q : G a with
      | none => rfl
      | some z => rw [r.sub _ _ q] at ha; cases ha
    have f1 : Fr T δ G H G (upd H a (.dT [])) := .newH r.sub r.nt ha
    refine h _ G _ ((r.go f1 (f1.kpD r.di nd)).own i (d := .dict []) (r.fr.un' a fun z => z.ne ha) g0 nd ⟨_, .inl upd_same, .inl ⟨[], rfl, .nil⟩⟩ fun j d e e2 => ?_) (Sub.rf _)
    obtain ⟨v, e3, b, e4, g, nd, ok⟩ := r.sl j _ e
    rw [e2] at e3
    cases e3
    cases e4
    exact ok.ne ha
def fNewL (i : Nat) (fs : Fs) : FS := fun ev st => (fs ev st).bind fun svs st1 => match dats svs with
  | some ds => if ds.length ≤ lim then .ok (.nx (ev.set i (some (.own (.list ds))))) st1 else .stuck
  | none => .stuck
theorem ds_newL (i : Nat) {x : Str} {p pos' : Pos} {fa : Fs} (hN : X.N.Nodup) (ha : DA X T δ E es fa) (hi : X.N[i]? = some x := by rfl) (hx : Loc X.env.scope x := by first | exact Or.inl rfl | exact Or.inr rfl) (hs : swapsWith (.List es p) (some (.Name x pos')) pos.line X.env = pure false := by rfl) (hf : X.fn x = true ∨ X.env.scope.names.lookup x = some .local := by first | exact .inl rfl | exact .inr rfl | assumption) :
    DS X T δ E G0 H0 (.Assign [.Name x pos'] (.List es p) pos) (fNewL i fa) :=
  PS.imp (ps_set hN hi hx (pe_lst ha) hs hf) fun D' σ H ⟨G, ev, st, r, h⟩ => by
    refine ⟨false, G, ev, st, r.toRel, ?_⟩
    unfold fNewL at h
    cases q : fa ev st with
    | exc c st1 => rw [q] at h; exact fun G1 H1 f1 d1 => h G1 H1 (r.fr.tr f1) d1
    | stuck => rw [q] at h; exact h.elim
    | ok svs st1 =>
      rw [q] at h
      intro vs G1 H1 f1 d1 x1
      have h : EndS X.K T δ E G0 H0 G D' (match dats svs with
        | some ds => if ds.length ≤ lim then .ok (.nx (ev.set i (some (.own (.list ds))))) st1 else .stuck
        | none => .stuck) := h
      split at h
      · rename_i ds e
        split at h
        · rename_i hl
          have ra := x1.dats e
          have r1 := r.go f1 d1
          refine ⟨by rw [ra.length]; exact lim_line hl, fun a ha => ?_⟩
          have nd : ¬ δ.has a := fun z => (r1.di.alv z).1.ne ha
          have g0 : G1 a = none := by
            cases q : G1 a with
            | none => rfl
            | some z => rw [r1.sub _ _ q] at ha; cases ha
          have f2 : Fr T δ G1 H1 G1 (upd H1 a (.lst vs)) := .newH r1.sub r1.nt ha
          refine h _ G1 _ ((r1.go f2 (f2.kpD r1.di nd)).own i (d := .list ds) (r1.fr.un' a fun z => z.ne ha) g0 nd ⟨vs, upd_same, ra⟩ fun j d e e2 => ?_) f1.gg
          obtain ⟨v, e3, b, e4, g, nd, ok⟩ := r1.sl j _ e
          rw [e2] at e3
          cases e3
          cases e4
          exact ok.ne ha
        · exact h.elim
      · exact h.elim
/-! ### writing -/
/-- x.append(e) -/
def fApp (i : Nat) (f : F) : FS := fun ev st => match ev[i]? with
  | some (some (.own (.list ds))) => (f ev st).bind fun sv st1 => match sv with
    | .dat d => if ds.length < lim then .ok (.nx (ev.set i (some (.own (.list (ds ++ [d])))))) st1 else .stuck
    | _ => .stuck
  | _ => .stuck
theorem ds_app (i : Nat) {e : Expr} {x : Str} {p apos pos2 : Pos} (he : DE X T δ E e fe) (hN : X.N[i]? = some x := by rfl) (hv : Vis X.env.scope x := by first | exact Or.inl rfl | exact Or.inr (Or.inl rfl) | exact Or.inr (Or.inr rfl)) (hd : (x == ("__debug__" : Str)) = false := by decide)
    (hcd : (x == ("__classdict__" : Str)) = false := by decide) (hbase : attributeBase (.Name x p) "append" X.env (eval (.Name x p) X.env) = eval (.Name x p) X.env := by rfl)
    (hfew : ((backTo pos (starEach (e :: []) X.env)).all (fun x => !x.1) && (backToKw pos (keywordEach [] X.env)).all (fun x => x.1.isSome)
      && decide ((e :: []).length + ([] : List Keyword).length + (if ([] : List Keyword).isEmpty then 0 else 1) < 30)) = true := by rfl)
    (hline : (apos.endLine == pos.line) = true := by rfl) (hst : starEach (e :: []) X.env = (false, eval e X.env) :: starEach [] X.env := by rfl) (hplain : (backTo pos (starEach [] X.env)).any (·.1) = false := by rfl)
    (hs : swapsWith (.Call (.Attribute (.Name x p) "append" apos) [e] [] pos) none pos2.line X.env = pure false := by rfl) :
    DS X T δ E G0 H0 (.Expr (.Call (.Attribute (.Name x p) "append" apos) [e] [] pos) pos2) (fApp i fe) :=
  PS.imp (ps_expr (pe_bm PySem.F.plainAttrs_list PySem.F.slot_list_append PySem.F.type_list_append mt_append (pe_var hN hv hd hcd) (pa_cons he pa_nil hst) hbase hfew hline hst hplain) hs) fun D' σ H ⟨G, ev, st, r, h⟩ => by
    unfold fApp at h
    split at h
    · rename_i ds ei
      obtain ⟨v, e1, a, rfl, g, nd, vs, hp, ra⟩ := r.sl i _ ei
      refine ⟨.ref a, e1, .inl ⟨rfl, _, SqL.of hp⟩, goS r h fun sv st1 v1 G1 H1 e2 r1 x1 f1 h1 => ?_⟩
      cases sv with
      | dat d =>
        simp only at h1
        split at h1
        · rename_i hl
          have hp1 : H1 a = some (.lst vs) := f1.kp _ _ hp nd (fun _ z => by cases z)
          have g1 : G1 a = none := f1.nw a (by rw [hp]; exact ⟨_, rfl, fun _ z => by cases z⟩) (by rw [hp]; intro _ z; cases z) g
          have ra1 := ra.mono f1.gg
          refine ⟨a, vs, v1, rfl, rfl, hp1, by rw [ra.length, sizeLine_eq]; unfold lim at hl; omega, ?_⟩
          exact h1 σ G1 _ (r1.wr ei e1 g1 nd (fun ps z => by rw [hp1] at z; cases z) (fun _ _ z => by rw [hp1] at z; cases z) (fun _ z => by cases z) (fun _ z => by cases z) (d' := .list (ds ++ [d])) ⟨vs ++ [v1], upd_same, ra1.app (.cons x1 .nil)⟩) (Sub.rf _)
        · exact h1.elim
      | own d => exact h1.elim
      | dice => exact h1.elim
      | bench => exact h1.elim
      | exc _ => exact h1.elim
    · exact h.elim
/-- d[k] = v -/
def fPut (i : Nat) (fk fv : F) : FS := fun ev st => (fv ev st).bind fun sv st1 => match ev[i]? with
  | some (some (.own (.dict kvs))) => (fk ev st1).bind fun sk st2 => match sk, sv with
    | .dat (.tuple ds), .dat d => if kOk kvs ds = true then if kvs.length < lim then .ok (.nx (ev.set i (some (.own (.dict (dPut kvs (.tuple ds) d)))))) st2 else .stuck else .stuck
    | _, _ => .stuck
  | _ => .stuck
theorem ds_put (i : Nat) {k value : Expr} {fk fv : F} {x : Str} {p pos' : Pos} (hu : X.A.units + 2 < cLine) (hk : DE X T δ E k fk) (hv : DE X T δ E value fv) (hN : X.N[i]? = some x := by rfl) (hvis : Vis X.env.scope x := by first | exact Or.inl rfl | exact Or.inr (Or.inl rfl) | exact Or.inr (Or.inr rfl)) (hd : (x == ("__debug__" : Str)) = false := by decide)
    (hcd : (x == ("__classdict__" : Str)) = false := by decide) (hs : swapsWith value (some (.Subscript (.Name x p) k pos')) pos.line X.env = pure false := by rfl) : DS X T δ E G0 H0 (.Assign [.Subscript (.Name x p) k pos'] value pos) (fPut i fk fv) :=
  PS.imp (ps_eput hu (pe_var hN hvis hd hcd) hk hv hs) fun D' σ H ⟨G, ev, st, r, h⟩ => goS r h fun sv st1 v G1 H1 e1 r1 x1 f1 h1 => by
    split at h1
    · rename_i kvs ei
      obtain ⟨vo, e2, a, rfl, g, nd, u0, hp, ra⟩ := r1.sl i _ ei
      refine ⟨.ref a, e2, goS r1 h1 fun sk st2 kv G2 H2 e3 r2 x2 f2 h2 => ?_⟩
      split at h2
      · rename_i ds d
        split at h2
        · rename_i ek
          split at h2
          · rename_i hl
            have hp : H1 a = some u0 := hp.elim id fun z => by cases z.1
            have hp2 : H2 a = some u0 := f2.kp _ _ hp nd (fun ps => ra.ntb ps)
            have g2 : G2 a = none := f2.nw a (by rw [hp]; exact ⟨_, rfl, fun ps => ra.ntb ps⟩) (by rw [hp]; intro xs z; exact ra.ntp xs (Option.some.inj z)) g
            have ra2 := ra.mono f2.gg
            rcases kOk_or ek with ⟨n, is, ek⟩ | ⟨n, k, ek⟩
            · obtain ⟨b, rfl, hb⟩ := key_of r2.sub (.dat x2) ek
              rcases ra2 with ⟨ks, eu, ra2⟩ | ⟨ks, eu, n2, ra2⟩
              · subst eu
                refine ⟨a, _, rfl, .inl (DPut.t hp2 hb (by rw [ra2.length, sizeLine_eq]; unfold lim at hl; omega)), ?_⟩
                refine h2 σ G2 _ (r2.wr ei e2 g2 nd (fun ps z => by rw [hp2] at z; cases z) (fun _ _ z => by rw [hp2] at z; cases z) (fun _ z => by cases z) (fun _ z => by cases z) (d' := .dict (dPut kvs (.tuple ds) d)) ⟨_, .inl upd_same, .inl ⟨_, rfl, ?_⟩⟩) (Sub.rf _)
                rw [intsOf_eq ek]
                exact ra2.put (Rp.mono f2.gg x1)
              · rw [ra2.notN n2] at n; cases n
            · obtain ⟨b, rfl, kb, hb⟩ := nkey_of1 r2.sub (.dat x2) ek
              have fin : ∀ (ks : List (NE V)), NMay H2 a ks → RpN G2 ks kvs → ∃ a' H4, V.ref a = .ref a' ∧ EPut H2 a' (.ref b) v H4 ∧ D'.nx σ H4 := fun ks nm rk => by
                refine ⟨a, _, rfl, .inr ⟨ks, k, b, nm, rfl, hb, by rw [rk.length, sizeLine_eq]; unfold lim at hl; omega, rfl⟩, ?_⟩
                refine h2 σ G2 _ (r2.wr ei e2 g2 nd (fun ps z => by rw [hp2] at z; exact ra.ntb ps (Option.some.inj z)) (fun c q z => by rw [hp2] at z; exact ra.ncd c q (Option.some.inj z)) (fun _ z => by cases z) (fun _ z => by cases z) (d' := .dict (dPut kvs (.tuple ds) d)) ⟨_, .inl upd_same, .inr ⟨_, rfl, putN_ne, ?_⟩⟩) (Sub.rf _)
                rw [show PyData.tuple ds = nD k from by rw [nestOf_eq ek]; rfl]
                exact rk.put kb (Rp.mono f2.gg x1)
              rcases ra2 with ⟨ks, eu, ra2⟩ | ⟨ks, eu, n2, ra2⟩
              · obtain ⟨rfl, rfl⟩ := ra2.isN n
                subst eu
                exact fin [] (.inr ⟨rfl, hp2⟩) .nil
              · subst eu
                exact fin ks (.inl ⟨hp2, ra2.keys r2.sub⟩) ra2
          · exact h2.elim
        · exact h2.elim
      · exact h2.elim
    · exact h1.elim
/-- the dice are read -/
def fDiceAt (i : Nat) (k : Int) : F := fun ev st => match ev[i]? with
  | some (some .dice) => if k = 0 then .ok (.dat (.int st.c)) st else if k = 1 then .ok (.dat (.int st.n)) st else .stuck
  | _ => .stuck
theorem de_dice (i : Nat) {k : Int} {j : Nat} {x : Str} {p p2 : Pos} (hN : X.N[i]? = some x := by rfl) (hv : Vis X.env.scope x := by first | exact Or.inl rfl | exact Or.inr (Or.inl rfl) | exact Or.inr (Or.inr rfl)) (hd : (x == ("__debug__" : Str)) = false := by decide)
    (hcd : (x == ("__classdict__" : Str)) = false := by decide) (hs : PlainIx (.Constant (.int k) j p2) := by exact fun _ _ => rfl) : DE X T δ E (.Subscript (.Name x p) (.Constant (.int k) j p2) pos) (fDiceAt i k) :=
  PE.imp (pe_ix ix_list (pe_var hN hv hd hcd) pe_int hs) fun σ H Q ⟨lk, G, ev, st, r, h⟩ => by
    unfold fDiceAt at h
    split at h
    · rename_i ei
      obtain ⟨v, e1, a, rfl, ed⟩ := r.sl i _ ei
      have hp := r.di.at_ a ed
      split at h
      · rename_i e0
        subst e0
        exact ⟨_, e1, a, _, 0, .int st.c, rfl, rfl, SqL.of hp, rfl, EndE.here r h (.int _)⟩
      · split at h
        · rename_i e0
          subst e0
          exact ⟨_, e1, a, _, 1, .int st.n, rfl, rfl, SqL.of hp, rfl, EndE.here r h (.int _)⟩
        · exact h.elim
    · exact h.elim
/-- the dice are written -/
def fDiceSet (i : Nat) (k : Int) (f : F) : FS := fun ev st => (f ev st).bind fun sv st1 => match ev[i]?, sv with
  | some (some .dice), .dat (.int z) => if k = 0 then .ok (.nx ev) { st1 with c := z } else if k = 1 then .ok (.nx ev) { st1 with n := z } else .stuck
  | _, _ => .stuck
theorem RelS.dice {G H : Hp} {σ : L2.St} {ev : Ev} {st st' : DSt} {a : Addr} (r : RelS T δ G0 H0 G H σ ev st) (ed : δ.dc = some a) (hb : st'.b = st.b) : RelS T δ G0 H0 G (upd H a (.lst [.int st'.c, .int st'.n])) σ ev st' := by
  have hp := r.di.at_ a ed
  have g := r.dg a (Dl.ofD ed)
  have f : Fr T δ G H G (upd H a (.lst [.int st'.c, .int st'.n])) := (Fr.rf r.sub r.nt).wr (.inr (Dl.ofD ed)) g (fun ps z => by rw [hp] at z; cases z) (fun _ _ z => by rw [hp] at z; cases z) (fun _ z => by cases z) (fun _ z => by cases z)
  refine r.go f ⟨fun b e => ?_, fun b e => ?_⟩
  · rw [ed] at e
    cases e
    exact upd_same
  · obtain ⟨dx, fs, h1, h2⟩ := r.di.bn b e
    have : b ≠ a := fun z => by rw [z, hp] at h1; cases h1
    exact ⟨dx, fs, by rw [upd_ne this]; exact h1, by rw [hb]; exact h2⟩
theorem ds_dice (i : Nat) {e : Expr} {k : Int} {j : Nat} {x : Str} {p p2 pos' : Pos} (he : DE X T δ E e fe) (hN : X.N[i]? = some x := by rfl) (hv : Vis X.env.scope x := by first | exact Or.inl rfl | exact Or.inr (Or.inl rfl) | exact Or.inr (Or.inr rfl)) (hd : (x == ("__debug__" : Str)) = false := by decide)
    (hcd : (x == ("__classdict__" : Str)) = false := by decide)
    (hA : ∀ v, assign (.Subscript (.Name x p) (.Constant (.int k) j p2) pos') X.env v = (do
      let ov ← holding [v] (eval (.Name x p) X.env)
      let iv ← holding [v, ov] (eval (.Constant (.int k) j p2) X.env)
      standAt pos'
      holding [v, ov, iv] (setItem ov iv v)
      release [v, ov, iv] []) := by intro _; rfl) (hs : swapsWithSole [.Subscript (.Name x p) (.Constant (.int k) j p2) pos'] e pos.line X.env = pure false := by rfl) (hw : swappedStores [.Subscript (.Name x p) (.Constant (.int k) j p2) pos'] e X.env = pure none := by rfl)
    (h11 : (assignEach [.Subscript (.Name x p) (.Constant (.int k) j p2) pos'] X.env).map (·.2) = [assign (.Subscript (.Name x p) (.Constant (.int k) j p2) pos') X.env] := by rfl) :
    DS X T δ E G0 H0 (.Assign [.Subscript (.Name x p) (.Constant (.int k) j p2) pos'] e pos) (fDiceSet i k fe) :=
  PS.imp (ps_asg he (pg_sub (pe_var hN hv hd hcd) pe_int set_list hA) hs hw h11) fun D' σ H ⟨G, ev, st, r, h⟩ => goS r h fun sv st1 v G1 H1 e1 r1 x1 f1 h1 => by
    split at h1
    · rename_i z ei
      obtain ⟨v0, e2, a, rfl, ed⟩ := r1.sl i _ ei
      have hp := r1.di.at_ a ed
      cases x1
      split at h1
      · rename_i e0
        subst e0
        exact ⟨_, e2, a, _, 0, 0, rfl, rfl, hp, rfl, h1 σ G1 _ (r1.dice (st' := { st1 with c := z }) ed rfl) (Sub.rf _)⟩
      · split at h1
        · rename_i e0
          subst e0
          exact ⟨_, e2, a, _, 1, 1, rfl, rfl, hp, rfl, h1 σ G1 _ (r1.dice (st' := { st1 with n := z }) ed rfl) (Sub.rf _)⟩
        · exact h1.elim
    · exact h1.elim
/-- raise X('..') -/
theorem ds_raise {c : Exn} {x m : Str} {j : Nat} {p p2 p3 : Pos} (hx : x = c.name) (hc : X.calm = true) (tk : L2N.Takes X fun cls d _ H => E cls d H) (q : PySem.W.excIn X.K (He.ga X.K c.name) He.veBase "ValueError.__new__" = true) (gC : X.mg x = some (.ref (He.ga X.K c.name))) (kC : PySem.W.keepIn X.K (.ref (He.ga X.K c.name)) = true)
    (r : Raises X (.ref (He.ga X.K c.name))) (hg : Gl X x) (hdb : (x == ("__debug__" : Str)) = false := by decide) :
    DS X T δ E G0 H0 (.Raise (some (.Call (.Name x p) [.Constant (.str m) j p2] [] p3)) none pos) (fRaise c) :=
  PS.imp (L2N.ps_raise hc tk (L2N.pmk_own PySem.F.excBase_ValueError q gC kC r hg hdb)) fun D' σ H ⟨G, ev, st, r, h⟩ => h G H r.fr r.di
/-- y = [..], the comprehension's own store -/
theorem ds_setLc (i : Nat) {y : Str} {py spos : Pos} {elt tg iter : Expr} {ifs : List Expr} {scope : Scope} {own : List (Str × Nat)} {fi : Fi} {t : Tg} {ss : List Nat} {ft : Option F} {fe : F} (hc : X.calm = true) (hN : X.N.Nodup) (hy : X.N[i]? = some y) (hyl : X.env.scope.names.lookup y = some .local)
    (hsw : swapsWith (.ListComp elt [⟨tg, iter, ifs, 0⟩] scope pos) (some (.Name y py)) spos.line X.env = pure true) (hi : DI X T δ E tg iter fi) (ok : BlkOk X.N X.env.scope scope own)
    (hg : ∀ (s : Shared) (H : Hp) (C : Addr) (cl : List (Str × Addr)) (fp : List Addr), DG (X.blk s H scope (compEnvC scope cl C X.env) fp) T δ tg t ss) (ht : ∀ (s : Shared) (H : Hp) (C : Addr) (cl : List (Str × Addr)) (fp : List Addr), DPT (X.blk s H scope (compEnvC scope cl C X.env) fp) T δ ifs ft)
    (he : ∀ (s : Shared) (H : Hp) (C : Addr) (cl : List (Str × Addr)) (fp : List Addr), DE (X.blk s H scope (compEnvC scope cl C X.env) fp) T δ noE elt fe) (hss : ∀ i ∈ ss, i ∈ own.map (·.2) := by decide) (hs : ∀ x, foldedSetIterable iter X.env x = pure x := by intro _; rfl) :
    DS X T δ E G0 H0 (.Assign [.Name y py] (.ListComp elt [⟨tg, iter, ifs, 0⟩] scope pos) spos) (fSet i (fLc fi t ft fe (own.map (·.2)))) :=
  PS.imp (ps_setLc (wi := tI X.K T δ E fi) (g := tG T δ t ss) (tt := tTo X.K T δ ft) (te := tD X.K T δ noE fe) hc hN hy hyl hsw hi ok hg ht he hs) fun D' σ H ⟨G, ev, st, r, h⟩ => lc_read hss σ H _ (goS r h fun sv st1 v G1 H1 e1 r1 x1 f1 h1 => by
    cases sv with
    | dat d => exact h1 _ G1 H1 (r1.set i x1) (Sub.rf _)
    | own d => exact h1.elim
    | dice => exact h1.elim
    | bench => exact h1.elim
    | exc _ => exact h1.elim)
/-! ### a comprehension over an own dict's keys -/
theorem walk_k {G : Hp} {d : Addr} {o : Obj} {ks : List (List Key × V)} {kvs : List (D × D)} (ra : RpK G ks kvs) : WalkD T (Itkt d o ks) G [(d, .frz o (.dT ks))] (kvs.map (·.1)) where
  stop := fun G1 H1 s1 s2 hd => ⟨hd (d, .frz o (.dT ks)) (by simp), by rw [List.length_map, ra.length]; exact Nat.le_refl _⟩
  go := fun i G1 H1 x e s1 s2 nt hd => by
    have h1 : H1 d = some (.frz o (.dT ks)) := hd (d, .frz o (.dT ks)) (by simp)
    rw [List.getElem?_map] at e
    obtain ⟨p, e1, e2⟩ := Option.map_eq_some_iff.mp e
    refine ⟨⟨h1, by rw [ra.length]; exact (List.getElem?_eq_some_iff.mp e1).1⟩, fun y H' ⟨eH, k, v, q, e3, ey, hq⟩ => ?_⟩
    subst eH
    obtain ⟨is, dd, ek, e4⟩ := ra.get e3
    rw [e1] at e4
    cases e4
    subst e2 ey ek
    rw [kV_ints] at hq
    have f : Fr T .nil G1 H' (upd G1 q (.tup (is.map V.int))) H' := {
      gg := fun b u e => by
        by_cases hb : b = q
        · subst hb; rw [upd_same, ← hq]; exact (s2 _ _ e).symm ▸ rfl
        · rw [upd_ne hb]; exact e
      gh := fun b u e => by
        by_cases hb : b = q
        · subst hb; rw [upd_same] at e; rw [hq]; exact e
        · rw [upd_ne hb] at e; exact s2 _ _ e
      nt := fun b ps e => by
        by_cases hb : b = q
        · subst hb; rw [upd_same] at e; cases e
        · rw [upd_ne hb] at e; exact nt b ps e
      nw := fun b hb n g => by
        by_cases hbq : b = q
        · rw [hbq] at n; exact absurd hq (n _)
        · rw [upd_ne hbq]; exact g
      kp := fun b o e _ _ => e
      un := fun b h => h
      ut := fun b _ h => h
      tb := fun t => t }
    exact ⟨_, f, .tup upd_same (rpA_ints is)⟩
theorem walk_n {G : Hp} {d : Addr} {o : Obj} {ks : List (NE V)} {kvs : List (D × D)} (ra : RpN G ks kvs) : WalkD T (Itn d o ks) G [(d, .frz o (nst d ks))] (kvs.map (·.1)) where
  stop := fun G1 H1 s1 s2 hd => ⟨hd (d, .frz o (nst d ks)) (by simp), ra.keys (s1.tr s2), by rw [List.length_map, ra.length]; exact Nat.le_refl _⟩
  go := fun i G1 H1 x e s1 s2 nt hd => by
    have h1 : H1 d = some (.frz o (nst d ks)) := hd (d, .frz o (nst d ks)) (by simp)
    rw [List.getElem?_map] at e
    obtain ⟨p, e1, e2⟩ := Option.map_eq_some_iff.mp e
    refine ⟨⟨h1, ra.keys (s1.tr s2), by rw [ra.length]; exact (List.getElem?_eq_some_iff.mp e1).1⟩, fun y H' ⟨eH, q, e3, ey, hq⟩ => ?_⟩
    subst eH ey
    obtain ⟨dd, e4⟩ := ra.get e3
    rw [e1] at e4
    cases e4
    subst e2
    exact ⟨G1, .rf s2 nt, KeyAt.rp (ra.keys s1 q (List.mem_of_getElem? e3))⟩
end
end DL

set_option maxHeartbeats 4000000
/-! a comprehension over an own dict; defs -/
namespace DL
open PySem PySem.Spec PyProof.Rows L2
def fSetLcK (i j : Nat) (t : Tg) (ft : Option F) (fe : F) (vs : List Nat) : FS := fun ev st => match ev[j]? with
  | some (some (.own (.dict kvs))) => if kvs.length ≤ lim then (lcGo t ft fe (wipeE ev vs) (kvs.map (·.1)) st).bind fun ys st2 => .ok (.nx (ev.set i (some (.dat (.list ys))))) st2 else .stuck
  | _ => .stuck
/-- the state under a lock -/
theorem RelS.lock {T : Tb} {δ : Dl} {G0 H0 G H : Hp} {σ : L2.St} {ev : Ev} {st : DSt} {j : Nat} {kvs : List (D × D)} {a : Addr} {u0 : HO} {od : Obj} (r : RelS T δ G0 H0 G H σ ev st) (ej : ev[j]? = some (some (.own (.dict kvs)))) (e1 : σ[j]? = some (some (.ref a)))
    (g : G a = none) (nd : ¬ δ.has a) (hp : H a = some u0) (ra : DRep G a u0 kvs) : Rel true T δ G (upd H a (.frz od u0)) σ ev st := by
  refine ⟨⟨fun b u e => ?_, r.nt, r.dg, r.di.upd nd, ?_⟩, r.len, fun i sv e => ?_, r.ds⟩
  · have : b ≠ a := fun z => by rw [z, g] at e; cases e
    rw [upd_ne this]; exact r.sub _ _ e
  · intro q hq
    obtain ⟨ps, h1, h2, h3⟩ := r.tb q hq
    have hq1 : q.1 ≠ a := fun z => by rw [z, hp] at h1; exact ra.ntb _ (Option.some.inj h1)
    refine ⟨ps, by rw [upd_ne hq1]; exact h1, h2, fun pos cv hc => ?_⟩
    obtain ⟨c, e5, e6⟩ := h3 pos cv hc
    have hcp : c ≠ a := fun z => by rw [z, hp] at e6; exact ra.ncd _ _ (Option.some.inj e6)
    exact ⟨c, e5, by rw [upd_ne hcp]; exact e6⟩
  · obtain ⟨v, h1, h2⟩ := r.sl i sv e
    refine ⟨v, h1, ?_⟩
    cases sv with
    | dat d => exact h2
    | own d =>
      obtain ⟨b, eb, gb, nb, ob⟩ := h2
      refine ⟨b, eb, gb, nb, ?_⟩
      by_cases hb : b = a
      · subst hb
        have hij : i = j := r.ds i j d _ b e ej (by rw [h1, eb]) e1
        subst hij
        rw [ej] at e
        cases e
        exact ⟨_, .inr ⟨rfl, od, upd_same⟩, ra⟩
      · cases d with
        | list ds => obtain ⟨vs, q1, q2⟩ := ob; exact ⟨vs, by rw [upd_ne hb]; exact q1, q2⟩
        | dict ds =>
          obtain ⟨vs, q1, q2⟩ := ob
          refine ⟨vs, ?_, q2⟩
          rcases q1 with q1 | ⟨q0, _⟩
          · exact .inl (by rw [upd_ne hb]; exact q1)
          · cases q0
        | _ => exact ob.elim
    | dice => exact h2
    | bench => exact h2
    | exc _ => exact h2
/-- back from a lock, with the new list as data -/
theorem Fr.unlock {T : Tb} {δ : Dl} {G H G2 H2 : Hp} {a D' : Addr} {u0 : HO} {kvs : List (D × D)} {od : Obj} {vs' : List V} (s : Sub G H) (g : G a = none) (nd : ¬ δ.has a) (hp : H a = some u0) (ra : DRep G a u0 kvs) (hD : H D' = none)
    (f : Fr T δ G (upd H a (.frz od u0)) G2 H2) (g2 : G2 D' = none) (hD2 : H2 D' = some (.lst vs')) : Fr T δ G H (upd G2 D' (.lst vs')) (upd H2 a u0) := by
  have haD : a ≠ D' := fun z => by rw [z, hD] at hp; cases hp
  have hl : (upd H a (.frz od u0)) a = some (.frz od u0) := upd_same
  have g2a : G2 a = none := f.nw a (by rw [hl]; exact ⟨_, rfl, fun _ z => by cases z⟩) (by rw [hl]; intro _ z; cases z) g
  exact {
    gg := fun b u e => by
      have h1 := f.gg _ _ e
      have : b ≠ D' := fun z => by rw [z, g2] at h1; cases h1
      rw [upd_ne this]; exact h1
    gh := fun b u e => by
      by_cases hb : b = D'
      · subst hb; rw [upd_same] at e; rw [upd_ne (Ne.symm haD), hD2]; exact e
      · rw [upd_ne hb] at e
        have : b ≠ a := fun z => by rw [z, g2a] at e; cases e
        rw [upd_ne this]; exact f.gh _ _ e
    nt := fun b ps e => by
      by_cases hb : b = D'
      · subst hb; rw [upd_same] at e; cases e
      · rw [upd_ne hb] at e; exact f.nt b ps e
    nw := fun b hb n gb => by
      have hbD : b ≠ D' := fun z => hb.ne (by rw [z]; exact hD)
      rw [upd_ne hbD]
      by_cases hba : b = a
      · rw [hba]; exact g2a
      · exact f.nw b (by rw [upd_ne hba]; exact hb) (by rw [upd_ne hba]; exact n) gb
    kp := fun b o e d n => by
      by_cases hba : b = a
      · rw [hba] at e ⊢; rw [upd_same, ← hp]; exact e
      · rw [upd_ne hba]; exact f.kp b o (by rw [upd_ne hba]; exact e) d n
    un := fun b h => by
      by_cases hba : b = a
      · rw [hba, upd_same]; exact ⟨_, rfl, fun ps => ra.ntb ps⟩
      · rw [upd_ne hba]; exact f.un b (by rw [upd_ne hba]; exact h)
    ut := fun b h n => by
      by_cases hba : b = a
      · rw [hba, upd_same]; intro xs z; exact ra.ntp xs (Option.some.inj z)
      · rw [upd_ne hba]; exact f.ut b (by rw [upd_ne hba]; exact h) (by rw [upd_ne hba]; exact n)
    tb := fun t => by
      have t1 : LamX.Tabs T (upd H a (.frz od u0)) := fun q hq => by
        obtain ⟨ps, h1, h2, h3⟩ := t q hq
        have hq1 : q.1 ≠ a := fun z => by rw [z, hp] at h1; exact ra.ntb _ (Option.some.inj h1)
        refine ⟨ps, by rw [upd_ne hq1]; exact h1, h2, fun pos cv hc => ?_⟩
        obtain ⟨c, e5, e6⟩ := h3 pos cv hc
        have hcp : c ≠ a := fun z => by rw [z, hp] at e6; exact ra.ncd _ _ (Option.some.inj e6)
        exact ⟨c, e5, by rw [upd_ne hcp]; exact e6⟩
      intro q hq
      obtain ⟨ps, h1, h2, h3⟩ := f.tb t1 q hq
      have hfa : H2 a = some (.frz od u0) := f.kp _ _ hl nd (fun _ z => by cases z)
      have hq1 : q.1 ≠ a := fun z => by rw [z, hfa] at h1; cases h1
      refine ⟨ps, by rw [upd_ne hq1]; exact h1, h2, fun pos cv hc => ?_⟩
      obtain ⟨c, e5, e6⟩ := h3 pos cv hc
      have hcp : c ≠ a := fun z => by rw [z, hfa] at e6; cases e6
      exact ⟨c, e5, by rw [upd_ne hcp]; exact e6⟩ }
section
variable {X : Cx} {T : Tb} {δ : Dl} {E : XK} {G0 H0 : Hp} {pos : Pos}
theorem lcK_read {K : PySem.W.Frag} {i j : Nat} {t : Tg} {ss vs : List Nat} {ft : Option F} {fe : F} (hss : ∀ i ∈ ss, i ∈ vs) : ∀ D' σ H, tS K T δ E G0 H0 (fSetLcK i j t ft fe vs) D' σ H → tLock (tAsg (tLc (iKeysE (tVar j)) (tG T δ t ss) (tTo K T δ ft) (tD K T δ noE fe) vs) (gName i)) D' σ H := fun D' σ H ⟨G, ev, st, r, h⟩ => by
  unfold fSetLcK at h
  split at h
  · rename_i kvs ej
    split at h
    · rename_i hl
      obtain ⟨v, e1, a, rfl, g, nd, u0, hp, ra⟩ := r.sl j _ ej
      have hp : H a = some u0 := hp.elim id fun z => by cases z.1
      refine ⟨a, u0, hp, ra.mut, fun od => ?_⟩
      obtain ⟨J, hJ, wJ⟩ : ∃ J, KJ (upd H a (.frz od u0)) a od J ∧ WalkD T J G [(a, .frz od u0)] (kvs.map (·.1)) := by
        rcases ra with ⟨ks, e, ra⟩ | ⟨ks, e, _, ra⟩ <;> subst e
        · exact ⟨_, .inl ⟨ks, upd_same, rfl⟩, walk_k ra⟩
        · exact ⟨_, .inr ⟨ks, upd_same, rfl⟩, walk_n ra⟩
      have rl := r.lock (od := od) ej e1 g nd hp ra
      cases q2 : lcGo t ft fe (wipeE ev vs) (kvs.map (·.1)) st with
      | exc c st2 => exact absurd q2 (lcGo_noexc _ _ _ _)
      | stuck => rw [q2] at h; exact h.elim
      | ok ys st2 =>
        rw [q2] at h
        refine ⟨.ref a, e1, a, od, J, rfl, hJ, fun D hD => ?_⟩
        have hDa : D ≠ a := fun z => by rw [z, upd_same] at hD; cases hD
        have hDH : H D = none := by rw [upd_ne hDa] at hD; exact hD
        refine lc_turns (K := K) (lk := true) (ps := [(a, .frz od u0)]) (items := kvs.map (·.1)) hss rl wJ (fun p hp' => ?_) (fun p hp' => ?_) hD (by rw [List.length_map]; exact hl) q2 fun G2 H2 vs' f2 d2 g2 hD2 ra2 hd2 => ?_
        · have : p = (a, .frz od u0) := by simpa using hp'
          rw [this]; exact upd_same
        · have : p = (a, .frz od u0) := by simpa using hp'
          rw [this]; exact ⟨nd, fun _ z => by cases z⟩
        · have hfa : H2 a = some (.frz od u0) := hd2 (a, .frz od u0) (by simp)
          have f := Fr.unlock r.sub g nd hp ra hDH f2 g2 hD2
          have d3 : DiceAt δ (upd G2 D (.lst vs')) (upd H2 a u0) st2 := (d2.upd nd).gup (sub_upd g2)
          refine ⟨hfa, h _ _ _ ((r.go f d3).set i (d := .list ys) (.lst upd_same (ra2.mono fun b u e => ?_))) f.gg⟩
          have : b ≠ D := fun z => by rw [z, g2] at e; cases e
          rw [upd_ne this]; exact e
    · exact h.elim
  · exact h.elim
/-- y = [.. for x in d if ..], d an own dict -/
theorem ds_lcK (i j : Nat) {y d : Str} {pd py spos : Pos} {elt tg : Expr} {ifs : List Expr} {scope : Scope} {own : List (Str × Nat)} {t : Tg} {ss : List Nat} {ft : Option F} {fe : F} (hc : X.calm = true) (hN : X.N.Nodup) (hy : X.N[i]? = some y) (hyl : X.env.scope.names.lookup y = some .local)
    (hsw : swapsWith (.ListComp elt [⟨tg, .Name d pd, ifs, 0⟩] scope pos) (some (.Name y py)) spos.line X.env = pure true) (hd : X.N[j]? = some d) (hv : Vis X.env.scope d) (ok : BlkOk X.N X.env.scope scope own)
    (hg : ∀ (s : Shared) (H : Hp) (C : Addr) (cl : List (Str × Addr)) (fp : List Addr), DG (X.blk s H scope (compEnvC scope cl C X.env) fp) T δ tg t ss) (ht : ∀ (s : Shared) (H : Hp) (C : Addr) (cl : List (Str × Addr)) (fp : List Addr), DPT (X.blk s H scope (compEnvC scope cl C X.env) fp) T δ ifs ft)
    (he : ∀ (s : Shared) (H : Hp) (C : Addr) (cl : List (Str × Addr)) (fp : List Addr), DE (X.blk s H scope (compEnvC scope cl C X.env) fp) T δ noE elt fe) (hss : ∀ i ∈ ss, i ∈ own.map (·.2) := by decide) (hdb : (d == ("__debug__" : Str)) = false := by decide)
    (hcd : (d == ("__classdict__" : Str)) = false := by decide) (hs : ∀ x, foldedSetIterable (.Name d pd) X.env x = pure x := by intro _; rfl) :
    DS X T δ E G0 H0 (.Assign [.Name y py] (.ListComp elt [⟨tg, .Name d pd, ifs, 0⟩] scope pos) spos) (fSetLcK i j t ft fe (own.map (·.2))) :=
  PS.imp (ps_lock (ps_setLc (g := tG T δ t ss) (tt := tTo X.K T δ ft) (te := tD X.K T δ noE fe) hc hN hy hyl hsw (pi_keysE (pe_var hd hv hdb hcd)) ok hg ht he hs)) (lcK_read hss)
end
/-! ### defs -/
def ev0 (n : Nat) (svs : List SV) : Ev := svs.map some ++ List.replicate (n - svs.length) none
def runF (n : Nat) (fs : FS) : Fn := fun svs st => (fs (ev0 n svs) st).bind fun fl st1 => match fl with
  | .ret d => .ok d st1
  | .nx _ => .ok .none st1
theorem AllV.get {lk : Bool} {δ : Dl} {G H : Hp} : ∀ {vs : List V} {svs : List SV} {i : Nat} {sv : SV}, AllV lk δ G H vs svs → svs[i]? = some sv → ∃ v, vs[i]? = some v ∧ VOk lk δ G H v sv
  | _, _, _, _, .nil, h => by simp at h
  | _, _, 0, _, .cons h r, e => by simp at e; subst e; exact ⟨_, rfl, h⟩
  | _, _, i + 1, _, .cons h r, e => by
    obtain ⟨v, h1, h2⟩ := AllV.get (i := i) r (by simpa using e)
    exact ⟨v, by simpa using h1, h2⟩
theorem start_rel {N : List Str} {T : Tb} {δ : Dl} {G H : Hp} {vs : List V} {svs : List SV} {st : DSt} (gd : Gd T δ G H st) (av : AllV false δ G H vs svs) (ao : svs.all SV.argOk = true) (hl : vs.length ≤ N.length) : RelS T δ G H G H (L2.start N vs) (ev0 N.length svs) st := by
  have hlen := av.length
  have own_no : ∀ {i : Nat} {d : D}, (ev0 N.length svs)[i]? = some (some (.own d)) → False := fun {i d} e => by
    unfold ev0 at e
    by_cases hi : i < svs.length
    · rw [List.getElem?_append_left (by simpa using hi), List.getElem?_map] at e
      obtain ⟨sv, e1, e2⟩ := Option.map_eq_some_iff.mp e
      cases e2
      have := List.all_eq_true.mp ao _ (List.mem_of_getElem? e1)
      cases this
    · rw [List.getElem?_append_right (by simpa using Nat.le_of_not_lt hi), List.getElem?_replicate] at e
      split at e <;> cases e
  refine ⟨⟨gd, ?_, fun i sv e => ?_, fun i j d e a h1 _ _ _ => (own_no h1).elim⟩, .rf gd.sub gd.nt, fun i d a e _ => (own_no e).elim⟩
  · unfold ev0 L2.start
    simp [hlen]
  · unfold ev0 at e
    by_cases hi : i < svs.length
    · rw [List.getElem?_append_left (by simpa using hi), List.getElem?_map] at e
      obtain ⟨sv', e1, e2⟩ := Option.map_eq_some_iff.mp e
      cases e2
      obtain ⟨v, e3, x⟩ := av.get e1
      refine ⟨v, ?_, x⟩
      unfold L2.start
      rw [List.getElem?_append_left (by rw [List.length_map, hlen]; exact hi), List.getElem?_map, e3]; rfl
    · rw [List.getElem?_append_right (by simpa using Nat.le_of_not_lt hi), List.getElem?_replicate] at e
      split at e <;> cases e
/-- a def keeps what its body reckons -/
theorem fn_ok {P : Program} {w : World} {K : PySem.W.Frag} {mg : Str → Option Value} {base : Heap} {x qual : Str} {params : Arguments} {body : List Stmt} {scope : Scope} {f : Addr} {fd : FuncData} {N ps : List Str} {k : Nat} {T : Tb} {fs : FS} {g : Fn}
    (F : FunD K x qual params body scope [] [] f fd) (S : FnScope N ps scope) (hle : ps.length ≤ N.length)
    (hb : ∀ (cdv : Value) (A : Around) (outer : List Env) (s : Shared) (H0 : Hp) (E : XK) (δ : Dl) (G0 : Hp), BOk K δ → Room k (A.deeper (envOfC qual scope s.heap.objs.size f cdv)) → DSs (cxOf (L2N.CX P w) P w K mg base N qual scope f cdv A outer s H0 E) T δ E G0 H0 body fs)
    (hg : ∀ svs st, g svs st ≠ .stuck → runF N.length fs svs st = g svs st) : FnOk P w K mg base (L2N.CX P w) (k + 1) f fd ps (spD K T ps.length g) := by
  refine F.ok S (fun vs H Q E h => h.1) fun cdv A outer s H vs Q E hr h => ?_
  obtain ⟨hl, δ, G, svs, st, bo, gd, av, ao, e⟩ := spD.imp hg h
  refine ⟨_, hb cdv A outer s H E δ G bo hr, G, ev0 N.length svs, st, start_rel gd av ao (by omega), ?_⟩
  unfold runF at e
  cases q : fs (ev0 N.length svs) st with
  | exc c st1 => rw [q] at e; exact e
  | stuck => rw [q] at e; exact e.elim
  | ok fl st1 =>
    rw [q] at e
    cases fl with
    | ret d => exact e
    | nx ev1 => exact fun σ' G' H' r' _ => e .non G' H' r'.fr r'.di .non
end DL

set_option maxHeartbeats 4000000
/-! chains, len and list of a dict, min of pairs -/
namespace DL
open PySem PySem.Spec PyProof.Rows L2
section
variable {X : Cx} {T : Tb} {δ : Dl} {E : XK} {a b c : Expr} {fa fb fc : F} {pos : Pos}
theorem chain_read {K : PySem.W.Frag} {g g' : D → D → Option D} : ∀ σ H Q, tD K T δ E (fChain g g' fa fb fc) σ H Q → tChain (rOp T g) (rOp T g') (tD K T δ E fa) (tD K T δ E fb) (tD K T δ E fc) σ H Q := fun σ H Q ⟨lk, G, ev, st, r, h⟩ =>
  goE (e := fun G H r => EndE K lk T δ E G H Q r) r h fun sa st1 v G1 H1 e1 f1 r1 x1 h1 => goE (e := fun G H r => EndE K lk T δ E G H Q r) r1 h1 fun sb st2 w G2 H2 e2 f2 r2 x2 h2 => by
    unfold of2 at h2
    split at h2
    · rename_i a b e3 e4
      split at h2
      · rename_i d e5
        refine ⟨G2, a, b, d, r2.sub, r2.nt, (x1.fr f2).rd e3, x2.rd e4, e5, fun v' G3 H3 f3 x3 => ?_⟩
        cases d with
        | bool k =>
          cases x3
          refine ⟨k, rfl, ?_⟩
          have r3 : Rel lk T δ G3 H3 σ ev st2 := r2.fr f3.any (r2.di.fr f3)
          cases k with
          | true =>
            refine goE (e := fun G H r => EndE K lk T δ E G H Q r) r3 (EndE.tr f3.any h2) fun sc st4 u G4 H4 e6 f4 r4 x4 h4 => ?_
            obtain ⟨a', b', d', q1, q2, q3, h5⟩ := of2_some h4
            exact ⟨G4, a', b', d', r4.sub, r4.nt, ((x2.fr f3.any).fr f4).rd q1, x4.rd q2, q3, fun v G' H' f x => h5 v G' H' f.any (r4.di.fr f) x⟩
          | false => exact EndE.here r3 (EndE.tr f3.any h2) (.bl false)
        | _ => exact h2.elim
      · exact h2.elim
    · exact h2.elim
theorem de_chain {op op' : CmpOp} {g g' : D → D → Option D} (ho : OpD X T (compareOp op) g) (ho' : OpD X T (compareOp op') g') (ha : DE X T δ E a fa) (hb : DE X T δ E b fb) (hc : DE X T δ E c fc) (hm : lastMarks [op, op'] [b, c] = false := by with_unfolding_all rfl) :
    DE X T δ E (.Compare a [op, op'] [b, c] pos) (fChain g g' fa fb fc) := PE.imp (pe_chain ho ho' ha hb hc hm) chain_read
theorem dt_chain {op op' : CmpOp} {g g' : D → D → Option D} (ho : OpD X T (compareOp op) g) (ho' : OpD X T (compareOp op') g') (ha : DE X T δ E a fa) (hb : DE X T δ E b fb) (hc : DE X T δ E c fc) (hm : lastMarks [op, op'] [b, c] = false := by with_unfolding_all rfl) :
    DT X T δ E (.Compare a [op, op'] [b, c] pos) (fChain g g' fa fb fc) := PT.imp (pt_chain ho ho' ha hb hc hm) fun σ H Q ⟨lk, G, ev, st, r, h⟩ => chain_read σ H _ ⟨lk, G, ev, st, r, h.toE⟩
end
section
variable {X : Cx} {T : Tb} {G H : Hp}
theorem cd_lenD : CallD X T (.builtin "len") gLenD := by
  intro pins s σ H vs us Q I rv h
  obtain ⟨G, ds, d, sub, nt, ha, hg, q⟩ := h
  unfold gLenD at hg
  split at hg
  · rename_i kvs
    obtain ⟨v, rfl, h⟩ := ha.one
    split at hg
    · cases hg
    rename_i nx
    obtain ⟨p, u0, rfl, hp, ra⟩ := h.dict sub (Bool.eq_false_iff.mpr nx)
    cases hg
    rcases ra with ⟨ks, e, ra⟩ | ⟨ks, e, _, ra⟩ <;> subst e
    rotate_left
    · refine call_len_n pins s σ H _ us Q I rv ⟨p, ks, rfl, .inl ⟨hp, ra.keys sub⟩, ?_⟩
      rw [ra.length]
      exact same_ sub nt (.int _) q
    obtain ⟨u, rfl, rx⟩ := vals1 rv
    obtain rfl : u = .ref p := rx
    obtain ⟨z, hd, ys, rel, dd⟩ := dt_rd I.hok hp
    have hl : ks.length = ys.length := Paired.length rel
    refine call_len_dictH hd dd (by rw [← hl]; rw [sizeLine_eq] at z; omega) ?_
    rw [← hl, ra.length]
    obtain ⟨G', s', n'⟩ : ∃ G' : Hp, Sub G' H ∧ True := ⟨G, sub, trivial⟩
    exact ⟨.int ((kvs.length : Nat) : Int), H, I.tok _, ⟨_, rfl⟩, same_ sub nt (.int _) q⟩
  · cases hg
/-- the keys of a dict as a list -/
def gListD : List D → Option D
  | [.dict kvs] => if isX kvs = true then none else some (.list (kvs.map (·.1)))
  | _ => none
theorem keysRp {G1 : Hp} : ∀ {ks : List (List Key × V)} {kvs : List (D × D)} {bs : List Addr}, RpK G ks kvs → IsKeys H ks bs → (∀ b ∈ bs, ∀ o, H b = some o → G1 b = some o) → RpA G1 (bs.map V.ref) (kvs.map (·.1))
  | _, _, _, .nil, p, _ => by cases p; exact .nil
  | _, _, _, .cons (is := is) h r, p, m => by
    cases p with
    | cons h1 p1 =>
      rename_i b bs
      refine .cons ?_ (keysRp r p1 fun b hb => m b (List.mem_cons_of_mem _ hb))
      have h1 : H b = some (.tup (((is.map Sum.inl : List Key)).map kV)) := h1
      rw [kV_ints] at h1
      exact .tup (m b List.mem_cons_self _ h1) (rpA_ints is)
theorem keysRpN {G : Hp} : ∀ {ks : List (NE V)} {kvs : List (D × D)}, RpN G ks kvs → RpA G (ks.map fun p => V.ref p.2.1) (kvs.map (·.1))
  | _, _, .nil => .nil
  | _, _, .cons k h r => .cons (KeyAt.rp k) (keysRpN r)
end
section
variable {X : Cx} {T : Tb}
/-- the tuples at bs are data from now on -/
def addT (G H : Hp) : List Addr → Hp
  | [] => G
  | b :: bs => fun x => if x = b then H b else addT G H bs x
theorem addT_mem {G H : Hp} (s : Sub G H) : ∀ {bs : List Addr} {b : Addr}, b ∈ bs → addT G H bs b = H b
  | [], _, h => by cases h
  | c :: bs, b, h => by
    unfold addT
    by_cases e : b = c
    · subst e; simp
    · rw [if_neg e]
      exact addT_mem s ((List.mem_cons.mp h).resolve_left e)
theorem addT_or {G H : Hp} : ∀ (bs : List Addr) (b : Addr), (b ∈ bs ∧ addT G H bs b = H b) ∨ (b ∉ bs ∧ addT G H bs b = G b)
  | [], _ => .inr ⟨by simp, rfl⟩
  | c :: bs, b => by
    unfold addT
    by_cases e : b = c
    · subst e; exact .inl ⟨List.mem_cons_self, by simp⟩
    · rw [if_neg e]
      rcases addT_or (G := G) (H := H) bs b with ⟨h1, h2⟩ | ⟨h1, h2⟩
      · exact .inl ⟨List.mem_cons_of_mem _ h1, h2⟩
      · exact .inr ⟨by simp [e, h1], h2⟩
theorem Fr.addT {T : Tb} {G H : Hp} (s : Sub G H) (nt : ∀ b ps, G b ≠ some (.tbl ps)) (bs : List Addr) (h : ∀ b ∈ bs, ∃ xs, H b = some (.tup xs)) : Fr T .nil G H (DL.addT G H bs) H where
  gg := fun b o e => by
    rcases addT_or (G := G) (H := H) bs b with ⟨_, h2⟩ | ⟨_, h2⟩
    · rw [h2]; exact s _ _ e
    · rw [h2]; exact e
  gh := fun b o e => by
    rcases addT_or (G := G) (H := H) bs b with ⟨_, h2⟩ | ⟨_, h2⟩
    · rw [h2] at e; exact e
    · rw [h2] at e; exact s _ _ e
  nt := fun b ps e => by
    rcases addT_or (G := G) (H := H) bs b with ⟨h1, h2⟩ | ⟨_, h2⟩
    · obtain ⟨xs, h3⟩ := h b h1
      rw [h2, h3] at e; cases e
    · rw [h2] at e; exact nt b ps e
  nw := fun b _ n g => by
    rcases addT_or (G := G) (H := H) bs b with ⟨h1, h2⟩ | ⟨_, h2⟩
    · obtain ⟨xs, h3⟩ := h b h1
      exact absurd h3 (n xs)
    · rw [h2]; exact g
  kp := fun _ _ h _ _ => h
  un := fun _ h => h
  ut := fun _ _ h => h
  tb := fun h => h
theorem IsKeys.tups {H : Hp} {ks : List (List Key × V)} {bs : List Addr} (h : IsKeys H ks bs) : ∀ b ∈ bs, ∃ xs, H b = some (.tup xs) := by
  unfold IsKeys at h
  induction h with
  | nil => intro b hb; cases hb
  | cons h t ih =>
    intro b hb
    rcases List.mem_cons.mp hb with e | e
    · subst e; exact ⟨_, h⟩
    · exact ih b e
theorem cd_listD (hc : X.calm = true) : CallD X T (.type "list") gListD := by
  intro pins s σ H vs us Q I rv h
  obtain ⟨G, ds, d, sub, nt, ha, hg, q⟩ := h
  unfold gListD at hg
  split at hg
  · rename_i kvs
    obtain ⟨v, rfl, h⟩ := ha.one
    split at hg
    · cases hg
    rename_i nx
    obtain ⟨p, u0, rfl, hp, ra⟩ := h.dict sub (Bool.eq_false_iff.mpr nx)
    cases hg
    rcases ra with ⟨ks, e, ra⟩ | ⟨ks, e, _, ra⟩ <;> subst e
    rotate_left
    · exact call_list_n hc pins s σ H _ us Q I rv ⟨p, ks, rfl, .inl ⟨hp, ra.keys sub⟩, fun l hl => newL sub nt hl (keysRpN ra) q⟩
    refine call_list_dT hc pins s σ H _ us Q I rv ⟨p, ks, rfl, hp, fun l bs hl kk => ?_⟩
    have f1 := Fr.addT (T := T) sub nt bs (IsKeys.tups kk)
    refine newL f1.gh f1.nt hl (keysRp ra kk fun b hb o e => by rw [addT_mem sub hb]; exact e) fun v G' H' f x => q v G' H' (f1.tr f) x
  · cases hg
end
/-! ### min of a list of pairs -/
theorem reads_pair {h : Heap} {a : Addr} {o : Obj} {its : Array Value} {n : Nat} {i j : Int} {t t' : Tok} {d : D} {as : List Addr} (ho : h.get? a = some o) (hd : o.data = Data.seq its n) (hi : its.toList = [.int i t, .int j t']) (hcl : o.cls = .type "tuple") (r : Reads h (.ref a) d as) : d = .tuple [.int i, .int j] := by
  cases r with
  | list h1 h2 h3 h4 => rw [ho] at h1; cases h1; rw [hcl] at h2; exact absurd h2 (by decide)
  | dict h1 h2 h3 h4 h5 => rw [ho] at h1; cases h1; rw [hcl] at h2; exact absurd h2 (by decide)
  | tuple h1 h2 h3 h4 =>
    rw [ho] at h1; cases h1
    rw [hd] at h3; cases h3
    rw [hi] at h4
    cases h4 with
    | cons q1 q2 => cases q1; cases q2 with
      | cons q1 q2 => cases q1; cases q2; rfl
def pairsOf : List D → Option (List (Int × Int))
  | [] => some []
  | .tuple [.int i, .int j] :: r => (pairsOf r).map ((i, j) :: ·)
  | _ :: _ => none
def pairD (p : Int × Int) : D := .tuple [.int p.1, .int p.2]
theorem pairsOf_eq : ∀ {ds : List D} {ps : List (Int × Int)}, pairsOf ds = some ps → ds = ps.map pairD := by
  intro ds
  induction ds with
  | nil => intro ps e; cases e; rfl
  | cons d r ih =>
    intro ps e
    unfold pairsOf at e
    split at e
    · rename_i q; cases q
    · rename_i i j r' q
      cases q
      obtain ⟨js, e1, e2⟩ := Option.map_eq_some_iff.mp e
      subst e2
      rw [ih e1]; rfl
    · cases e
theorem pairsOf_map : ∀ ps : List (Int × Int), pairsOf (ps.map pairD) = some ps
  | [] => rfl
  | p :: r => by
    show (pairsOf (r.map pairD)).map ((p.1, p.2) :: ·) = _
    rw [pairsOf_map r]; rfl
/-- the least pair, the first of such -/
def minP (p : Int × Int) (ps : List (Int × Int)) : Int × Int := ps.foldl (fun a y => if (if y.1 = a.1 then decide (y.2 < a.2) else decide (y.1 < a.1)) = true then y else a) p
def gMinP : List D → Option D
  | [.list xs] => (match pairsOf xs with | some (p :: r) => some (pairD (minP p r)) | _ => none)
  | _ => none
theorem pair_canLay (ps : List (Int × Int)) : PyData.canLayAll0 (ps.map pairD) = true := by
  induction ps with
  | nil => rfl
  | cons p r ih => exact (Bool.and_eq_true _ _).mpr ⟨rfl, ih⟩
theorem cd_minP {X : Cx} {T : Tb} (hc : X.calm = true) (hu : X.A.units + 16 < cLine) : CallD X T (.builtin "min") gMinP := by
  intro pins s σ H vs us Q I rv h
  obtain ⟨G, ds, d, sub, nt, ha, hg, q⟩ := h
  unfold gMinP at hg
  split at hg
  · split at hg
    · rename_i xs p r e
      obtain ⟨v, rfl, h⟩ := ha.one
      obtain ⟨a, ys, rfl, hp, ra⟩ := h.list sub
      cases hg
      rw [pairsOf_eq e] at ra
      obtain ⟨its, rv', hl, _⟩ := I.list (SqL.of hp)
      rw [Vals.ref1 rv]
      have hd : DpAll X.K H ys ((p :: r).map pairD) := ra.dp sub (pair_canLay _)
      have hr : PySem.W.HoldAll (α := Int × Int) s.heap its (p :: r) := Dp.readsAll I ((p :: r).map pairD) ys its hd rv'
      refine PySem.W.min_list_datum (x := p) (xs := r) (I.ok.hd hc) hl.isList hr (by
        have e : PySem.W.Datum.depth (Int × Int) ≤ 8 := by decide
        omega) fun i v h' tk hi hh kp => ?_
      have hi' : its[i]? = some v := by rw [List.getElem?_toArray] at hi; exact hi
      obtain ⟨x, e1⟩ : ∃ x, ys[i]? = some x := by
        cases q2 : ys[i]? with
        | some x => exact ⟨x, rfl⟩
        | none => rw [Vals.none_of rv' q2] at hi'; cases hi'
      obtain ⟨v', e2', rx⟩ := rv'.get e1
      rw [hi'] at e2'
      cases e2'
      obtain ⟨d, e2, rd⟩ := ra.get' e1
      obtain ⟨p', e3, e4⟩ : ∃ p', (p :: r)[i]? = some p' ∧ pairD p' = d := by
        rw [List.getElem?_map] at e2
        exact Option.map_eq_some_iff.mp e2
      subst e4
      refine ⟨x, H, I.kept kp, rx, ?_⟩
      have : pairD p' = pairD (minP p r) := by
        cases rd with
        | tup h1 h2 =>
          cases h2 with
          | cons h3 h4 =>
            cases h3
            cases h4 with
            | cons h3 h4 =>
              cases h3; cases h4
              cases rx
              obtain ⟨its2, rv2, ⟨o, ho, hcl, n, hdat⟩, _⟩ := I.tuple (SqT.of (sub _ _ h1))
              obtain ⟨as, hrd⟩ := hh
              have hv2 : ∃ t t', its2 = [.int p'.1 t, .int p'.2 t'] := by
                cases rv2 with
                | cons r1 r2 =>
                  obtain ⟨t, rfl⟩ := r1
                  cases r2 with
                  | cons r1 r2 =>
                    obtain ⟨t', rfl⟩ := r1
                    cases r2
                    exact ⟨t, t', rfl⟩
              obtain ⟨t, t', e5⟩ := hv2
              exact (reads_pair (kp _ _ ho) hdat e5 hcl hrd).symm
      rw [← this] at q
      exact same_ sub nt rd q
    · cases hg
  · cases hg
end DL

set_option maxHeartbeats 4000000
/-! what the printed derivations take -/
namespace DL
open PySem PySem.Spec PyProof.Rows L2
/-- iterations of a while at most -/
def fuel : Nat := 100000
/-- a def of the program, as it may be called -/
structure Cal (P : Program) (w : World) (K : PySem.W.Frag) (mg : Str → Option Value) (base : Heap) (T : Tb) (x : Str) (k : Nat) (ps : List Str) (g : Fn) : Prop where
  ex : ∃ f fd, FnOk P w K mg base (L2N.CX P w) k f fd ps (spD K T ps.length g) ∧ mg x = some (.ref f) ∧ PySem.W.keepIn K (.ref f) = true ∧ Binds K fd ps []
section
variable {X : Cx} {T : Tb} {δ : Dl} {E : XK} {e : Expr} {es : List Expr} {pos p : Pos} {fs : Fs}
theorem de_callC {k k' : Nat} {ps : List Str} {g : Fn} {x : Str} (bo : BOk X.K δ) (C : Cal X.prog X.w X.K X.mg X.base T x k ps g) (hr : Room k' X.A) (hk : k ≤ k') (hg : Gl X x)
    (hx : Passes (L2N.CX X.prog X.w) X E) (hl : (e :: es).length = ps.length) (ha : DA X T δ E (e :: es) fs) (hlen : ∀ ev st svs st', fs ev st = .ok svs st' → svs.length = ps.length) (hdb : (x == ("__debug__" : Str)) = false := by decide) (he : starEach (e :: es) X.env = (false, eval e X.env) :: starEach es X.env := by rfl) (hpl : (backTo pos (starEach es X.env)).any (·.1) = false := by rfl) :
    DE X T δ E (.Call (.Name x p) (e :: es) [] pos) (fCall g fs) := by
  obtain ⟨f, fd, F, hm, kp, b⟩ := C.ex
  exact de_call bo F (hr.mono hk) hg hm kp b hx hl ha hdb he hpl hlen
def _root_.DL.fNewD (i : Nat) : FS := fun ev st => .ok (.nx (ev.set i (some (.own (.dict []))))) st
theorem passN {X : Cx} : Passes (L2N.CX X.prog X.w) X noE := fun _ _ _ _ _ _ _ h => by
  obtain ⟨_, _, _, _, _, _, _, _, _, _, _, _, z⟩ := h
  exact z.elim
/-- what is known of an exception class -/
structure ExOk (K : PySem.W.Frag) (mg : Str → Option Value) (c : Exn) : Prop where
  q : PySem.W.excIn K (He.ga K c.name) He.veBase "ValueError.__new__" = true
  gC : mg c.name = some (.ref (He.ga K c.name))
  kC : PySem.W.keepIn K (.ref (He.ga K c.name)) = true
  sb : PySem.W.subIn K (.ref (He.ga K c.name)) (.type "BaseException") = some true
  ty : PySem.W.typeIn K (.ref (He.ga K c.name)) = some (.type "type")
theorem ds_raiseX {G0 H0 : Hp} {c : Exn} {x m : Str} {j : Nat} {p p2 p3 : Pos} (hx : x = c.name) (hc : X.calm = true) (tk : L2N.Takes X fun cls d _ H => E cls d H) (o : ExOk X.K X.mg c) (hg : Gl X x) (hdb : (x == ("__debug__" : Str)) = false := by decide) :
    DS X T δ E G0 H0 (.Raise (some (.Call (.Name x p) [.Constant (.str m) j p2] [] p3)) none pos) (fRaise c) :=
  ds_raise hx hc tk o.q (by rw [hx]; exact o.gC) o.kC (raises_own o.sb o.ty) hg hdb
end
def blkB (N : List Str) (sc scope : Scope) (own : List (Str × Nat)) : Bool :=
  (match scope.kind with | .function => true | _ => false) && scope.names.all (fun y => decide (scope.names.lookup y.1 = some y.2)) && own.all (fun p => decide (N[p.2]? = some p.1)) &&
  scope.names.all (fun y => (!decide (y.2 = .free)) || decide (sc.names.lookup y.1 = some .cell) || decide (sc.names.lookup y.1 = some .free)) &&
  scope.names.all (fun y => (!(decide (y.2 = .local) || decide (y.2 = .cell))) || decide (y.1 ∈ own.map (·.1)) || decide (y.1 ∉ N))
theorem blk_of {N : List Str} {sc scope : Scope} {own : List (Str × Nat)} (h : blkB N sc scope own = true) : BlkOk N sc scope own := by
  unfold blkB at h
  simp only [Bool.and_eq_true, List.all_eq_true, Bool.or_eq_true, Bool.not_eq_true', decide_eq_true_eq, decide_eq_false_iff_not] at h
  obtain ⟨⟨⟨⟨h1, h2⟩, h3⟩, h4⟩, h5⟩ := h
  refine ⟨?_, h2, h3, fun y hy e => ?_, fun y hy e => ?_⟩
  · split at h1
    · assumption
    · cases h1
  · rcases h4 y hy with (h | h) | h
    · exact absurd e h
    · exact .inl h
    · exact .inr h
  · rcases h5 y hy with (h | h) | h
    · rw [Bool.or_eq_false_iff, decide_eq_false_iff_not, decide_eq_false_iff_not] at h
      exact absurd e (fun z => z.elim h.1 h.2)
    · exact .inl h
    · exact .inr h
theorem mk_cal {P : Program} {w : World} {K : PySem.W.Frag} {mg : Str → Option Value} {base : Heap} {x : Str} {params : Arguments} {body : List Stmt} {scope : Scope} {f : Addr} {fd : FuncData} {N ps : List Str} {k : Nat} {T : Tb} {fs : FS}
    (F : FunD K x x params body scope [] [] f fd) (gm : mg x = some (.ref f)) (S : FnScope N ps scope) (hle : ps.length ≤ N.length) (b : Binds K fd ps [])
    (hb : ∀ (cdv : Value) (A : Around) (outer : List Env) (s : Shared) (H0 : Hp) (E : XK) (δ : Dl) (G0 : Hp), BOk K δ → Room k (A.deeper (envOfC x scope s.heap.objs.size f cdv)) → DSs (cxOf (L2N.CX P w) P w K mg base N x scope f cdv A outer s H0 E) T δ E G0 H0 body fs) :
    Cal P w K mg base T x (k + 1) ps (runF N.length fs) := ⟨f, fd, fn_ok F S hle hb fun _ _ _ => rfl, gm, F.kp, b⟩
/-! ### the built-in names -/
theorem bb_len : bootBuiltins "len" = some (.builtin "len") := by decide +kernel
theorem bb_max : bootBuiltins "max" = some (.builtin "max") := by decide +kernel
theorem bb_min : bootBuiltins "min" = some (.builtin "min") := by decide +kernel
theorem bb_all : bootBuiltins "all" = some (.builtin "all") := by decide +kernel
theorem bb_any : bootBuiltins "any" = some (.builtin "any") := by decide +kernel
theorem bb_sum : bootBuiltins "sum" = some (.builtin "sum") := by decide +kernel
theorem bb_sorted : bootBuiltins "sorted" = some (.builtin "sorted") := by decide +kernel
theorem bt_int : bootBuiltins "int" = some (.type "int") := by decide +kernel
theorem bt_bool : bootBuiltins "bool" = some (.type "bool") := by decide +kernel
theorem bt_tuple : bootBuiltins "tuple" = some (.type "tuple") := by decide +kernel
theorem bt_str : bootBuiltins "str" = some (.type "str") := by decide +kernel
theorem bt_list : bootBuiltins "list" = some (.type "list") := by decide +kernel
end DL

set_option maxHeartbeats 4000000
/-! list of a tuple -/
namespace HT
open PySem PySem.Spec PyProof.Rows L2
section
variable {prog : Program} {w : World} {A : Around} {E : Value → Shared → Prop} {s : Shared}
theorem dl_adjust (n : Nat) : Builtin.Slice.sliceAdjust none none (-1) (n : Int) = ((n : Int) - 1, -1) := by
  unfold Builtin.Slice.sliceAdjust
  simp
theorem dl_places (n : Nat) : Builtin.Slice.slicePlaces ((n : Int) - 1) (-1) (-1) = n := by
  unfold Builtin.Slice.slicePlaces
  simp
  split <;> omega
theorem dl_fm {α β : Type} {f g : α → Option β} : ∀ {l : List α}, (∀ m ∈ l, f m = g m) → l.filterMap f = l.filterMap g
  | [], _ => rfl
  | a :: l, h => by
    rw [List.filterMap_cons, List.filterMap_cons, h a List.mem_cons_self, dl_fm fun m hm => h m (List.mem_cons_of_mem _ hm)]
theorem dl_pick (xs : Array Value) : ((List.range xs.size).filterMap fun (m : Nat) => xs[(((xs.size : Int) - 1) + (m : Int) * (-1)).toNat]?).toArray = xs.toList.reverse.toArray := by
  congr 1
  have e : ∀ m ∈ List.range xs.size, xs[(((xs.size : Int) - 1) + (m : Int) * (-1)).toNat]? = xs.toList.reverse[m]? := fun m hm => by
    have hm := List.mem_range.mp hm
    rw [List.getElem?_reverse (by simpa using hm)]
    have : (((xs.size : Int) - 1) + (m : Int) * (-1)).toNat = xs.toList.length - 1 - m := by
      rw [Array.length_toList]; omega
    rw [this, Array.getElem?_toList]
  rw [dl_fm e]
  have : ∀ l : List Value, (List.range l.length).filterMap (fun m => l[m]?) = l := fun l => by
    induction l with
    | nil => rfl
    | cons a l ih =>
      rw [List.length_cons, List.range_succ_eq_map, List.filterMap_cons]
      simp only [List.getElem?_cons_zero]
      rw [List.filterMap_map]
      congr 1
  have h := this xs.toList.reverse
  rw [List.length_reverse, Array.length_toList] at h
  exact h
theorem dl_sliceApplied {sl : Addr} {vs : Value} {n : Nat} {Q : Int × Int × Nat → Shared → Prop} (hs : s.heap.IsSliceOf sl .none .none vs) (ps : IsPart vs (some (-1)))
    (h : Q ((n : Int) - 1, -1, n) s) : wpAny (model prog w) A (Builtin.Slice.sliceApplied (.ref sl) (pure (n : Int))) Q E s := by
  obtain ⟨os, hos, hcs, hds⟩ := id hs
  unfold Builtin.Slice.sliceApplied Builtin.Slice.sliceFields
  refine wpAny_bind (wpAny_bind (wpAny_field hos hds (x := .none) rfl (wpAny_bind (wpAny_field hos hds (x := .none) rfl (wpAny_bind (wpAny_field hos hds (x := vs) rfl (wpAny_pure ?_)))))))
  refine wpAny_bind (slicePart_ ps ?_)
  show wpAny _ _ (if ((-1 : Int) == 0) = true then _ else _) _ _ s
  rw [if_neg (by decide)]
  refine wpAny_bind (slicePart_ .none (wpAny_bind (slicePart_ .none (wpAny_bind (wpAny_pure ?_)))))
  show wpAny _ _ (match Builtin.Slice.sliceAdjust none none (-1) (n : Int) with | (lo, hi) => pure (lo, (-1 : Int), Builtin.Slice.slicePlaces lo hi (-1))) _ _ s
  rw [dl_adjust n]
  show wpAny _ _ (pure ((n : Int) - 1, (-1 : Int), Builtin.Slice.slicePlaces ((n : Int) - 1) (-1) (-1))) _ _ s
  rw [dl_places]
  exact wpAny_pure h
theorem dl_getItem_tuple_rev {t sl : Addr} {items : Array Value} {vs : Value} {Q : Value → Shared → Prop} (ht : IsTup s.heap t items) (hs : s.heap.IsSliceOf sl .none .none vs) (ps : IsPart vs (some (-1)))
    (h : Q (.ref s.heap.objs.size) { s with heap := s.heap.push { cls := .type "tuple", data := .seq items.toList.reverse.toArray } })
    (hsz : items.size ≤ sizeLine) : wpAny (model prog w) A (getItem (.ref t) (.ref sl)) Q E s := by
  have htake : sizeOk (.seq items.toList.reverse.toArray) := by
    show items.toList.reverse.toArray.size ≤ sizeLine
    rw [List.size_toArray, List.length_reverse, Array.length_toList]
    omega
  obtain ⟨os, hos, hcs, hds⟩ := id hs
  have hTs : s.TypeIs (.ref sl) "slice" := ⟨os, hos, hcs⟩
  unfold getItem
  try with_reducible refine wpAny_holding ?_
  first | refine wpAny_bind (wpAny_pure ?_) | skip
  refine wpAny_bind (wpAny_sequenceKey ht.typeIs (by decide) ?_)
  refine wpAny_bind (wpAny_callSpecial?_slot (name := Str.ofString "__getitem__") ht.typeIs PyProof.Rows.slot_tuple_getitem
    (wpAny_call_entry PyProof.Rows.slot_tuple_getitem ht.typeIs entry_tuple_getitem ?_ (args_tuple_getitem _ _)))
  show wpAny _ _ (Builtin.Tuple.tupleItemsOf (.ref t) >>= _) _ _ s
  refine wpAny_bind (tupleItemsOf_ ht ?_)
  refine wpAny_bind (wpAny_typeOf hTs ?_)
  rw [if_pos (by decide)]
  refine wpAny_bind (dl_sliceApplied hs ps ?_)
  have hno : ¬ ((((items.size : Int) - 1) == 0 && (-1 : Int) == 1 && items.size == items.size) = true) := by
    intro q
    rw [Bool.and_eq_true, Bool.and_eq_true] at q
    exact absurd q.1.2 (by decide)
  show wpAny _ _ (if (((items.size : Int) - 1) == 0 && (-1 : Int) == 1 && items.size == items.size) = true then _ else _) _ _ s
  rw [if_neg hno, dl_pick]
  first
    | exact wpAny_bind (m := Builtin.Tuple.tupleExact _) (wpAny_newObj_type (wpAny_pure ⟨_, rfl, wpAny_pure h⟩) htake)
    | exact wpAny_bind (m := Builtin.Tuple.tupleExact _) (wpAny_newObj_type (wpAny_bind (wpAny_pure (wpAny_pure ⟨_, rfl, wpAny_pure h⟩))) htake)
end
end HT
namespace DL
open PySem PySem.Spec PyProof.Rows L2
section
variable {X : Cx} {T : Tb}
def gListS : List D → Option D
  | [.list xs] => some (.list xs)
  | [.tuple xs] => some (.list xs)
  | _ => none
theorem cd_listS : CallD X T (.type "list") gListS := by
  intro pins s σ H vs us Q I rv h
  obtain ⟨G, ds, d, sub, nt, ha, hg, q⟩ := h
  unfold gListS at hg
  split at hg
  · obtain ⟨v, rfl, h⟩ := ha.one
    obtain ⟨p, xs, rfl, hp, ra⟩ := h.list sub
    cases hg
    exact call_list_of pins s σ H _ us Q I rv ⟨p, xs, rfl, .inl (SqL.of hp), fun l hl => newL sub nt hl ra q⟩
  · obtain ⟨v, rfl, h⟩ := ha.one
    obtain ⟨p, xs, rfl, hp, ra⟩ := h.tuple sub
    cases hg
    exact call_list_of pins s σ H _ us Q I rv ⟨p, xs, rfl, .inr (SqT.of hp), fun l hl => newL sub nt hl ra q⟩
  · cases hg
end
/-! ### list(range(n)) -/
def fLstR (fa : F) : F := fun ev st => (fa ev st).bind fun sv st1 => match sv with
  | .dat (.int j) => if -1000000 ≤ j ∧ j ≤ 1000000 then .ok (.dat (.list (upto 0 j.toNat))) st1 else .stuck
  | _ => .stuck
section
variable {X : Cx} {T : Tb} {δ : Dl} {E : XK} {a : Expr} {fa : F} {p p2 pos pos2 : Pos}
theorem rgV_upto {G : Hp} (n : Int) : RpA G (rgV 0 n) (upto 0 n.toNat) := by
  unfold rgV upto
  have e : (n - 0).toNat = n.toNat := by rw [Int.sub_zero]
  rw [e]
  induction List.range n.toNat with
  | nil => exact .nil
  | cons i r ih => exact .cons (.int _) ih
theorem de_listR (hc : X.calm = true) (hg : Gl X "list") (hm : X.mg "list" = none) (hg2 : Gl X "range") (hm2 : X.mg "range" = none) (ha : DE X T δ E a fa) (na : starEach [a] X.env = (false, eval a X.env) :: starEach [] X.env := by rfl)
    (na2 : starEach [.Call (.Name "range" p2) [a] [] pos2] X.env = (false, eval (.Call (.Name "range" p2) [a] [] pos2) X.env) :: starEach [] X.env := by rfl) : DE X T δ E (.Call (.Name "list" p) [.Call (.Name "range" p2) [a] [] pos2] [] pos) (fLstR fa) :=
  PE.imp (pe_listRg hc hg hm (prg_1 hg2 hm2 ha na) na2) fun σ H Q ⟨lk, G, ev, st, r, h⟩ =>
    goE (e := fun G H r => EndE X.K lk T δ E G H Q r) r h fun sa st1 v G1 H1 e1 f1 r1 x1 h1 => by
      split at h1
      · rename_i j
        split at h1
        · rename_i hl
          cases x1
          refine ⟨j, rfl, ⟨by omega, by omega, by omega, by omega, by omega⟩, fun q hq => ?_⟩
          exact newL r1.sub r1.nt hq (rgV_upto j) fun v G' H' f x => h1 v G' H' f.any (r1.di.fr f) x
        · exact h1.elim
      · exact h1.elim
/-! ### xs[::-1] -/
def gRev : D → Option D
  | .tuple xs => some (.tuple xs.reverse)
  | _ => none
def tRevT (K : PySem.W.Frag) (te : TE) : TE := fun σ H Q => te σ H fun x H1 => ∃ a xs, x = .ref a ∧ SqT K H1 a xs ∧ ∀ p, H1 p = none → Q (.ref p) (upd H1 p (.tup xs.reverse))
theorem pe_revT {e : Expr} {te : TE} {k : Nat} {p1 p2 p3 pos : Pos} (he : PE X e te) : PE X (.Subscript e (.Slice none none (some (.UnaryOp .USub (.Constant (.int 1) k p1) p2)) p3) pos) (tRevT X.K te) := by
  refine ⟨fun pins s σ H Q I h => ?_⟩
  refine Subscript_ (thn (he.run pins s σ H _ I h) fun v s1 ⟨x, H1, I1, r1, q1⟩ => ?_)
  obtain ⟨a, xs, ex, hx, q⟩ := q1
  subst ex
  cases r1
  have hst : PO X (some (.UnaryOp .USub (.Constant (.int 1) k p1) p2)) (tPart (tUn (rU fun i => .int (-i)) (tC (.int 1)))) := po_some (pe_un un_neg pe_int)
  refine wpAny_Slice (thn (po_none.run pins s1 σ H1 (fun o H2 => o = none ∧ H2 = H1) I1 ⟨rfl, rfl⟩) fun vl s2 ⟨l, H2, I2, pl, el, e2⟩ => ?_)
  subst el e2
  refine thn (po_none.run pins s2 σ H2 (fun o H3 => o = none ∧ H3 = H2) I2 ⟨rfl, rfl⟩) fun vu s3 ⟨u, H3, I3, pu, eu, e3⟩ => ?_
  subst eu e3
  refine thn (hst.run pins s3 σ H3 (fun o H4 => o = some (-1) ∧ H4 = H3) I3 ⟨1, rfl, -1, rfl, rfl, rfl⟩) fun vs s4 ⟨o, H4, I4, ps, eo, e4⟩ => ?_
  subst eo e4
  cases pl
  cases pu
  have I5 : Inv X pins σ H4 { s4 with heap := s4.heap.push { cls := .type "slice", data := .fields #[.none, .none, vs] } } := I4.kept (t' := s4.toks) fun b ob q => Heap.get?_push_of_some _ q
  obtain ⟨its, r, ht, hz⟩ := I5.tuple hx
  have hlen := r.length
  show wpAny (model X.prog X.w) X.A (subscriptTail e (.Slice none none (some (.UnaryOp .USub (.Constant (.int 1) k p1) p2)) p3) (.ref a) (.ref s4.heap.objs.size)) (EP X pins σ Q) X.xe { s4 with heap := s4.heap.push { cls := .type "slice", data := .fields #[.none, .none, vs] } }
  refine tail_any (ops := [.ref a, .ref s4.heap.objs.size]) ht.typeIs (PyProof.Rows.slot_tuple_getitem.lookup) ?_ (by with_unfolding_all rfl)
  refine HT.dl_getItem_tuple_rev ht (Heap.IsSliceOf.new _ .none .none vs) ps ?_ (by rw [List.size_toArray]; omega)
  refine ⟨.ref _, _, I5.laid (t' := s4.toks) (o := .tup xs.reverse) (fun b ob q => Heap.get?_push_of_some _ q) (Nat.le_refl _) ?_, rfl, q _ (I5.hok.fresh (Nat.le_refl _))⟩
  exact ⟨by rw [List.length_reverse]; exact hz, _, r.reverse, IsTup.new _ _⟩
theorem RpA.rev {G : Hp} : ∀ {vs : List V} {ds : List D}, RpA G vs ds → RpA G vs.reverse ds.reverse
  | _, _, .nil => .nil
  | _, _, .cons h r => by
    rw [List.reverse_cons, List.reverse_cons]
    exact (RpA.rev r).app (.cons h .nil)
theorem de_revT {k : Nat} {p1 p2 p3 : Pos} (ha : DE X T δ E a fa) : DE X T δ E (.Subscript a (.Slice none none (some (.UnaryOp .USub (.Constant (.int 1) k p1) p2)) p3) pos) (fOp1 gRev fa) :=
  PE.imp (pe_revT ha) fun σ H Q ⟨lk, G, ev, st, r, h⟩ => goE (e := fun G H r => EndE X.K lk T δ E G H Q r) r h fun sa st1 v G1 H1 e1 f1 r1 x1 h1 => by
    obtain ⟨a, d, e2, e3, h2⟩ := of1_some h1
    have hr := x1.rd e2
    unfold gRev at e3
    split at e3
    · obtain ⟨p, xs, rfl, hp, ra⟩ := hr.tuple r1.sub
      cases e3
      exact ⟨p, xs, rfl, SqT.of hp, fun q hq => newT r1.sub r1.nt hq ra.rev fun v G' H' f x => h2 v G' H' f.any (r1.di.fr f) x⟩
    · cases e3
end
end DL

set_option maxHeartbeats 4000000
/-! sorted(x) of a tuple or a list of ints -/
namespace HT
open PySem PySem.Spec PyProof.Rows L2 SrtO
section
variable {prog : Program} {w : World} {A : Around} {E : Value → Shared → Prop} {s : Shared}
theorem dl_collect_tuple {l : Addr} {vs : List Value} {Q : List Value → Shared → Prop} (hl : IsTup s.heap l vs.toArray)
    (h : Q vs { s with heap := (s.heap.push (seqObj "list" #[] 0)).update s.heap.objs.size (Obj.mapSeq (· ++ vs.toArray)) }) (hsz : vs.length ≤ sizeLine) :
    wpAny (model prog w) A (collect (.ref l)) Q E s := by
  obtain ⟨o, ho, hc, n, hd⟩ := id hl
  unfold collect
  refine wpAny_bind (wpAny_runValue (codeAny_builtin entry_proto_collect' ?_))
  show wpAny _ _ (do again (.builtin "list.__iadd__" ⟨[← newList [], .ref l], []⟩)) _ _ s
  refine wpAny_bind (wpAny_newList (wpAny_pure ⟨Code.quiet_builtin _ (by decide +kernel), codeAny_builtin entry_list_iadd' ?_⟩))
  show wpAny _ _ (Builtin.List.listExtendWith (.ref s.heap.objs.size) (.ref l) (.ref s.heap.objs.size)) _ _ { s with heap := s.heap.push (seqObj "list" #[] 0) }
  unfold Builtin.List.listExtendWith
  have ho' : (s.heap.push (seqObj "list" #[] 0)).get? l = some o := Heap.get?_push_of_some _ ho
  refine wpAny_bind (wpAny_typeOf (T := "tuple") ⟨o, ho', hc⟩ ?_)
  have ht : (Value.type "tuple" == Value.type "tuple") = true := by rfl
  rw [if_pos (by rw [ht]; simp)]
  refine wpAny_bind (listItems_at ho' hd ?_)
  refine wpAny_bind (listItems_at (xs := #[]) (n := 0) (Heap.get?_push_size _ rfl) rfl ?_)
  rw [if_neg (by simp)]
  refine wpAny_bind (listUpdate_at (xs := #[]) (n := 0) (Heap.get?_push_size _ rfl) rfl ?_ (Nat.zero_le _) (by show (#[] ++ vs.toArray).size ≤ sizeLine + 1; simp only [Array.size_append, List.size_toArray, List.length_nil]; omega))
  refine wpAny_pure ?_
  show wpAny (model prog w) A (do
      let o ← load s.heap.objs.size
      match o.data with
      | .seq xs _ => pure xs.toList
      | _ => unsupported "internal:collect") Q E { s with heap := (s.heap.push (seqObj "list" #[] 0)).update s.heap.objs.size (Obj.mapSeq (· ++ vs.toArray)) }
  refine wpAny_bind (wpAny_load (get?_update_seq (Heap.get?_push_size _ rfl) _) ?_)
  show wpAny _ _ (pure ((#[] : Array Value) ++ vs.toArray).toList) Q E _
  rw [show ((#[] : Array Value) ++ vs.toArray).toList = vs by simp]
  exact wpAny_pure h
theorem dl_sorted_tuple {l : Addr} {vs : List Value} {ltv : Value → Value → Bool} {Q : Value → Shared → Prop} (O : Swo ltv) (hl : IsTup s.heap l vs.toArray) (hz : vs.length ≤ sizeLine)
    (hS : 2 ≤ vs.length → ∀ (h₁ : Heap) (a : Addr), h₁.get? a = some (seqObj "list" vs.toArray 0) → (∀ b o, s.heap.get? b = some o → b ≠ a ∧ h₁.get? b = some o) → SortableO prog w A.in1.in1 { s with heap := h₁ } a vs ltv)
    (h : ∀ out : List Value, Srtd ltv out → Stb ltv out vs → Q (.ref (s.heap.objs.size + 1)) { s with heap := sortedAll s.heap vs out.toArray }) :
    wpAny (model prog w) A (call (.builtin "sorted") [.ref l]) Q E s := by
  refine Calls.call_function_entry kind_sorted plain_sorted entry_sorted (args_sorted1 _) ?_
  unfold Builtin.«sorted»
  refine wpAny_bind (m := checkCount "sorted" 1 1 _) (wpAny_pure ?_)
  refine wpAny_bind (dl_collect_tuple hl ?_ hz)
  refine wpAny_bind (wpAny_newList ?_ hz)
  have hsz : ((s.heap.push (seqObj "list" #[] 0)).update s.heap.objs.size (Obj.mapSeq (· ++ vs.toArray))).objs.size = s.heap.objs.size + 1 := by
    rw [Heap.size_update, size_push']
  have hoL : (((s.heap.push (seqObj "list" #[] 0)).update s.heap.objs.size (Obj.mapSeq (· ++ vs.toArray))).push (seqObj "list" vs.toArray 0)).get? (s.heap.objs.size + 1) = some (seqObj "list" vs.toArray 0) := by
    rw [← hsz]; exact Heap.get?_push_size _ rfl
  have keep : ∀ b o, s.heap.get? b = some o → b ≠ s.heap.objs.size + 1 ∧ (((s.heap.push (seqObj "list" #[] 0)).update s.heap.objs.size (Obj.mapSeq (· ++ vs.toArray))).push (seqObj "list" vs.toArray 0)).get? b = some o := fun b o q => by
    have hlt : b < s.heap.objs.size := Heap.lt_size q
    refine ⟨Nat.ne_of_lt (Nat.lt_succ_of_lt hlt), Heap.get?_push_of_some _ ?_⟩
    rw [Heap.get?_update_ne _ _ _ _ (Nat.ne_of_lt hlt)]
    exact Heap.get?_push_of_some _ q
  show wpAny _ _ _ _ _ { s with heap := ((s.heap.push (seqObj "list" #[] 0)).update s.heap.objs.size (Obj.mapSeq (· ++ vs.toArray))).push (seqObj "list" vs.toArray 0) }
  rw [hsz]
  refine wpAny_bind (wpAny_holding (wpAny_call_entry slot_list_sort ⟨_, hoL, rfl⟩ entry_list_sort (list_sort_ord O hoL hz (fun h2 => hS h2 _ _ hoL keep) fun out hs hb => ⟨_, rfl, ?_⟩) (args_list_sort _)))
  exact wpAny_pure ⟨_, rfl, h out hs hb⟩
end
end HT
namespace L2
open PySem PySem.Spec PyProof.Rows
theorem dl_cr_sortedT {X : Cx} : CallR X (.builtin "sorted") (fun vs H Q => ∃ (a : Addr) (ns : List Int), vs = [V.ref a] ∧ SqT X.K H a (ns.map V.int) ∧
    ∀ (ns' : List Int) (p : Addr), ns'.Perm ns → ns'.Pairwise (· ≤ ·) → H p = none → Q (.ref p) (upd H p (.lst (ns'.map V.int)))) := by
  intro pins s σ H vs us Q I r h
  obtain ⟨a, ns, rfl, hs, q⟩ := h
  obtain ⟨its, rv, hl, hz⟩ := I.tuple hs
  rw [Vals.ref1 r]
  have hi := rv.ints
  refine HT.dl_sorted_tuple SrtO.swo_int hl (by rw [← rv.length]; exact hz) (fun h2 h₁ a' _ _ => SrtO.ints_sortable hi h2) fun out h1 h2 => ?_
  obtain ⟨k1, k2, k3⟩ := SrtO.ints_out hi h1 h2
  obtain ⟨ep, he'⟩ := PyProof.Rows.sortedAll_at s.heap its out.toArray
  have hlen : ((out.map SrtO.iv).map V.int).length ≤ sizeLine := by
    rw [List.length_map, k2.length_eq]
    rw [List.length_map] at hz
    exact hz
  exact ⟨.ref _, upd H (s.heap.objs.size + 1) (.lst ((out.map SrtO.iv).map V.int)), I.laid (t' := s.toks) (fun _ _ => PyProof.Rows.sortedAll_old) (Nat.le_succ _) ⟨hlen, out, ep, vals_of_ints k1, he'⟩, rfl, q _ _ k2 k3 (I.hok.fresh (Nat.le_succ _))⟩
end L2
namespace DL
open PySem PySem.Spec PyProof.Rows L2
def insI (x : Int) : List Int → List Int
  | [] => [x]
  | y :: r => if x ≤ y then x :: y :: r else y :: insI x r
def srtI : List Int → List Int
  | [] => []
  | x :: r => insI x (srtI r)
theorem insI_perm (x : Int) : ∀ l : List Int, (insI x l).Perm (x :: l)
  | [] => .refl _
  | y :: r => by
    unfold insI
    split
    · exact .refl _
    · exact ((insI_perm x r).cons y).trans (.swap x y r)
theorem srtI_perm : ∀ l : List Int, (srtI l).Perm l
  | [] => .refl _
  | x :: r => (insI_perm x _).trans ((srtI_perm r).cons x)
theorem insI_sorted (x : Int) : ∀ {l : List Int}, l.Pairwise (· ≤ ·) → (insI x l).Pairwise (· ≤ ·)
  | [], _ => List.pairwise_singleton _ _
  | y :: r, h => by
    obtain ⟨h1, h2⟩ := List.pairwise_cons.mp h
    unfold insI
    split
    · rename_i hx
      refine List.pairwise_cons.mpr ⟨fun z hz => ?_, h⟩
      rcases List.mem_cons.mp hz with e | e
      · rw [e]; exact hx
      · exact Int.le_trans hx (h1 z e)
    · rename_i hx
      refine List.pairwise_cons.mpr ⟨fun z hz => ?_, insI_sorted x h2⟩
      rcases List.mem_cons.mp ((insI_perm x r).mem_iff.mp hz) with e | e
      · rw [e]; omega
      · exact h1 z e
theorem srtI_sorted : ∀ l : List Int, (srtI l).Pairwise (· ≤ ·)
  | [] => .nil
  | x :: r => insI_sorted x (srtI_sorted r)
theorem sorted_uniq : ∀ {a b : List Int}, a.Perm b → a.Pairwise (· ≤ ·) → b.Pairwise (· ≤ ·) → a = b
  | [], b, p, _, _ => (List.Perm.nil_eq p)
  | x :: r, [], p, _, _ => absurd p.length_eq (by simp)
  | x :: r, y :: t, p, ha, hb => by
    obtain ⟨a1, a2⟩ := List.pairwise_cons.mp ha
    obtain ⟨b1, b2⟩ := List.pairwise_cons.mp hb
    have hx : x = y := by
      have h1 : y ≤ x := by
        rcases List.mem_cons.mp (p.mem_iff.mp List.mem_cons_self) with e | e
        · omega
        · exact b1 x e
      have h2 : x ≤ y := by
        rcases List.mem_cons.mp (p.mem_iff.mpr List.mem_cons_self) with e | e
        · omega
        · exact a1 y e
      omega
    subst hx
    rw [sorted_uniq (List.Perm.cons_inv p) a2 b2]
theorem srtI_self {l : List Int} (h : l.Pairwise (· ≤ ·)) : srtI l = l := sorted_uniq (srtI_perm l) (srtI_sorted l) h
def gSorted : List D → Option D
  | [.list xs] => (intsOf xs).map fun is => .list ((srtI is).map PyData.int)
  | [.tuple xs] => (intsOf xs).map fun is => .list ((srtI is).map PyData.int)
  | _ => none
theorem cd_sorted {X : Cx} {T : Tb} (hc : X.calm = true) : CallD X T (.builtin "sorted") gSorted := by
  intro pins s σ H vs us Q I rv h
  obtain ⟨G, ds, d, sub, nt, ha, hg, q⟩ := h
  unfold gSorted at hg
  split at hg
  · obtain ⟨is, e1, e2⟩ := Option.map_eq_some_iff.mp hg
    obtain ⟨v, rfl, h⟩ := ha.one
    obtain ⟨a, xs, rfl, hp, ra⟩ := h.list sub
    subst e2
    rw [intsOf_eq e1] at ra
    rw [ra.ints] at hp
    refine cr_sortedI pins s σ H _ us Q I rv ⟨a, is, rfl, SqL.of hp, fun ns' p p1 p2 hl => ?_⟩
    rw [sorted_uniq (p1.trans (srtI_perm is).symm) p2 (srtI_sorted is)]
    exact newL sub nt hl (rpA_ints _) q
  · obtain ⟨is, e1, e2⟩ := Option.map_eq_some_iff.mp hg
    obtain ⟨v, rfl, h⟩ := ha.one
    obtain ⟨a, xs, rfl, hp, ra⟩ := h.tuple sub
    subst e2
    rw [intsOf_eq e1] at ra
    rw [ra.ints] at hp
    refine dl_cr_sortedT pins s σ H _ us Q I rv ⟨a, is, rfl, SqT.of hp, fun ns' p p1 p2 hl => ?_⟩
    rw [sorted_uniq (p1.trans (srtI_perm is).symm) p2 (srtI_sorted is)]
    exact newL sub nt hl (rpA_ints _) q
  · cases hg
end DL

set_option maxHeartbeats 4000000
/-! comprehensions whose element may raise -/
namespace DL
open PySem PySem.Spec PyProof.Rows L2
/-- an exception in the air; L the frame that may have noted it -/
def XEL (X : Cx) (L : Addr) (E : XK) (u : Value) (s' : Shared) : Prop :=
  ∃ (a : Addr) (B : Heap) (sI : Shared) (pins : List (Addr × Obj)) (σ : L2.St) (H : Hp) (cls : Value) (d : Option Addr),
    u = .ref a ∧ Inv X pins σ H sI ∧ (∀ b o, sI.heap.get? b = some o → b ∉ frs X.stack → B.get? b = some o) ∧ sI.heap.UpToSlots s'.heap ∧
      Sky B X.stack a (L2N.Zn cls d) L s'.heap ∧ H a = none ∧ s'.os = sI.os ∧ AllBare s'.gens ∧ E cls d H
/-- .. and the comprehension's names at C -/
def XEC (X : Cx) (L C : Addr) (E : XK) (u : Value) (s' : Shared) : Prop :=
  ∃ (a : Addr) (B : Heap) (sI : Shared) (pins : List (Addr × Obj)) (σ : L2.St) (H : Hp) (cls : Value) (d : Option Addr) (m : Str → Option Value),
    u = .ref a ∧ Inv X pins σ H sI ∧ (∀ b o, sI.heap.get? b = some o → b ∉ frs X.stack → B.get? b = some o) ∧ sI.heap.UpToSlots s'.heap ∧
      Sky B X.stack a (L2N.Zn cls d) L s'.heap ∧ H a = none ∧ s'.os = sI.os ∧ AllBare s'.gens ∧ E cls d H ∧ FpOk X pins H C ∧ sI.heap.Ns C m
structure Lets (X : Cx) (L : Addr) (E : XK) : Prop where
  fr : X.env.frame = some L
  st : ∃ e0 l0, X.stack = e0 :: l0 ∧ e0.frame = some L
  go : ∀ u s', XEL X L E u s' → X.xe u s'
theorem lets_of {X : Cx} {E : XK} (hs : X.stack = X.env :: X.outer) (hf : X.env.frame = some X.env.locals) (tk : L2N.Takes X fun cls d _ H => E cls d H) : Lets X X.env.locals E :=
  ⟨hf, ⟨_, _, hs, hf⟩, fun u s' h => tk u s' h⟩
theorem note_any {v : Value} {e1 e2 : Env} (h : e1.frame = e2.frame) : noteFrame v e1 = noteFrame v e2 := by
  unfold noteFrame PySem.frameOf
  rw [h]
theorem Lets.passes {X : Cx} {L : Addr} {E : XK} (le : Lets X L E) : Passes (L2N.CX X.prog X.w) X E := fun pins σ H s u s' I c => le.go u s' (by
  obtain ⟨a, B, H', cls, d, rfl, fl, hok, ub, na, os, ag, hE⟩ := c
  obtain ⟨G, g1, g2⟩ := restrict s'.heap fun b => (B.get? b).isSome || decide (b ∈ frs X.stack)
  have st : B.StaysIn s'.heap := fl.1
  have gB : ∀ b o, B.get? b = some o → G.get? b = some o := fun b o e => by
    rw [g1 b (by simp [e])]
    exact st b o e
  have gF : ∀ b, b ∈ frs X.stack → G.get? b = s'.heap.get? b := fun b hb => g1 b (by simp [hb])
  have og : ∀ b o, G.get? b = some o → s'.heap.get? b = some o ∧ ((B.get? b).isSome = true ∨ b ∈ frs X.stack) := fun b o e => by
    cases q : ((B.get? b).isSome || decide (b ∈ frs X.stack)) with
    | false => rw [g2 b q] at e; cases e
    | true =>
      rw [g1 b q] at e
      exact ⟨e, by simpa [Bool.or_eq_true] using q⟩
  refine ⟨a, B, { s with heap := G, gens := s'.gens, drawn := s'.drawn, toks := s'.toks }, pins, σ, H', cls, d, rfl, ?_, fun b o e hb => ?_, Heap.UpToSlots.of_keeps fun b o e => (og b o e).1, .inr (.inl fl), na, os, ag, hE⟩
  · refine I.call (ch := []) ⟨fun b o e n hb _ => gB b o (ub.keep b o e n hb), fun b o e n hb _ => ?_, fun b o e n _ => ub.free b o e n, fun b o e _ => ?_, ub.tups, ub.frzs, ub.tbls⟩ (hok.kept gB) ag (fun _ z => nomatch z)
    · obtain ⟨sl, q⟩ := ub.slot b o e hb
      exact ⟨sl, by rw [gF b hb]; exact q⟩
    · by_cases hb : b ∈ frs X.stack
      · obtain ⟨sl, q⟩ := ub.slot b o e hb
        exact ⟨_, by rw [gF b hb]; exact q⟩
      · obtain ⟨o', q⟩ := ub.there b o e hb
        exact ⟨o', gB b o' q⟩
  · obtain ⟨e', h⟩ := og b o e
    rcases h with h | h
    · obtain ⟨o', q⟩ := Option.isSome_iff_exists.mp h
      have z := st b o' q
      rw [e'] at z; cases z
      exact q
    · exact absurd h hb)
/-- out of a comprehension: noted, its names let go, on -/
theorem comp_fails {X : Cx} {L C : Addr} {E : XK} {ce : Env} {E1 : Value → Shared → Prop} (le : Lets X L E) (hce : ce.frame = some L) (hC : ce.locals = C) {u : Value} {s' : Shared} (x : XEC X L C E u s') :
    wpAny (model X.prog X.w) X.A (noteFrame u ce) (fun _ s'' => CompFails (model X.prog X.w) X.A X.xe ce u s'') E1 s' := by
  obtain ⟨a, B, sI, pins, σ, H, cls, d, m, rfl, I, nb, up, sky, na, os, ag, hE, fC, hn⟩ := x
  obtain ⟨e0, l0, hst, hf0⟩ := le.st
  have hfr : X.A.frames = some (e0 :: l0) := by rw [I.ok.frames, hst]
  have hCf : C ∉ frs X.stack := fun hm => by
    rcases List.mem_cons.mp (I.stkSub C hm) with z | z
    · exact fC.2.1 z
    · exact fC.2.2.1 z
  obtain ⟨od, es, ep, hod, hdd, hsk, hnf⟩ := id hn
  have hBC : B.get? C = some od := nb C od hod hCf
  have fin : ∀ h1, HandSPX.HeldZ B (e0 :: l0) a (L2N.Zn cls d) L h1 → s'.heap.UpToSlots h1 → CompFails (model X.prog X.w) X.A X.xe ce (.ref a) { s' with heap := h1 } := fun h1 hh up1 => by
    obtain ⟨k1, k2, k3, k4⟩ := hh
    refine ⟨m, ?_, fun h' m' hn' hsb => ?_⟩
    · rw [hC]; exact ⟨od, es, ep, k1 C od hBC, hdd, hsk, hnf⟩
    rw [hC] at hn' hsb
    obtain ⟨od', es', ep', hod', hdd', _, _⟩ := id hn'
    have hnfr : od'.isFreed = false := by
      obtain ⟨c, dd, dt, sl⟩ := od'
      simp only at hdd'
      subst hdd'; rfl
    have haC : a ≠ C := fun z => by rw [z, hBC] at k2; cases k2
    obtain ⟨oe, vs, T, oT, ts, he, hz, hd, h1e, hnT, hTe, hT, hdT, h3⟩ := k4
    have hTC : T ≠ C := fun z => by rw [z, hBC] at hnT; cases hnT
    -- the state without it, the names let go
    have gI : (sI.heap.update C fun _ => od').get? C = some od' := Heap.get?_update_self _ hod hnfr
    have gI2 : ∀ b, b ≠ C → (sI.heap.update C fun _ => od').get? b = sI.heap.get? b := fun b hb => Heap.get?_update_other _ _ (Ne.symm hb)
    have gB : (B.update C fun _ => od').get? C = some od' := Heap.get?_update_self _ hBC hnfr
    have gB2 : ∀ b, b ≠ C → (B.update C fun _ => od').get? b = B.get? b := fun b hb => Heap.get?_update_other _ _ (Ne.symm hb)
    have sb2 : ∀ b, b ≠ C → h'.get? b = h1.get? b := hsb.2
    obtain ⟨f0, f1, f2, f3, f4, f5⟩ := fC
    have I' : Inv X pins σ H { sI with heap := sI.heap.update C fun _ => od', toks := sI.toks } := I.turned (fun b o hb z => (gI2 b hb).trans z) f0 f1 f3 f4 f5
    have st' : (B.update C fun _ => od').StaysIn h' := fun b o z => by
      by_cases hb : b = C
      · rw [hb, gB] at z; rw [hb, hod']; exact z
      · rw [gB2 b hb] at z; rw [sb2 b hb]; exact k1 b o z
    have ff : h'.FunFrames (B.update C fun _ => od') (e0 :: l0) := by
      refine funFrames_none (Heap.FunFrames.sameBut hsb hn' k3) fun b hb => ?_
      have hbC : b ≠ C := fun z => hCf (by rw [hst, ← z]; exact hb)
      rw [gB2 b hbC]
      exact (k3.mem hb).1
    have tr : HandSPX.TracedZ h' (B.update C fun _ => od') a (L2N.Zn cls d) (rawInt L) :=
      ⟨oe, vs, T, oT, ts, by rw [sb2 a haC]; exact he, hz, hd, h1e, by rw [gB2 T hTC]; exact hnT, hTe, by rw [sb2 T hTC]; exact hT, hdT, h3⟩
    have hup : (sI.heap.update C fun _ => od').UpToSlots h' := fun b o z hnfi => by
      by_cases hb : b = C
      · rw [hb, gI] at z; cases z
        exact ⟨od'.slots, by rw [hb]; exact hod'⟩
      · rw [gI2 b hb] at z
        rw [sb2 b hb]
        exact (up.trans up1) b o z hnfi
    unfold PySem.passOn
    refine wpAny_bind (wpAny_field (s := { s' with heap := h' }) (by show h'.get? a = some oe; rw [sb2 a haC]; exact he) hd h1e ?_)
    show wpAny _ _ (if (Value.ref T == Value.none) = true then _ else _) _ _ _
    rw [if_neg (by simp)]
    refine wpAny_bind ?_
    rw [hce]
    refine HandSPX.setFlight_anyZ (base := B.update C fun _ => od') (l := e0 :: l0) (Z := L2N.Zn cls d) st' ff tr fun h2 j1 j2 j3 j4 => wpAny_throw (le.go _ _ ?_)
    refine ⟨a, B.update C fun _ => od', _, pins, σ, H, cls, d, rfl, I', fun b o z hb => ?_, hup.trans j4, .inr (.inr ?_), na, os, ag, hE⟩
    · have z : (sI.heap.update C fun _ => od').get? b = some o := z
      by_cases hbC : b = C
      · rw [hbC, gI] at z; rw [hbC, gB]; exact z
      · rw [gI2 b hbC] at z; rw [gB2 b hbC]; exact nb b o z hb
    · rw [hst]
      exact ⟨j1, by rw [gB2 a haC]; exact k2, j2, j3⟩
  rw [note_any (show ce.frame = e0.frame by rw [hce, hf0])]
  rw [hst] at sky
  rcases sky with ⟨hB, hn0, hl, oe, vs, he, hz, hd, h1⟩ | fl | hh
  · exact PXN.look_newZ L2N.Zn.steady hfr hl hf0 he hB hn0 hd h1 hz fin
  · exact PXN.looks_onZ L2N.Zn.steady hfr hf0 fl fin
  · exact HandSPX.againZ hf0 hh.2.2.2 (fin s'.heap hh (Heap.UpToSlots.refl _))
end DL
namespace DL
open PySem PySem.Spec PyProof.Rows L2
/-- in a comprehension's block, in a world that takes E -/
abbrev blkX (X : Cx) (s : Shared) (H : Hp) (scope : Scope) (cenv : Env) (fp : List Addr) (xe : Value → Shared → Prop) : Cx := { X.blk s H scope cenv fp with xe := xe }
theorem blkX_inv {X : Cx} {s : Shared} {H : Hp} {scope : Scope} {cenv : Env} {fp : List Addr} {xe : Value → Shared → Prop} {pins : List (Addr × Obj)} {σ : L2.St} {H' : Hp} {s' : Shared} :
    Inv (X.blk s H scope cenv fp) pins σ H' s' → Inv (blkX X s H scope cenv fp xe) pins σ H' s' := fun I =>
  ⟨⟨I.ok.mod, I.ok.kind, I.ok.glob, I.ok.blt, I.ok.above, I.ok.inj, I.ok.has, I.ok.cab, I.ok.hd, I.ok.frames, I.ok.stk, I.ok.exf, I.ok.bs, I.ok.bsz, I.ok.noex, I.ok.exfs, I.ok.funs, I.ok.frf⟩, I.os, I.bare, I.base, I.loc, I.cell, I.free, I.freeC, I.pin, I.hok, I.len⟩
theorem inv_blkX {X : Cx} {s : Shared} {H : Hp} {scope : Scope} {cenv : Env} {fp : List Addr} {xe : Value → Shared → Prop} {pins : List (Addr × Obj)} {σ : L2.St} {H' : Hp} {s' : Shared} :
    Inv (blkX X s H scope cenv fp xe) pins σ H' s' → Inv (X.blk s H scope cenv fp) pins σ H' s' := fun I =>
  ⟨⟨I.ok.mod, I.ok.kind, I.ok.glob, I.ok.blt, I.ok.above, I.ok.inj, I.ok.has, I.ok.cab, I.ok.hd, I.ok.frames, I.ok.stk, I.ok.exf, I.ok.bs, I.ok.bsz, I.ok.noex, I.ok.exfs, I.ok.funs, I.ok.frf⟩, I.os, I.bare, I.base, I.loc, I.cell, I.free, I.freeC, I.pin, I.hok, I.len⟩
section
variable {X : Cx}
theorem pe_lcX {L : Addr} {E : XK} {elt tg iter : Expr} {scope : Scope} {own : List (Str × Nat)} {pos : Pos} {wi : TI} {g : TG} {te : TE} (le : Lets X L E) (hc : X.calm = true) (hN : X.N.Nodup) (hi : PI X tg iter wi) (ok : BlkOk X.N X.env.scope scope own)
    (hg : ∀ (s : Shared) (H : Hp) (C : Addr) (cl : List (Str × Addr)) (fp : List Addr), PG (X.blk s H scope (compEnvC scope cl C X.env) fp) tg g)
    (he : ∀ (s : Shared) (H : Hp) (C : Addr) (cl : List (Str × Addr)) (fp : List Addr) (xe : Value → Shared → Prop), Lets (blkX X s H scope (compEnvC scope cl C X.env) fp xe) L E → PE (blkX X s H scope (compEnvC scope cl C X.env) fp xe) elt te)
    (hs : ∀ x, foldedSetIterable iter X.env x = pure x := by intro _; rfl) : PE X (.ListComp elt [⟨tg, iter, [], 0⟩] scope pos) (tLc wi g tYes te (own.map (·.2))) := by
  refine ⟨fun pins s σ H Q I h => ?_⟩
  rw [eval_ListComp]
  have hfree : ∀ y ∈ scope.names, y.2 = .free → ∃ c, X.env.cells.lookup y.1 = some c := fun y hy e => (ok.free y hy e).elim (fun k => I.ok.has _ (.inl k)) fun k => I.ok.has _ (.inr k)
  refine comprehension_at (use := none) rfl hs (closure_ok hfree) ok.kind (fun y hy e => by rw [ok.uniq y hy, e])
    (thn (hi.run pins s σ H _ I h) fun xv s1 hx => thn hx fun itv s2 h2 => ?_)
  obtain ⟨it, fp, tn, J, H2, e, I2, T, st2, f2, q⟩ := h2
  subst e
  refine wpAny_newObj_type (newEnv_comp ?_) (by show 0 ≤ sizeLine; decide)
  generalize hD : s2.heap.objs.size = D
  have hDn : H2 D = none := I2.hok.fresh (Nat.le_of_eq hD)
  obtain ⟨W, ⟨m0, w0⟩, turn⟩ := q D hDn
  generalize hs3 : ({ s2 with heap := s2.heap.push { cls := .type "list", data := .seq ([] : List Value).toArray } } : Shared) = s3
  have I3 : Inv X pins σ (upd H2 D (.lst [])) s3 := by
    rw [← hs3]
    refine I2.laid (t' := s2.toks) (fun b o e => Heap.get?_push_of_some _ e) (Nat.le_of_eq hD) ⟨Nat.zero_le _, [], 0, .nil, ?_⟩
    rw [← hD]
    exact Heap.get?_push_size _ rfl
  have h3 : s3.heap = s2.heap.push { cls := .type "list", data := .seq ([] : List Value).toArray } := by rw [← hs3]
  have sz : ∀ b ∈ fp, b < s2.heap.objs.size := fun b hb => by
    obtain ⟨o, e, _⟩ := T.obj _ _ st2 b hb
    exact Heap.lt_size e
  have f3 : ∀ b ∈ fp, FpOk X pins (upd H2 D (.lst [])) b ∧ b < s3.heap.objs.size := fun b hb => by
    have hlt := sz b hb
    refine ⟨⟨?_, (f2 b hb).2⟩, by rw [h3, Heap.size_push]; exact Nat.lt_succ_of_lt hlt⟩
    rw [upd_ne (by rw [← hD]; exact Nat.ne_of_lt hlt)]
    exact (f2 b hb).1
  have st3 : tn 0 s3.heap := T.keep _ _ _ st2 fun b _ o e => by rw [h3]; exact Heap.get?_push_of_some _ e
  have I4 := block_start I3 ok hN f3
  have pg := hg s3 (upd H2 D (.lst [])) s3.heap.objs.size (cellsFrom (s3.heap.objs.size + 1) scope.names (cloFrom X.env.cells scope.names [])) fp
  have pe := he s3 (upd H2 D (.lst [])) s3.heap.objs.size (cellsFrom (s3.heap.objs.size + 1) scope.names (cloFrom X.env.cells scope.names [])) fp
  have hcf : (compEnvC scope (cellsFrom (s3.heap.objs.size + 1) scope.names (cloFrom X.env.cells scope.names [])) s3.heap.objs.size X.env).frame = some L := le.fr
  show codeAny _ _ (.compStart (.ListComp elt [⟨tg, iter, [], 0⟩] scope pos) 0 (.ref it) (.ref D) (compEnvC scope (cellsFrom (s3.heap.objs.size + 1) scope.names (cloFrom X.env.cells scope.names [])) s3.heap.objs.size X.env)) (compEnds (model X.prog X.w) X.A X.xe none (EP X pins σ Q) (.ref D) (compEnvC scope (cellsFrom (s3.heap.objs.size + 1) scope.names (cloFrom X.env.cells scope.names [])) s3.heap.objs.size X.env)) { s3 with heap := pushCells (s3.heap.push { cls := .type "dict", data := .dict #[] }) scope.names }
  have nfp : ∀ b ∈ fp, (upd H2 D (.lst [])) b = none := fun b hb => (f3 b hb).1.1
  generalize hce : compEnvC scope (cellsFrom (s3.heap.objs.size + 1) scope.names (cloFrom X.env.cells scope.names [])) s3.heap.objs.size X.env = ce at I4 pg pe hcf ⊢
  have cL : ce.locals = s3.heap.objs.size := by subst hce; rfl
  generalize hH3 : upd H2 D (.lst []) = H3 at I3 I4 pg pe w0 nfp f3
  generalize hs4 : ({ s3 with heap := pushCells (s3.heap.push { cls := .type "dict", data := .dict #[] }) scope.names } : Shared) = s4 at I4 ⊢
  have st4 : tn 0 s4.heap := T.keep _ _ _ st3 fun b _ o e => by rw [← hs4]; exact pushCells_keeps _ _ _ _ (Heap.get?_push_of_some _ e)
  have back : ∀ {pins' : List (Addr × Obj)} {σ' : L2.St} {H' : Hp} {s' : Shared}, Inv (X.blk s3 H3 scope ce fp) pins' σ' H' s' → Inv X pins σ H' s' ∧ FpOk X pins H' s3.heap.objs.size ∧ ∃ m, s'.heap.Ns s3.heap.objs.size m := fun {pins' σ' H' s'} I6 => by
    have I7 : Inv X pins σ H' s' := I3.call' (ch := fp) I6.os I6.base I6.hok I6.bare fun b hb => ⟨(f3 b hb).1.2.2.2.1, (f3 b hb).1.2.1, (f3 b hb).1.2.2.2.2.1, (f3 b hb).1.2.2.2.2.2⟩
    have nC : H' s3.heap.objs.size = none := by
      have z : H' ce.locals = none := I6.free
      rw [cL] at z
      exact z
    obtain ⟨m, hn, _⟩ := I6.loc
    have hn : s'.heap.Ns ce.locals m := hn
    rw [cL] at hn
    exact ⟨I7, I3.fpOk (Nat.le_refl _) nC, m, hn⟩
  have lb : Lets (blkX X s3 H3 scope ce fp (XEC X L s3.heap.objs.size E)) L E := ⟨hcf, le.st, fun u s' x => by
    obtain ⟨a, B, sI, pins', σ', H', cls, d, eu, I', nb, up, sky, na, os, ag, hE⟩ := x
    obtain ⟨i1, i2, m, i3⟩ := back (inv_blkX I')
    exact ⟨a, B, sI, pins, σ, H', cls, d, m, eu, i1, nb, up, sky, na, os, ag, hE, i2, i3⟩⟩
  have pe := pe (XEC X L s3.heap.objs.size E) lb
  have stat : ∀ {σ' : L2.St} {H' : Hp} {s' : Shared}, Inv (X.blk s3 H3 scope ce fp) [] σ' H' s' → (∀ b ∈ fp, H' b = none) → ∀ b ∈ fp, FpOk (X.blk s3 H3 scope ce fp) [] H' b := fun {σ' H' s'} I' hn b hb =>
    ⟨hn b hb, (I'.ok.exf b hb).1, I'.ok.exfs b hb, .inl hb, fun x c e => (I'.ok.exf b hb).2 x c e, fun p hp => absurd (show p ∈ ([] : List (Addr × Obj)) ++ [] from hp) (by simp)⟩
  have loop : codeAny (model X.prog X.w) X.A (.compLoop (.ListComp elt [⟨tg, iter, [], 0⟩] scope pos) 0 (.ref it) (.ref D) ce) (compEnds (model X.prog X.w) X.A X.xe none (EP X pins σ Q) (.ref D) ce) s4 := by
    refine compLoop_any (fun n s' => ∃ i H', Inv (X.blk s3 H3 scope ce fp) [] (wipe σ (own.map (·.2))) H' s' ∧ tn i s'.heap ∧ (∀ b ∈ fp, H' b = none) ∧ W i n H') ?_ m0 ⟨0, H3, I4, st4, nfp, w0⟩
    rintro n s5 ⟨i, H5, I5, st5, n5, w5⟩
    rcases turn i n H5 w5 with ⟨stop, qq⟩ | ⟨go, Nx, hNx, step⟩
    · have td := T.done (X.blk s3 H3 scope ce fp) rfl rfl rfl hc i [] s5 _ H5 (fun _ _ => False) I5 (stat I5 n5) st5 stop
      refine thnF td fun r s6 ⟨hr, I6⟩ => ?_
      subst hr
      obtain ⟨I7, fC, m, hn⟩ := back I6
      obtain ⟨f0, f1, f2, f3, f4, f5⟩ := fC
      refine ⟨m, by rw [cL]; exact hn, fun h' sb => ?_⟩
      rw [cL] at sb
      exact ⟨.ref D, H5, I7.turned (t' := s6.toks) (fun b o hb e => (sb.2 b hb).trans e) f0 f1 f3 f4 f5, rfl, qq⟩
    · have ti := T.item (X.blk s3 H3 scope ce fp) rfl rfl rfl hc i [] s5 _ H5 (fun _ _ => False) I5 (stat I5 n5) st5 go
      refine thnF ti fun r s6 ⟨u, hr, h6⟩ => ?_
      subst hr
      refine thnF h6 fun _ s7 ⟨x, H7, I7, r7, y7, st7, n7⟩ => ?_
      have I7' := I7.pinned (stat I7 n7) (T.obj _ _ st7)
      refine thnF (pg.run _ s7 _ H7 x u _ I7' r7 (step x H7 y7)) fun _ s8 ⟨σ8, H8, I8, hw8, q8⟩ => ?_
      have q8 : te σ8 H8 _ := q8
      refine wpAny_tests_nil (wpAny_mono (pe.run _ s8 σ8 H8 _ (blkX_inv I8) q8) (fun z s10 ⟨yv, H10, I10, r10, acc, hD10, hz10, nx⟩ => ?_) fun ev s9 hx => ?_)
      · refine app_ok (X := X.blk s3 H3 scope ce fp) (inv_blkX I10) hD10 hz10 r10 fun s11 I' => ?_
        obtain ⟨m', hm, w'⟩ := hNx _ nx
        have pin' : ∀ b ∈ fp, ∀ o, s7.heap.get? b = some o → s11.heap.get? b = some o ∧ (upd H10 D (.lst (acc ++ [yv]))) b = none := fun b hb o e =>
          let z := I'.pin (b, o) (List.mem_append_right _ (List.mem_append_right _ (mem_pinsAt hb e)))
          ⟨z.1, z.2.1⟩
        have hl : (wipe σ (own.map (·.2))).length = σ8.length := by rw [← hw8, wipe_length]
        refine ⟨m', hm, i + 1, _, (I'.unpinned (pins := [])).weak hl (fun j v e => ?_), T.keep _ _ _ st7 fun b hb o e => (pin' b hb o e).1, fun b hb => ?_, w'⟩
        · rw [← hw8] at e
          exact (wipe_some e).1
        · obtain ⟨o, e, _⟩ := T.obj _ _ st7 b hb
          exact (pin' b hb o e).2
      · exact comp_fails le hcf cL hx
  exact codeAny_compStart_list loop (T.self X.A 0 _ _ _ st4 loop)
end
end DL

set_option maxHeartbeats 4000000
/-! comprehensions whose element may raise: the reading -/
namespace DL
open PySem PySem.Spec PyProof.Rows L2
def lcX (t : Tg) (fe : F) (ev : Ev) : List D → DSt → Rs (List D)
  | [], st => .ok [] st
  | d :: r, st => match t d ev with
    | none => .stuck
    | some ev' => (fe ev' st).bind fun sv st2 => match sv with
      | .dat y => (lcX t fe ev r st2).bind fun ys st3 => .ok (y :: ys) st3
      | _ => .stuck
def fLcX (fi : Fi) (t : Tg) (fe : F) (vs : List Nat) : F := fun ev st => (fi ev st).bind fun items st1 => if items.length ≤ lim then
    (lcX t fe (wipeE ev vs) items st1).bind fun ys st2 => .ok (.dat (.list ys)) st2
  else .stuck
theorem bind_assoc {α β γ : Type} (r : Rs α) (f : α → DSt → Rs β) (g : β → DSt → Rs γ) : (r.bind f).bind g = r.bind fun a st => (f a st).bind g := by cases r <;> rfl
theorem lcX_turns {K : PySem.W.Frag} {T : Tb} {δ : Dl} {lk : Bool} {E : XK} {G1 H1 : Hp} {σ : L2.St} {ev : Ev} {st1 : DSt} {t : Tg} {ss vs : List Nat} {fe : F} {J : It} {items : List D} {D' : Addr} {Qd : Hp → Prop} {R0 : Rs (List D)}
    (hss : ∀ i ∈ ss, i ∈ vs) (r1 : Rel lk T δ G1 H1 σ ev st1) (wk : WalkD T J G1 [] items) (hD : H1 D' = none) (hlim : items.length ≤ lim) (hR : lcX t fe (wipeE ev vs) items st1 = R0) (hns : R0 ≠ .stuck)
    (hx : ∀ c st', R0 = .exc c st' → ∀ G' H', Fr T δ G1 H1 G' H' → DiceAt δ G' H' st' → E (c.at K) none H')
    (done : ∀ ys st2, R0 = .ok ys st2 → ∀ G H vs', Fr T δ G1 H1 G H → DiceAt δ G H st2 → G D' = none → H D' = some (.lst vs') → RpA G vs' ys → Qd H) :
    ∃ W : Nat → Nat → Hp → Prop, (∃ m, W 0 m (upd H1 D' (.lst []))) ∧ ∀ i m H, W i m H →
      (J.stop i H ∧ Qd H) ∨ (J.go i H ∧ ∃ Nx : Hp → Prop, (∀ H', Nx H' → ∃ m', m' < m ∧ W (i + 1) m' H') ∧ ∀ x H', J.yld i H x H' → tG T δ t ss x (L2.wipe σ vs) H' fun σ2 H2 => L2.wipe σ2 vs = L2.wipe σ vs ∧ tYes σ2 H2 fun b H3 =>
        if b = true then tD K T δ E fe σ2 H3 fun y H4 => ∃ acc, H4 D' = some (.lst acc) ∧ acc.length < sizeLine ∧ Nx (upd H4 D' (.lst (acc ++ [y]))) else Nx H3) := by
  have hδD : ¬ δ.has D' := fun z => (r1.di.alv z).1.ne hD
  have hd : Held [] H1 := fun _ z => by cases z
  have po : PsOk δ [] := fun _ z => by cases z
  refine ⟨fun i m H => m = items.length - i ∧ i ≤ items.length ∧ ∃ G st acc vs', Fr T δ G1 H1 G H ∧ DiceAt δ G H st ∧ G D' = none ∧ H D' = some (.lst vs') ∧ RpA G vs' acc ∧ acc.length ≤ i ∧ (lcX t fe (wipeE ev vs) (items.drop i) st).bind (fun zs st2 => .ok (acc ++ zs) st2) = R0, ?_, ?_⟩
  · have g1 : G1 D' = none := by
      cases q : G1 D' with
      | none => rfl
      | some z => rw [r1.sub _ _ q] at hD; cases hD
    have f : Fr T δ G1 H1 G1 (upd H1 D' (.lst [])) := .newH r1.sub r1.nt hD
    refine ⟨items.length, by simp, Nat.zero_le _, G1, st1, [], [], f, f.kpD r1.di hδD, g1, upd_same, .nil, Nat.zero_le _, ?_⟩
    rw [List.drop_zero, hR]
    cases R0 <;> rfl
  · rintro i m H ⟨rfl, hi, G, st, acc, vs', f, d, gD, hDl, ra, hal, hz⟩
    have hs : Sub G H := f.gh
    by_cases hlt : i < items.length
    · have hit : items[i]? = some items[i] := List.getElem?_eq_getElem hlt
      obtain ⟨hgo, hyl⟩ := wk.go i G H items[i] hit f.gg hs f.nt (hd.fr po f)
      refine .inr ⟨hgo, fun H => i + 1 ≤ items.length ∧ ∃ G st acc vs', Fr T δ G1 H1 G H ∧ DiceAt δ G H st ∧ G D' = none ∧ H D' = some (.lst vs') ∧ RpA G vs' acc ∧ acc.length ≤ i + 1 ∧ (lcX t fe (wipeE ev vs) (items.drop (i + 1)) st).bind (fun zs st2 => .ok (acc ++ zs) st2) = R0, fun H' n => ⟨items.length - (i + 1), by omega, rfl, n.1, n.2⟩, fun x H' y => ?_⟩
      obtain ⟨G', f', rp⟩ := hyl x H' y
      rw [List.drop_eq_getElem_cons hlt] at hz
      unfold lcX at hz
      cases e1 : t items[i] (wipeE ev vs) with
      | none => rw [e1] at hz; exact absurd hz.symm hns
      | some ev' =>
      rw [e1] at hz
      dsimp only at hz
      have fa : Fr T δ G1 H1 G' H' := f.tr f'.any
      have da : DiceAt δ G' H' st := d.fr f'
      have gD' : G' D' = none := f'.nw D' (by rw [hDl]; exact ⟨_, rfl, fun _ z => by cases z⟩) (by rw [hDl]; intro _ z; cases z) gD
      have hDl' : H' D' = some (.lst vs') := f'.kp _ _ hDl (fun z => by cases z) (fun _ z => by cases z)
      have rw_ : Rel lk T δ G' H' (L2.wipe σ vs) (wipeE ev vs) st := (r1.fr fa da).wipe vs
      refine ⟨lk, G', wipeE ev vs, st, items[i], ev', rw_, rp, e1, fun σ2 r2 o2 => ⟨?_, ?_⟩⟩
      · have := wipe_off o2 hss
        rw [this]
        apply List.ext_getElem?
        intro j
        rw [wipe_get, wipe_get]
        by_cases hj : j ∈ vs
        · rw [if_pos hj, if_pos hj]
          cases σ[j]? <;> rfl
        · rw [if_neg hj, if_neg hj]
      · unfold tYes
        simp only [if_true]
        refine ⟨lk, G', ev', st, r2, ?_⟩
        cases e4 : fe ev' st with
        | exc c st' =>
          rw [e4] at hz
          have hz : (Rs.exc c st' : Rs (List D)) = R0 := hz
          exact fun G4 H4 f4 d4 => hx c st' hz.symm G4 H4 (fa.tr f4) d4
        | stuck => rw [e4] at hz; exact absurd hz.symm hns
        | ok sv st3 =>
          rw [e4] at hz
          have ra3 : RpA G' vs' acc := ra.mono f'.gg
          cases sv with
          | dat yv =>
            intro v G4 H4 f4 d4 x4
            have gD4 : G4 D' = none := f4.nw D' (by rw [hDl']; exact ⟨_, rfl, fun _ z => by cases z⟩) (by rw [hDl']; intro _ z; cases z) gD'
            have hD4 : H4 D' = some (.lst vs') := f4.kp _ _ hDl' hδD (fun _ z => by cases z)
            have fx : Fr T δ G1 H1 G4 (upd H4 D' (.lst (vs' ++ [v]))) := (fa.tr f4).wr (.inl fun z => z.ne hD) gD4 (fun ps z => by rw [hD4] at z; cases z) (fun _ _ z => by rw [hD4] at z; cases z) (fun _ z => by cases z) (fun _ z => by cases z)
            refine ⟨vs', hD4, ?_, hlt, G4, st3, acc ++ [yv], vs' ++ [v], fx, d4.upd hδD, gD4, upd_same, (ra3.mono f4.gg).app (.cons x4 .nil), by rw [List.length_append]; show acc.length + 1 ≤ i + 1; omega, ?_⟩
            · have hl := ra.length
              have : vs'.length ≤ lim - 1 := by omega
              rw [sizeLine_eq]; unfold lim at this; omega
            · rw [← hz]
              show _ = ((lcX t fe (wipeE ev vs) (items.drop (i + 1)) st3).bind fun ys st3 => .ok (yv :: ys) st3).bind _
              rw [bind_assoc]
              congr 1
              funext zs st4
              show Rs.ok (acc ++ [yv] ++ zs) st4 = Rs.ok (acc ++ (yv :: zs)) st4
              rw [List.append_assoc]; rfl
          | own _ => exact absurd hz.symm hns
          | dice => exact absurd hz.symm hns
          | bench => exact absurd hz.symm hns
          | exc _ => exact absurd hz.symm hns
    · have e : i = items.length := by omega
      subst e
      rw [List.drop_length] at hz
      have hz : (Rs.ok (acc ++ []) st : Rs (List D)) = R0 := hz
      rw [List.append_nil] at hz
      exact .inl ⟨wk.stop G H f.gg hs (hd.fr po f), done acc st hz.symm G H vs' f d gD hDl ra⟩
section
variable {X : Cx} {T : Tb} {δ : Dl} {E : XK} {pos : Pos} {tg iter elt : Expr} {scope : Scope} {own : List (Str × Nat)} {fi : Fi} {t : Tg} {ss : List Nat} {fe : F}
theorem lcX_read {K : PySem.W.Frag} {vs : List Nat} (hss : ∀ i ∈ ss, i ∈ vs) : ∀ σ H Q, tD K T δ E (fLcX fi t fe vs) σ H Q → tLc (tI K T δ E fi) (tG T δ t ss) tYes (tD K T δ E fe) vs σ H Q := fun σ H Q ⟨lk, G, ev, st, r, h⟩ => by
  refine ⟨lk, G, ev, st, r, ?_⟩
  unfold fLcX at h
  cases q : fi ev st with
  | exc c st1 => rw [q] at h; exact h
  | stuck => rw [q] at h; exact h
  | ok items st1 =>
    rw [q] at h
    intro J G1 H1 f1 d1 wk D hD
    have h1 : EndE K lk T δ E G1 H1 Q (if items.length ≤ lim then (lcX t fe (wipeE ev vs) items st1).bind fun ys st2 => .ok (.dat (.list ys)) st2 else .stuck) := EndE.tr f1 h
    split at h1
    · rename_i hl
      refine lcX_turns (K := K) (E := E) (lk := lk) (Qd := fun H => Q (.ref D) H) (R0 := lcX t fe (wipeE ev vs) items st1) hss (r.fr f1 d1) wk hD hl rfl (fun z => ?_) (fun c st' z => ?_) fun ys st2 z G2 H2 vs' f2 d2 g2 hD2 ra => ?_
      · rw [z] at h1; exact h1.elim
      · rw [z] at h1; exact h1
      · rw [z] at h1
        exact h1 (.ref D) (upd G2 D (.lst vs')) H2 (f2.frz (fun z => z.ne hD) g2 hD2 (fun _ z => by cases z)) (d2.gup (sub_upd g2)) (.lst upd_same (ra.mono fun b u e => by
          have : b ≠ D := fun z => by rw [z, g2] at e; cases e
          rw [upd_ne this]; exact e))
    · exact h1.elim
/-- [elt for target in iter], the element may raise -/
theorem de_lcX {L : Addr} (le : Lets X L E) (hc : X.calm = true) (hN : X.N.Nodup) (hi : DI X T δ E tg iter fi) (ok : BlkOk X.N X.env.scope scope own)
    (hg : ∀ (s : Shared) (H : Hp) (C : Addr) (cl : List (Str × Addr)) (fp : List Addr), DG (X.blk s H scope (compEnvC scope cl C X.env) fp) T δ tg t ss)
    (he : ∀ (s : Shared) (H : Hp) (C : Addr) (cl : List (Str × Addr)) (fp : List Addr) (xe : Value → Shared → Prop), Lets (blkX X s H scope (compEnvC scope cl C X.env) fp xe) L E → DE (blkX X s H scope (compEnvC scope cl C X.env) fp xe) T δ E elt fe) (hss : ∀ i ∈ ss, i ∈ own.map (·.2) := by decide) (hs : ∀ x, foldedSetIterable iter X.env x = pure x := by intro _; rfl) :
    DE X T δ E (.ListComp elt [⟨tg, iter, [], 0⟩] scope pos) (fLcX fi t fe (own.map (·.2))) :=
  PE.imp (pe_lcX le (wi := tI X.K T δ E fi) (g := tG T δ t ss) (te := tD X.K T δ E fe) hc hN hi ok hg he hs) (lcX_read hss)
end
end DL

set_option maxHeartbeats 4000000
/-! what each def reckons (printed by mk.py) -/
namespace DL
open PySem PySem.Spec PyProof.Rows L2
def fs_is_whole : FS :=
  (fRet (fAnd (fIst "int" (fVar 0)) (fAnd (fNot (fIst "bool" (fVar 0))) (fChain gLe gLe (fVar 1) (fVar 0) (fVar 2)))))
def g_is_whole : Fn := runF 3 fs_is_whole
def fs_is_part : FS :=
  (fSeq (fIfS (fOr (fNot (fIst "tuple" (fVar 0))) (fOp2 gNe (fCB gLen (fK (fVar 0) fN)) (fC (.int 3)))) (fRet (fC (.bool false))) fNil)
  (fRet (fAnd (fCall g_is_whole (fK (fOp2 gIxS (fVar 0) (fC (.int 0))) (fK (fC (.int 1)) (fK (fC (.int 6)) fN)))) (fAnd (fCall g_is_whole (fK (fOp2 gIxS (fVar 0) (fC (.int 1))) (fK (fC (.int 1)) (fK (fC (.int 3)) fN)))) (fCall g_is_whole (fK (fOp2 gIxS (fVar 0) (fC (.int 2))) (fK (fC (.int 0)) (fK (fC (.int 2)) fN))))))))
def g_is_part : Fn := runF 1 fs_is_part
def fs_is_store : FS :=
  (fRet (fAnd (fIst "tuple" (fVar 0)) (fAnd (fChain gLe gLe (fC (.int 1)) (fCB gLen (fK (fVar 0) fN)) (fC (.int 4))) (fCB gAll (fK (fLc (fiT (fVar 0)) (gN 1) none (fCall g_is_part (fK (fVar 1) fN)) [1]) fN)))))
def g_is_store : Fn := runF 2 fs_is_store
def fs_need_store : FS :=
  (fIfS (fNot (fCall g_is_store (fK (fVar 0) fN))) (fRaise .InvalidStore) fNil)
def g_need_store : Fn := runF 1 fs_need_store
def fs_good_state : FS :=
  (fSeq (fIfS (fOr (fNot (fIst "tuple" (fVar 1))) (fOp2 gNe (fCB gLen (fK (fVar 1) fN)) (fCB gLen (fK (fVar 0) fN)))) (fRet (fC (.bool false))) fNil)
  (fRet (fCB gAll (fK (fLc (fiE (fK (fVar 1) fN)) (gTp 2 (gCs (gN 2) (gCs (gN 3) gNs))) none (fCall g_is_whole (fK (fVar 3) (fK (fC (.int 0)) (fK (fOp2 gIxS (fOp2 gIxS (fVar 0) (fVar 2)) (fC (.int 0))) fN)))) [2, 3]) fN))))
def g_good_state : Fn := runF 4 fs_good_state
def fs_need_state : FS :=
  (fSeq (fDrop (fCall g_need_store (fK (fVar 0) fN)))
  (fIfS (fNot (fCall g_good_state (fK (fVar 0) (fK (fVar 1) fN)))) (fRaise .InvalidState) fNil))
def g_need_state : Fn := runF 2 fs_need_state
def fs_fresh : FS :=
  (fRet (fOp2 gMul (fTup (fK (fC (.int 0)) fN)) (fCB gLen (fK (fVar 0) fN))))
def g_fresh : Fn := runF 1 fs_fresh
def fs_new : FS :=
  (fSeq (fDrop (fCall g_need_store (fK (fVar 0) fN)))
  (fRet (fCall g_fresh (fK (fVar 0) fN))))
def g_new : Fn := runF 1 fs_new
def fs_can_use : FS :=
  (fSeq (fAsg (fOp2 gIxS (fVar 0) (fVar 2)) (gTp 3 (gCs (gN 3) (gCs (gN 4) (gCs (gN 5) gNs)))))
  (fRet (fOp2 gLe (fOp2 gAdd (fOp2 gIxS (fVar 1) (fVar 2)) (fVar 4)) (fVar 3))))
def g_can_use : Fn := runF 6 fs_can_use
def fs_usable_in : FS :=
  (fRet (fLc (fiR (fK (fCB gLen (fK (fVar 0) fN)) fN)) (gN 2) (some (fCall g_can_use (fK (fVar 0) (fK (fVar 1) (fK (fVar 2) fN))))) (fVar 2) [2]))
def g_usable_in : Fn := runF 3 fs_usable_in
def fs_usable : FS :=
  (fSeq (fDrop (fCall g_need_state (fK (fVar 0) (fK (fVar 1) fN))))
  (fRet (fCB gTuple (fK (fCall g_usable_in (fK (fVar 0) (fK (fVar 1) fN))) fN))))
def g_usable : Fn := runF 2 fs_usable
def fs_ticked : FS :=
  (fSeq (fNewL 3 fN)
  (fSeq (fFor (fiE (fK (fVar 1) fN)) (gTp 2 (gCs (gN 4) (gCs (gN 5) gNs))) (fSeq (fAsg (fOp2 gIxS (fVar 0) (fVar 4)) (gTp 3 (gCs (gN 6) (gCs (gN 7) (gCs (gN 8) gNs)))))
  (fApp 3 (fIf (fOp2 gEq (fVar 4) (fVar 2)) (fOp2 gAdd (fVar 5) (fVar 7)) (fCB gMax (fK (fC (.int 0)) (fK (fOp2 gSub (fVar 5) (fVar 8)) fN)))))))
  (fRet (fCB gTuple (fK (fVar 3) fN)))))
def g_ticked : Fn := runF 9 fs_ticked
def fs_all_states : FS :=
  (fSeq (fSet 1 (fLst (fK (fTup fN) fN)))
  (fSeq (fFor (fiT (fVar 0)) (gTp 3 (gCs (gN 2) (gCs (gN 3) (gCs (gN 4) gNs)))) (fSeq (fSet 5 (fLst fN))
  (fSeq (fFor (fiL (fVar 1)) (gN 6) (fSet 5 (fOp2 gAdd (fVar 5) (fLc (fiR (fK (fOp2 gAdd (fVar 2) (fC (.int 1))) fN)) (gN 7) none (fOp2 gAdd (fVar 6) (fTup (fK (fVar 7) fN))) [7]))))
  (fSet 1 (fVar 5)))))
  (fRet (fVar 1))))
def g_all_states : Fn := runF 8 fs_all_states
def fs_ranks : FS :=
  (fSeq (fNewD 1)
  (fSeq (fFor (fiL (fCall g_all_states (fK (fVar 0) fN))) (gN 2) (fPut 1 (fVar 2) (fLc (fiL (fCall g_usable_in (fK (fVar 0) (fK (fVar 2) fN)))) (gN 7) none (fCall g_ticked (fK (fVar 0) (fK (fVar 2) (fK (fVar 7) fN)))) [7])))
  (fSeq (fPar [3, 4, 5] (fND (fNK (fC (.bool true)) (fNK (fC (.int 0)) fNN))))
  (fSeq (whileGo (fVar 4) (fSeq (fSetLcK 6 1 (gN 2) (some (fAnd (fOp2 (gIn true) (fVar 2) (fVar 3)) (fCB gAll (fK (fLc (fiL (fOp2 gDGet (fVar 1) (fVar 2))) (gN 8) none (fOp2 (gIn false) (fVar 8) (fVar 3)) [8]) fN)))) (fVar 2) [2])
  (fSeq (fFor (fiL (fVar 6)) (gN 2) (fPut 3 (fVar 2) (fVar 5)))
  (fPar [4, 5] (fNK (fOp2 gNe (fVar 6) (fLst fN)) (fNK (fOp2 gAdd (fVar 5) (fC (.int 1))) fNN))))) fuel)
  (fRetV 3)))))
def g_ranks : Fn := runF 9 fs_ranks
def fs_lasts_for_ever : FS :=
  (fSeq (fDrop (fCall g_need_state (fK (fVar 0) (fK (fVar 1) fN))))
  (fRet (fOp2 (gIn true) (fVar 1) (fCall g_ranks (fK (fVar 0) fN)))))
def g_lasts_for_ever : Fn := runF 2 fs_lasts_for_ever
def fs_most_ticks : FS :=
  (fSeq (fDrop (fCall g_need_state (fK (fVar 0) (fK (fVar 1) fN))))
  (fRet (fGet (fCall g_ranks (fK (fVar 0) fN)) (fVar 1) (fC .none))))
def g_most_ticks : Fn := runF 2 fs_most_ticks
def fs_longest : FS :=
  (fSeq (fDrop (fCall g_need_state (fK (fVar 0) (fK (fVar 1) fN))))
  (fSeq (fSet 2 (fCall g_ranks (fK (fVar 0) fN)))
  (fSeq (fIfS (fOp2 (gIn true) (fVar 1) (fVar 2)) (fRaise .ForEver) fNil)
  (fSeq (fNewL 3 fN)
  (fSeq (whileGo (fOp2 gGt (fOp2 gDGet (fVar 2) (fVar 1)) (fC (.int 0))) (fSeq (fSet 4 (fLc (fiL (fCall g_usable_in (fK (fVar 0) (fK (fVar 1) fN)))) (gN 5) (some (fOp2 gEq (fOp2 gDGet (fVar 2) (fCall g_ticked (fK (fVar 0) (fK (fVar 1) (fK (fVar 5) fN))))) (fOp2 gSub (fOp2 gDGet (fVar 2) (fVar 1)) (fC (.int 1))))) (fVar 5) [5]))
  (fSeq (fApp 3 (fOp2 gIxS (fVar 4) (fC (.int 0))))
  (fSet 1 (fCall g_ticked (fK (fVar 0) (fK (fVar 1) (fK (fOp2 gIxS (fVar 4) (fC (.int 0))) fN))))))) fuel)
  (fRet (fCB gTuple (fK (fVar 3) fN))))))))
def g_longest : Fn := runF 6 fs_longest
def fs_need_rule : FS :=
  (fIfS (fOr (fNot (fIst "str" (fVar 0))) (fOp2 (gIn true) (fVar 0) (fTup (fK (fC (.str "first")) (fK (fC (.str "least")) (fK (fC (.str "room")) fN)))))) (fRaise .InvalidRule) fNil)
def g_need_rule : Fn := runF 1 fs_need_rule
def fs_chosen : FS :=
  (fSeq (fSet 3 (fCall g_usable_in (fK (fVar 0) (fK (fVar 1) fN))))
  (fSeq (fIfS (fOp2 gEq (fVar 3) (fLst fN)) (fRet (fC .none)) fNil)
  (fSeq (fIfS (fOp2 gEq (fVar 2) (fC (.str "least"))) (fRet (fOp2 gIxS (fCB gMinP (fK (fLc (fiL (fVar 3)) (gN 4) none (fTup (fK (fOp2 gIxS (fVar 1) (fVar 4)) (fK (fVar 4) fN))) [4]) fN)) (fC (.int 1)))) fNil)
  (fSeq (fIfS (fOp2 gEq (fVar 2) (fC (.str "room"))) (fRet (fOp2 gIxS (fCB gMinP (fK (fLc (fiL (fVar 3)) (gN 4) none (fTup (fK (fOp2 gSub (fOp2 gIxS (fVar 1) (fVar 4)) (fOp2 gIxS (fOp2 gIxS (fVar 0) (fVar 4)) (fC (.int 0)))) (fK (fVar 4) fN))) [4]) fN)) (fC (.int 1)))) fNil)
  (fRet (fOp2 gIxS (fVar 3) (fC (.int 0))))))))
def g_chosen : Fn := runF 5 fs_chosen
def fs_choice : FS :=
  (fSeq (fDrop (fCall g_need_state (fK (fVar 0) (fK (fVar 1) fN))))
  (fSeq (fDrop (fCall g_need_rule (fK (fVar 2) fN)))
  (fRet (fCall g_chosen (fK (fVar 0) (fK (fVar 1) (fK (fVar 2) fN)))))))
def g_choice : Fn := runF 3 fs_choice
def fs_fate_of : FS :=
  (fSeq (fNewD 3)
  (fSeq (whileGo (fOp2 (gIn true) (fVar 1) (fVar 3)) (fSeq (fPut 3 (fVar 1) (fCB gLenD (fK (fVar 3) fN)))
  (fSeq (fSet 4 (fCall g_chosen (fK (fVar 0) (fK (fVar 1) (fK (fVar 2) fN)))))
  (fSeq (fIfS (fOp2 gIs (fVar 4) (fC .none)) (fRet (fTup (fK (fC (.str "ends")) (fK (fOp2 gDGet (fVar 3) (fVar 1)) fN)))) fNil)
  (fSet 1 (fCall g_ticked (fK (fVar 0) (fK (fVar 1) (fK (fVar 4) fN)))))))) fuel)
  (fRet (fTup (fK (fC (.str "round")) (fK (fOp2 gDGet (fVar 3) (fVar 1)) fN))))))
def g_fate_of : Fn := runF 5 fs_fate_of
def fs_fate : FS :=
  (fSeq (fDrop (fCall g_need_state (fK (fVar 0) (fK (fVar 1) fN))))
  (fSeq (fDrop (fCall g_need_rule (fK (fVar 2) fN)))
  (fRet (fCall g_fate_of (fK (fVar 0) (fK (fVar 1) (fK (fVar 2) fN)))))))
def g_fate : Fn := runF 3 fs_fate
def fs__law_drawn : FS :=
  (fSeq (fSet 2 (fOp2 gMod (fOp2 gAdd (fOp2 gMul (fVar 0) (fC (.int 6364136223846793005))) (fOp2 gMul (fOp2 gAdd (fVar 1) (fC (.int 1))) (fC (.int 1442695040888963407)))) (fC (.int 340282366920938463463374607431768211507))))
  (fSeq (fSet 2 (fOp2 gMod (fOp2 gMul (fVar 2) (fVar 2)) (fC (.int 340282366920938463463374607431768211297))))
  (fSeq (fSet 2 (fOp2 gMul (fOp2 gMul (fOp2 gAdd (fOp2 gMod (fVar 2) (fC (.int 18446744073709551557))) (fC (.int 1))) (fOp2 gAdd (fOp2 gFdiv (fVar 2) (fC (.int 18446744073709551557))) (fC (.int 1)))) (fVar 2)))
  (fRet (fOp2 gMod (fVar 2) (fC (.int 340282366920938463463374607431768211507)))))))
def g__law_drawn : Fn := runF 3 fs__law_drawn
def fs__law_roll : FS :=
  (fSeq (fIfS (fOp2 gGe (fDiceAt 0 0) (fOp2 gPow (fC (.int 10)) (fC (.int 18)))) (fSeq (fSet 2 (fOp2 gMod (fDiceAt 0 0) (fVar 1)))
  (fSeq (fDiceSet 0 0 (fOp2 gFdiv (fDiceAt 0 0) (fVar 1)))
  (fRet (fVar 2)))) fNil)
  (fSeq (fDiceSet 0 1 (fOp2 gAdd (fDiceAt 0 1) (fC (.int 1))))
  (fRet (fOp2 gMod (fOp2 gFdiv (fCall g__law_drawn (fK (fDiceAt 0 0) (fK (fDiceAt 0 1) fN))) (fC (.int 8))) (fVar 1)))))
def g__law_roll : Fn := runF 3 fs__law_roll
def fs__law_any_part : FS :=
  (fRet (fTup (fK (fOp2 gAdd (fC (.int 1)) (fCall g__law_roll (fK (fVar 0) (fK (fVar 1) fN)))) (fK (fOp2 gAdd (fC (.int 1)) (fCall g__law_roll (fK (fVar 0) (fK (fOp2 gIxS (fLst (fK (fC (.int 1)) (fK (fC (.int 3)) fN))) (fCall g__law_roll (fK (fVar 0) (fK (fC (.int 2)) fN)))) fN)))) (fK (fCall g__law_roll (fK (fVar 0) (fK (fC (.int 3)) fN))) fN)))))
def g__law_any_part : Fn := runF 2 fs__law_any_part
def fs_need_part : FS :=
  (fIfS (fNot (fCall g_is_part (fK (fVar 0) fN))) (fRaise .InvalidPart) fNil)
def g_need_part : Fn := runF 1 fs_need_part
def fs_safe_states : FS :=
  (fSeq (fDrop (fCall g_need_store (fK (fVar 0) fN)))
  (fSeq (fSet 1 (fCall g_ranks (fK (fVar 0) fN)))
  (fRet (fCB gTuple (fK (fLc (fiL (fCall g_all_states (fK (fVar 0) fN))) (gN 2) (some (fOp2 (gIn true) (fVar 2) (fVar 1))) (fVar 2) [2]) fN)))))
def g_safe_states : Fn := runF 3 fs_safe_states
def fs_with_part : FS :=
  (fSeq (fDrop (fCall g_need_store (fK (fVar 0) fN)))
  (fSeq (fDrop (fCall g_need_part (fK (fVar 1) fN)))
  (fSeq (fIfS (fOp2 gEq (fCB gLen (fK (fVar 0) fN)) (fC (.int 4))) (fRaise .TooMany) fNil)
  (fRet (fOp2 gAdd (fVar 0) (fTup (fK (fVar 1) fN)))))))
def g_with_part : Fn := runF 2 fs_with_part
def fs__law_any_store : FS :=
  (fSeq (fPar [3, 4] (fNK (fOp2 gAdd (fC (.int 1)) (fCall g__law_roll (fK (fVar 0) (fK (fVar 1) fN)))) (fNK (fCall g__law_any_part (fK (fVar 0) (fK (fVar 2) fN))) fNN)))
  (fSeq (fIfS (fOp2 gEq (fCall g__law_roll (fK (fVar 0) (fK (fC (.int 3)) fN))) (fC (.int 0))) (fRet (fOp2 gMul (fTup (fK (fVar 4) fN)) (fVar 3))) fNil)
  (fRet (fCB gTuple (fK (fLc (fiR (fK (fVar 3) fN)) (gN 5) none (fCall g__law_any_part (fK (fVar 0) (fK (fVar 2) fN))) [5]) fN)))))
def g__law_any_store : Fn := runF 6 fs__law_any_store
def fs_is_state : FS :=
  (fSeq (fDrop (fCall g_need_store (fK (fVar 0) fN)))
  (fRet (fCall g_good_state (fK (fVar 0) (fK (fVar 1) fN)))))
def g_is_state : Fn := runF 2 fs_is_state
def fs_rested : FS :=
  (fSeq (fDrop (fCall g_need_state (fK (fVar 0) (fK (fVar 1) fN))))
  (fRet (fCall g_ticked (fK (fVar 0) (fK (fVar 1) (fK (fC .none) fN))))))
def g_rested : Fn := runF 2 fs_rested
def fs__law_any_state : FS :=
  (fSeq (fIfS (fOp2 gEq (fCall g__law_roll (fK (fVar 0) (fK (fC (.int 3)) fN))) (fC (.int 0))) (fRet (fOp2 gMul (fTup (fK (fC (.int 0)) fN)) (fCB gLen (fK (fVar 1) fN)))) fNil)
  (fRet (fCB gTuple (fK (fLc (fiT (fVar 1)) (gTp 3 (gCs (gN 2) (gCs (gN 3) (gCs (gN 4) gNs)))) none (fCall g__law_roll (fK (fVar 0) (fK (fOp2 gAdd (fVar 2) (fC (.int 1))) fN))) [2, 3, 4]) fN))))
def g__law_any_state : Fn := runF 5 fs__law_any_state
def fs__law_uses : FS :=
  (fSeq (fNewL 2 fN)
  (fSeq (fFor (fiE (fK (fVar 0) fN)) (gTp 2 (gCs (gN 3) (gCs (gTp 3 (gCs (gN 4) (gCs (gN 5) (gCs (gN 6) gNs)))) gNs))) (fIfS (fOp2 gLe (fOp2 gAdd (fOp2 gIxS (fVar 1) (fVar 3)) (fVar 5)) (fVar 4)) (fApp 2 (fVar 3)) fNil))
  (fRetV 2)))
def g__law_uses : Fn := runF 7 fs__law_uses
def fs_need_index : FS :=
  (fIfS (fNot (fCall g_is_whole (fK (fVar 1) (fK (fC (.int 0)) (fK (fOp2 gSub (fCB gLen (fK (fVar 0) fN)) (fC (.int 1))) fN))))) (fRaise .InvalidIndex) fNil)
def g_need_index : Fn := runF 2 fs_need_index
def fs_used : FS :=
  (fSeq (fDrop (fCall g_need_state (fK (fVar 0) (fK (fVar 1) fN))))
  (fSeq (fDrop (fCall g_need_index (fK (fVar 0) (fK (fVar 2) fN))))
  (fSeq (fIfS (fNot (fCall g_can_use (fK (fVar 0) (fK (fVar 1) (fK (fVar 2) fN))))) (fRaise .Worn) fNil)
  (fRet (fCall g_ticked (fK (fVar 0) (fK (fVar 1) (fK (fVar 2) fN))))))))
def g_used : Fn := runF 3 fs_used
def fs__law_next : FS :=
  (fSeq (fNewL 3 fN)
  (fSeq (fFor (fiE (fK (fVar 0) fN)) (gTp 2 (gCs (gN 4) (gCs (gTp 3 (gCs (gN 5) (gCs (gN 6) (gCs (gN 7) gNs)))) gNs))) (fSeq (fSet 8 (fOp2 gIxS (fVar 1) (fVar 4)))
  (fApp 3 (fIf (fOp2 gEq (fVar 4) (fVar 2)) (fOp2 gAdd (fVar 8) (fVar 6)) (fIf (fOp2 gGt (fVar 8) (fVar 7)) (fOp2 gSub (fVar 8) (fVar 7)) (fC (.int 0)))))))
  (fRet (fCB gTuple (fK (fVar 3) fN)))))
def g__law_next : Fn := runF 9 fs__law_next
def fs__law_all : FS :=
  (fSeq (fSet 1 (fLst (fK (fTup fN) fN)))
  (fSeq (fFor (fiT (fVar 0)) (gTp 3 (gCs (gN 2) (gCs (gN 3) (gCs (gN 4) gNs)))) (fSeq (fSet 5 (fLst fN))
  (fSeq (fFor (fiL (fVar 1)) (gN 6) (fSet 5 (fOp2 gAdd (fVar 5) (fLc (fiR (fK (fOp2 gAdd (fVar 2) (fC (.int 1))) fN)) (gN 7) none (fOp2 gAdd (fVar 6) (fTup (fK (fVar 7) fN))) [7]))))
  (fSet 1 (fVar 5)))))
  (fRet (fVar 1))))
def g__law_all : Fn := runF 8 fs__law_all
def fs__law_ranks : FS :=
  (fSeq (fNewD 1)
  (fSeq (fFor (fiL (fCall g__law_all (fK (fVar 0) fN))) (gN 2) (fPut 1 (fVar 2) (fLc (fiL (fCall g__law_uses (fK (fVar 0) (fK (fVar 2) fN)))) (gN 7) none (fCall g__law_next (fK (fVar 0) (fK (fVar 2) (fK (fVar 7) fN)))) [7])))
  (fSeq (fPar [3, 4, 5] (fND (fNK (fCB gListD (fK (fVar 1) fN)) (fNK (fC (.int 0)) fNN))))
  (fSeq (whileGo (fOp2 gLe (fVar 5) (fCB gLenD (fK (fVar 1) fN))) (fSeq (fSet 6 (fLc (fiL (fVar 4)) (gN 2) (some (fCB gAll (fK (fLc (fiL (fOp2 gDGet (fVar 1) (fVar 2))) (gN 8) none (fOp2 (gIn false) (fVar 8) (fVar 3)) [8]) fN))) (fVar 2) [2]))
  (fSeq (fFor (fiL (fVar 6)) (gN 2) (fPut 3 (fVar 2) (fVar 5)))
  (fSeq (fSet 4 (fLc (fiL (fVar 4)) (gN 2) (some (fOp2 (gIn true) (fVar 2) (fVar 3))) (fVar 2) [2]))
  (fSet 5 (fIf (fOp2 gNe (fVar 6) (fLst fN)) (fOp2 gAdd (fVar 5) (fC (.int 1))) (fOp2 gAdd (fCB gLenD (fK (fVar 1) fN)) (fC (.int 1)))))))) fuel)
  (fRetV 3)))))
def g__law_ranks : Fn := runF 9 fs__law_ranks
def fs_course : FS :=
  (fSeq (fDrop (fCall g_need_state (fK (fVar 0) (fK (fVar 1) fN))))
  (fSeq (fSet 2 (fCall g_ranks (fK (fVar 0) fN)))
  (fSeq (fIfS (fOp2 (gIn false) (fVar 1) (fVar 2)) (fRaise .Ends) fNil)
  (fSeq (fPar [3, 4] (fND (fNK (fTup fN) fNN)))
  (fSeq (whileGo (fOp2 (gIn true) (fVar 1) (fVar 3)) (fSeq (fPut 3 (fVar 1) (fCB gLen (fK (fVar 4) fN)))
  (fSeq (fSet 5 (fLc (fiL (fCall g_usable_in (fK (fVar 0) (fK (fVar 1) fN)))) (gN 6) (some (fOp2 (gIn true) (fCall g_ticked (fK (fVar 0) (fK (fVar 1) (fK (fVar 6) fN)))) (fVar 2))) (fVar 6) [6]))
  (fSeq (fSet 4 (fOp2 gAdd (fVar 4) (fTup (fK (fOp2 gIxS (fVar 5) (fC (.int 0))) fN))))
  (fSet 1 (fCall g_ticked (fK (fVar 0) (fK (fVar 1) (fK (fOp2 gIxS (fVar 5) (fC (.int 0))) fN)))))))) fuel)
  (fRet (fTup (fK (fSl gSl (fVar 4) none (some (fOp2 gDGet (fVar 3) (fVar 1)))) (fK (fSl gSl (fVar 4) (some (fOp2 gDGet (fVar 3) (fVar 1))) none) fN)))))))))
def g_course : Fn := runF 7 fs_course
def fs_is_best : FS :=
  (fSeq (fDrop (fCall g_need_state (fK (fVar 0) (fK (fVar 1) fN))))
  (fSeq (fDrop (fCall g_need_rule (fK (fVar 2) fN)))
  (fSeq (fAsg (fCall g_fate_of (fK (fVar 0) (fK (fVar 1) (fK (fVar 2) fN)))) (gTp 2 (gCs (gN 3) (gCs (gN 4) gNs))))
  (fRet (fOr (fOp2 gEq (fVar 3) (fC (.str "round"))) (fOp2 gEq (fGet (fCall g_ranks (fK (fVar 0) fN)) (fVar 1) (fC .none)) (fVar 4)))))))
def g_is_best : Fn := runF 5 fs_is_best
def fs_run : FS :=
  (fSeq (fDrop (fCall g_need_state (fK (fVar 0) (fK (fVar 1) fN))))
  (fSeq (fDrop (fCall g_need_rule (fK (fVar 2) fN)))
  (fSeq (fIfS (fNot (fCall g_is_whole (fK (fVar 3) (fK (fC (.int 0)) (fK (fC (.int 100)) fN))))) (fRaise .InvalidTicks) fNil)
  (fSeq (fSet 4 (fTup fN))
  (fSeq (fFor (fiR (fK (fVar 3) fN)) (gN 5) (fSeq (fSet 6 (fCall g_chosen (fK (fVar 0) (fK (fVar 1) (fK (fVar 2) fN)))))
  (fSeq (fIfS (fOp2 gIs (fVar 6) (fC .none)) (fRet (fVar 4)) fNil)
  (fPar [4, 1] (fNK (fOp2 gAdd (fVar 4) (fTup (fK (fVar 6) fN))) (fNK (fCall g_ticked (fK (fVar 0) (fK (fVar 1) (fK (fVar 6) fN)))) fNN))))))
  (fRet (fVar 4)))))))
def g_run : Fn := runF 7 fs_run
def fs__law_choice : FS :=
  (fSeq (fSet 3 (fCall g__law_uses (fK (fVar 0) (fK (fVar 1) fN))))
  (fSeq (fIfS (fOp2 gEq (fVar 3) (fLst fN)) (fRet (fC .none)) fNil)
  (fSeq (fIfS (fOp2 gEq (fVar 2) (fC (.str "first"))) (fRet (fOp2 gIxS (fVar 3) (fC (.int 0)))) fNil)
  (fSeq (fSet 4 (fLc (fiL (fVar 3)) (gN 5) none (fIf (fOp2 gEq (fVar 2) (fC (.str "least"))) (fOp2 gIxS (fVar 1) (fVar 5)) (fOp2 gSub (fOp2 gIxS (fVar 1) (fVar 5)) (fOp2 gIxS (fOp2 gIxS (fVar 0) (fVar 5)) (fC (.int 0))))) [5]))
  (fRet (fOp2 gIxS (fVar 3) (fIndex (fVar 4) (fCB gMin (fK (fVar 4) fN)))))))))
def g__law_choice : Fn := runF 6 fs__law_choice
def fs_goes_on : FS :=
  (fRet (fOp2 (gIn true) (fCall g_fresh (fK (fVar 0) fN)) (fCall g_ranks (fK (fVar 0) fN))))
def g_goes_on : Fn := runF 1 fs_goes_on
def fs_least_limit : FS :=
  (fSeq (fDrop (fCall g_need_store (fK (fVar 0) fN)))
  (fSeq (fDrop (fCall g_need_index (fK (fVar 0) (fK (fVar 1) fN))))
  (fSeq (fFor (fiR (fK (fC (.int 1)) (fK (fC (.int 7)) fN))) (gN 2) (fSeq (fSet 3 (fOp2 gAdd (fTup (fK (fVar 2) fN)) (fSl gSl (fOp2 gIxS (fVar 0) (fVar 1)) (some (fC (.int 1))) none)))
  (fIfS (fCall g_goes_on (fK (fOp2 gAdd (fOp2 gAdd (fSl gSl (fVar 0) none (some (fVar 1))) (fTup (fK (fVar 3) fN))) (fSl gSl (fVar 0) (some (fOp2 gAdd (fVar 1) (fC (.int 1)))) none)) fN)) (fRet (fVar 2)) fNil)))
  (fRet (fC .none)))))
def g_least_limit : Fn := runF 4 fs_least_limit
def fs_needless : FS :=
  (fSeq (fDrop (fCall g_need_store (fK (fVar 0) fN)))
  (fSeq (fIfS (fOp2 gEq (fCB gLen (fK (fVar 0) fN)) (fC (.int 1))) (fRet (fTup fN)) fNil)
  (fRet (fCB gTuple (fK (fLc (fiR (fK (fCB gLen (fK (fVar 0) fN)) fN)) (gN 1) (some (fCall g_goes_on (fK (fOp2 gAdd (fSl gSl (fVar 0) none (some (fVar 1))) (fSl gSl (fVar 0) (some (fOp2 gAdd (fVar 1) (fC (.int 1)))) none)) fN))) (fVar 1) [1]) fN)))))
def g_needless : Fn := runF 2 fs_needless
def fs_need_two : FS :=
  (fSeq (fDrop (fCall g_need_store (fK (fVar 0) fN)))
  (fDrop (fCall g_need_store (fK (fVar 1) fN))))
def g_need_two : Fn := runF 2 fs_need_two
def fs_compare : FS :=
  (fSeq (fDrop (fCall g_need_two (fK (fVar 0) (fK (fVar 1) fN))))
  (fSeq (fAsg (fLc (fiT (fTup (fK (fVar 0) (fK (fVar 1) fN)))) (gN 4) none (fGet (fCall g_ranks (fK (fVar 4) fN)) (fCall g_fresh (fK (fVar 4) fN)) (fC .none)) [4]) (gTp 2 (gCs (gN 2) (gCs (gN 3) gNs))))
  (fSeq (fIfS (fOp2 gEq (fVar 2) (fVar 3)) (fRet (fC (.int 0))) fNil)
  (fRet (fIf (fOr (fOp2 gIs (fVar 2) (fC .none)) (fAnd (fOp2 gIsNot (fVar 3) (fC .none)) (fOp2 gGt (fVar 2) (fVar 3)))) (fC (.int 1)) (fOp1 gNeg (fC (.int 1))))))))
def g_compare : Fn := runF 5 fs_compare
def fs_is_demand : FS :=
  (fSeq (fIfS (fOr (fNot (fIst "tuple" (fVar 0))) (fOr (fNot (fChain gLe gLe (fC (.int 1)) (fCB gLen (fK (fVar 0) fN)) (fC (.int 6)))) (fNot (fCB gAll (fK (fLc (fiT (fVar 0)) (gN 1) none (fCall g_is_whole (fK (fVar 1) (fK (fC (.int 0)) (fK (fC (.int 1)) fN)))) [1]) fN))))) (fRet (fC (.bool false))) fNil)
  (fRet (fOp2 (gIn false) (fC (.int 1)) (fVar 0))))
def g_is_demand : Fn := runF 2 fs_is_demand
def fs_need_demand : FS :=
  (fIfS (fNot (fCall g_is_demand (fK (fVar 0) fN))) (fRaise .InvalidDemand) fNil)
def g_need_demand : Fn := runF 1 fs_need_demand
def fs_served : FS :=
  (fSeq (fPar [2, 3] (fND (fNK (fCB gLen (fK (fVar 1) fN)) fNN)))
  (fSeq (fFor (fiL (fCall g_all_states (fK (fVar 0) fN))) (gN 4) (fFor (fiR (fK (fVar 3) fN)) (gN 7) (fSeq (fSet 10 (fIf (fOp2 gEq (fOp2 gIxS (fVar 1) (fVar 7)) (fC (.int 1))) (fCall g_usable_in (fK (fVar 0) (fK (fVar 4) fN))) (fLst (fK (fC .none) fN))))
  (fPut 2 (fTup (fK (fVar 4) (fK (fVar 7) fN))) (fLc (fiL (fVar 10)) (gN 11) none (fTup (fK (fCall g_ticked (fK (fVar 0) (fK (fVar 4) (fK (fVar 11) fN)))) (fK (fOp2 gMod (fOp2 gAdd (fVar 7) (fC (.int 1))) (fVar 3)) fN))) [11])))))
  (fSeq (fPar [5, 6] (fND (fNK (fC (.bool true)) fNN)))
  (fSeq (whileGo (fVar 6) (fSeq (fSetLcK 8 2 (gN 9) (some (fAnd (fOp2 (gIn true) (fVar 9) (fVar 5)) (fCB gAll (fK (fLc (fiL (fOp2 gDGet (fVar 2) (fVar 9))) (gN 12) none (fOp2 (gIn false) (fVar 12) (fVar 5)) [12]) fN)))) (fVar 9) [9])
  (fSeq (fFor (fiL (fVar 8)) (gN 9) (fPut 5 (fVar 9) (fCB gMax (fK (fOp2 gAdd (fLst (fK (fC (.int 0)) fN)) (fLc (fiL (fOp2 gDGet (fVar 2) (fVar 9))) (gN 12) none (fOp2 gAdd (fOp2 gDGet (fVar 5) (fVar 12)) (fOp2 gIxS (fVar 1) (fOp2 gIxS (fVar 9) (fC (.int 1))))) [12])) fN))))
  (fSet 6 (fOp2 gNe (fVar 8) (fLst fN))))) fuel)
  (fRetV 5)))))
def g_served : Fn := runF 13 fs_served
def fs_need_both : FS :=
  (fSeq (fDrop (fCall g_need_state (fK (fVar 0) (fK (fVar 1) fN))))
  (fDrop (fCall g_need_demand (fK (fVar 2) fN))))
def g_need_both : Fn := runF 3 fs_need_both
def fs_lasts_with : FS :=
  (fSeq (fDrop (fCall g_need_both (fK (fVar 0) (fK (fVar 1) (fK (fVar 2) fN)))))
  (fRet (fOp2 (gIn true) (fTup (fK (fVar 1) (fK (fC (.int 0)) fN))) (fCall g_served (fK (fVar 0) (fK (fVar 2) fN))))))
def g_lasts_with : Fn := runF 3 fs_lasts_with
def fs_most_served : FS :=
  (fSeq (fDrop (fCall g_need_both (fK (fVar 0) (fK (fVar 1) (fK (fVar 2) fN)))))
  (fRet (fGet (fCall g_served (fK (fVar 0) (fK (fVar 2) fN))) (fTup (fK (fVar 1) (fK (fC (.int 0)) fN))) (fC .none))))
def g_most_served : Fn := runF 3 fs_most_served
def fs__law_served : FS :=
  (fSeq (fPar [2, 3] (fND (fNK (fCB gLen (fK (fVar 1) fN)) fNN)))
  (fSeq (fFor (fiL (fCall g__law_all (fK (fVar 0) fN))) (gN 4) (fFor (fiR (fK (fVar 3) fN)) (gN 8) (fSeq (fSet 11 (fIf (fOp2 gEq (fOp2 gIxS (fVar 1) (fVar 8)) (fC (.int 1))) (fCall g__law_uses (fK (fVar 0) (fK (fVar 4) fN))) (fLst (fK (fC .none) fN))))
  (fPut 2 (fTup (fK (fVar 4) (fK (fVar 8) fN))) (fLc (fiL (fVar 11)) (gN 12) none (fTup (fK (fCall g__law_next (fK (fVar 0) (fK (fVar 4) (fK (fVar 12) fN)))) (fK (fOp2 gMod (fOp2 gAdd (fVar 8) (fC (.int 1))) (fVar 3)) fN))) [12])))))
  (fSeq (fPar [5, 6, 7] (fND (fNK (fCB gListD (fK (fVar 2) fN)) (fNK (fC (.int 0)) fNN))))
  (fSeq (whileGo (fOp2 gLe (fVar 7) (fCB gLenD (fK (fVar 2) fN))) (fSeq (fSet 9 (fLc (fiL (fVar 6)) (gN 10) (some (fCB gAll (fK (fLc (fiL (fOp2 gDGet (fVar 2) (fVar 10))) (gN 13) none (fOp2 (gIn false) (fVar 13) (fVar 5)) [13]) fN))) (fVar 10) [10]))
  (fSeq (fFor (fiL (fVar 9)) (gN 10) (fPut 5 (fVar 10) (fCB gMax (fK (fOp2 gAdd (fLst (fK (fC (.int 0)) fN)) (fLc (fiL (fOp2 gDGet (fVar 2) (fVar 10))) (gN 13) none (fOp2 gAdd (fOp2 gDGet (fVar 5) (fVar 13)) (fOp2 gIxS (fVar 1) (fOp2 gIxS (fVar 10) (fC (.int 1))))) [13])) fN))))
  (fSeq (fSet 6 (fLc (fiL (fVar 6)) (gN 10) (some (fOp2 (gIn true) (fVar 10) (fVar 5))) (fVar 10) [10]))
  (fSet 7 (fIf (fOp2 gNe (fVar 9) (fLst fN)) (fOp2 gAdd (fVar 7) (fC (.int 1))) (fOp2 gAdd (fCB gLenD (fK (fVar 2) fN)) (fC (.int 1)))))))) fuel)
  (fRetV 5)))))
def g__law_served : Fn := runF 14 fs__law_served
def fs__law_at_least : FS :=
  (fRet (fOr (fOp2 gIs (fVar 0) (fC .none)) (fAnd (fOp2 gIsNot (fVar 1) (fC .none)) (fOp2 gGe (fVar 0) (fVar 1)))))
def g__law_at_least : Fn := runF 2 fs__law_at_least
def fs_has_more : FS :=
  (fSeq (fDrop (fCall g_need_two (fK (fVar 0) (fK (fVar 1) fN))))
  (fSeq (fIfS (fOp2 gNe (fCB gLen (fK (fVar 0) fN)) (fCB gLen (fK (fVar 1) fN))) (fRet (fC (.bool false))) fNil)
  (fSeq (fFor (fiE (fK (fVar 0) fN)) (gTp 2 (gCs (gN 2) (gCs (gTp 3 (gCs (gN 3) (gCs (gN 4) (gCs (gN 5) gNs)))) gNs))) (fIfS (fOr (fOp2 gLt (fVar 3) (fOp2 gIxS (fOp2 gIxS (fVar 1) (fVar 2)) (fC (.int 0)))) (fOr (fOp2 gGt (fVar 4) (fOp2 gIxS (fOp2 gIxS (fVar 1) (fVar 2)) (fC (.int 1)))) (fOp2 gLt (fVar 5) (fOp2 gIxS (fOp2 gIxS (fVar 1) (fVar 2)) (fC (.int 2)))))) (fRet (fC (.bool false))) fNil))
  (fRet (fC (.bool true))))))
def g_has_more : Fn := runF 6 fs_has_more
def fs_digit : FS :=
  (fSeq (fIfS (fOr (fOp2 gNe (fCB gLen (fK (fVar 0) fN)) (fC (.int 1))) (fOp2 (gIn true) (fVar 0) (fC (.str "0123456789")))) (fRaise .InvalidText) fNil)
  (fRet (fCB gInt (fK (fVar 0) fN))))
def g_digit : Fn := runF 1 fs_digit
end DL

set_option maxHeartbeats 4000000
/-! what the text defs reckon (printed by mk.py) -/
namespace DL
open PySem PySem.Spec PyProof.Rows L2
def fs_written : FS :=
  (fRet (fM1 gJoin (fC (.str " ")) (fLc (fiT (fVar 0)) (gN 1) none (fM1 gJoin (fC (.str ",")) (fLc (fiT (fVar 1)) (gN 2) none (fCB gStr (fK (fVar 2) fN)) [2])) [1])))
def g_written : Fn := runF 3 fs_written
def fs_format_store : FS :=
  (fSeq (fDrop (fCall g_need_store (fK (fVar 0) fN)))
  (fRet (fCall g_written (fK (fVar 0) fN))))
def g_format_store : Fn := runF 1 fs_format_store
def fs_parse_store : FS :=
  (fSeq (fIfS (fNot (fIst "str" (fVar 0))) (fRaise .InvalidText) fNil)
  (fSeq (fSet 1 (fCB gTuple (fK (fLcX (fiL (fM1 gSplit (fVar 0) (fC (.str " ")))) (gN 2) (fCB gTuple (fK (fLcX (fiL (fM1 gSplit (fVar 2) (fC (.str ",")))) (gN 3) (fCall g_digit (fK (fVar 3) fN)) [3]) fN)) [2]) fN)))
  (fSeq (fIfS (fNot (fCall g_is_store (fK (fVar 1) fN))) (fRaise .InvalidText) fNil)
  (fRet (fVar 1)))))
def g_parse_store : Fn := runF 4 fs_parse_store
end DL

set_option maxHeartbeats 4000000
/-! the script, the rounds, the law's outer loop -/
namespace DL
open PySem PySem.Spec PyProof.Rows L2
def hp0 : Hp := fun _ => none
theorem sub0 (H : Hp) : Sub hp0 H := fun _ _ h => by cases h
theorem nt0 : ∀ b ps, hp0 b ≠ some (.tbl ps) := fun _ _ h => by cases h
theorem SqL.fr {K : PySem.W.Frag} {T : Tb} {G H G' H' : Hp} {a : Addr} {xs : List V} (h : SqL K H a xs) (f : Fr T .nil G H G' H') : SqL K H' a xs := by
  rcases h with (h | ⟨o, h⟩) | h
  · exact .inl (.inl (f.kp _ _ h (fun z => by cases z) fun _ z => by cases z))
  · exact .inl (.inr ⟨o, f.kp _ _ h (fun z => by cases z) fun _ z => by cases z⟩)
  · exact .inr h
def rLn (K : PySem.W.Frag) : List V → Hp → VK → Prop := fun xs H Q => ∃ p ys, xs = [.ref p] ∧ (SqL K H p ys ∨ SqT K H p ys) ∧ Q (.int ys.length) H
theorem ixN_natD {n j : Nat} (hj : j < n) : ixN n (j : Int) = some j := by
  unfold ixN
  rw [if_pos (by omega), if_pos (by omega)]
  simp
def t_cell (K : PySem.W.Frag) (T : Tb) : TS := tSeq (tIfS (tTest (tOp (rEqD K) (tVar 0) (tLst tNil))) (tRet (tOp (rOp T gMul) (tVar 1) (tC (.int 7919)))) tNext)
  (tRet (tOp (rOp T gAdd) (tOp (rIxL K) (tVar 0) (tOp (rOp T gMod) (tVar 1) (tCB (rLn K) (tCons (tVar 0) tNil)))) (tOp (rOp T gMul) (tOp (rOp T gFdiv) (tVar 1) (tCB (rLn K) (tCons (tVar 0) tNil))) (tC (.int 104729)))))
def spCell (K : PySem.W.Frag) (T : Tb) : Sp := fun vs H Q E => ∃ (a : Addr) (ns : List Int) (kk : Int) (G : Hp), vs = [.ref a, .int kk] ∧ SqL K H a (ns.map V.int) ∧ ns.length ≤ 1000 ∧ 0 ≤ kk ∧ kk ≤ 1000 ∧ Sub G H ∧ (∀ b ps, G b ≠ some (.tbl ps)) ∧
  ∀ (c : Int) (G' H' : Hp), Fr T .nil G H G' H' → Q (.int c) H'
theorem rOp_int {T : Tb} {g : D → D → Option D} {i j k : Int} {G H : Hp} {Q : VK} (s : Sub G H) (nt : ∀ b ps, G b ≠ some (.tbl ps)) (e : g (.int i) (.int j) = some (.int k)) (h : ∀ G' H', Fr T .nil G H G' H' → Q (.int k) H') : rOp T g (.int i) (.int j) H Q :=
  ⟨G, _, _, _, s, nt, .dat (.int i), .dat (.int j), e, fun v G' H' f x => by cases x; exact h G' H' f⟩
/-- small data: no dict within, n deep at most -/
def Sm (n : Nat) (d : D) : Prop := d.canLay0 = true ∧ d.depth ≤ n
def SmA (n : Nat) (ds : List D) : Prop := PyData.canLayAll0 ds = true ∧ PyData.depthAll ds ≤ n
theorem Sm.int {n : Nat} (i : Int) : Sm n (.int i) := ⟨rfl, Nat.zero_le _⟩
theorem Sm.bool {n : Nat} (i : Bool) : Sm n (.bool i) := ⟨rfl, Nat.zero_le _⟩
theorem Sm.none {n : Nat} : Sm n .none := ⟨rfl, Nat.zero_le _⟩
theorem SmA.nil {n : Nat} : SmA n [] := ⟨rfl, Nat.zero_le _⟩
theorem SmA.cons {n : Nat} {d : D} {ds : List D} (h : Sm n d) (r : SmA n ds) : SmA n (d :: ds) := ⟨(Bool.and_eq_true _ _).mpr ⟨h.1, r.1⟩, Nat.max_le.mpr ⟨h.2, r.2⟩⟩
theorem SmA.map {α : Type} {n : Nat} {f : α → D} : ∀ {xs : List α}, (∀ x ∈ xs, Sm n (f x)) → SmA n (xs.map f)
  | [], _ => .nil
  | x :: xs, h => .cons (h x List.mem_cons_self) (SmA.map fun y hy => h y (List.mem_cons_of_mem _ hy))
theorem Sm.list {n : Nat} {ds : List D} (h : SmA n ds) : Sm (n + 1) (.list ds) := ⟨h.1, Nat.succ_le_succ h.2⟩
theorem Sm.tuple {n : Nat} {ds : List D} (h : SmA n ds) : Sm (n + 1) (.tuple ds) := ⟨h.1, Nat.succ_le_succ h.2⟩
theorem Sm.shaped {n : Nat} {d : D} (h : Sm n d) (hn : n ≤ 64) : SeqAt.shaped d = true := (Bool.and_eq_true _ _).mpr ⟨h.1, decide_eq_true (Nat.le_trans h.2 hn)⟩
theorem Sm.mono {n m : Nat} {d : D} (h : Sm n d) (hn : n ≤ m) : Sm m d := ⟨h.1, Nat.le_trans h.2 hn⟩
theorem shaped_ints (ns : List Int) : SeqAt.shaped (.list (ns.map PyData.int)) = true := (Sm.list (n := 0) (SmA.map fun _ _ => .int _)).shaped (by decide)
theorem dpAll_ints {K : PySem.W.Frag} {H : Hp} : ∀ ns : List Int, DpAll K H (ns.map V.int) (ns.map PyData.int)
  | [] => .nil
  | n :: r => .cons (.int n) (dpAll_ints r)
theorem cell_ok {K : PySem.W.Frag} {T : Tb} (vs : List V) (H : Hp) (Q : VK) (E : XK) (h : spCell K T vs H Q E) : t_cell K T { nx := fun _ H' => Q .non H', rt := Q } (start ["_law_script", "_law_k"] vs) H := by
  obtain ⟨a, ns, kk, G, rfl, hs, hl, h0, h1, sub, nt, q⟩ := h
  refine ⟨_, rfl, by simp, fun p hp => ?_⟩
  have f1 : Fr T .nil G H G (upd H p (.lst [])) := .newH sub nt hp
  have hs1 := SqL.fr hs f1
  refine ⟨.list (ns.map PyData.int), .list [], .lst hs1 (dpAll_ints ns), .lst (SqL.of upd_same) .nil, shaped_ints ns, rfl, _, rfl, ?_⟩
  cases ns with
  | nil =>
    refine ⟨_, rfl, rOp_int (k := kk * 7919) f1.gh f1.nt ?_ fun G' H' f => q _ G' H' (f1.tr f)⟩
    have : mulOk kk 7919 = true := by
      unfold mulOk
      rw [Bool.or_eq_true, Bool.or_eq_true]
      exact .inl (.inr (by decide))
    show (if mulOk kk 7919 = true then _ else _) = _
    rw [if_pos this]
  | cons n r =>
    refine ⟨_, rfl, _, rfl, _, rfl, a, (n :: r).map V.int, rfl, .inl hs1, ?_⟩
    have hL : (((n :: r).map V.int).length : Int) = ((n :: r).length : Nat) := by rw [List.length_map]
    have hpos : (0 : Int) < ((n :: r).length : Nat) := by simp
    refine rOp_int (k := kk % (((n :: r).map V.int).length : Int)) f1.gh f1.nt ?_ fun G2 H2 f2 => ?_
    · rw [hL]
      show (if (0 : Int) < _ then _ else _) = _
      rw [if_pos hpos]
    have hs2 := SqL.fr hs1 f2
    have b1 : 0 ≤ kk % (((n :: r).map V.int).length : Int) := Int.emod_nonneg _ (by rw [hL]; omega)
    have b2 : kk % (((n :: r).map V.int).length : Int) < (((n :: r).map V.int).length : Int) := Int.emod_lt_of_pos _ (by rw [hL]; exact hpos)
    generalize hj : kk % (((n :: r).map V.int).length : Int) = j at b1 b2
    obtain ⟨z, hz⟩ : ∃ z : Int, atI ((n :: r).map V.int) j = some (.int z) := by
      obtain ⟨m, rfl⟩ := Int.eq_ofNat_of_zero_le b1
      have hm : m < (n :: r).length := by rw [hL] at b2; exact_mod_cast b2
      refine ⟨(n :: r)[m], ?_⟩
      unfold atI
      rw [ixN_natD (by rw [List.length_map]; exact hm)]
      show ((n :: r).map V.int)[m]? = _
      rw [List.getElem?_map, List.getElem?_eq_getElem hm]; rfl
    refine ⟨a, _, j, _, rfl, rfl, hs2, hz, _, rfl, _, rfl, a, (n :: r).map V.int, rfl, .inl hs2, ?_⟩
    refine rOp_int (k := kk / (((n :: r).map V.int).length : Int)) f2.gh f2.nt ?_ fun G3 H3 f3 => ?_
    · rw [hL]
      show (if _ ∧ _ then _ else _) = _
      refine if_pos ⟨hpos, ?_⟩
      have : (((n :: r).length : Nat) : Int).natAbs ≤ 1000 := by rw [Int.natAbs_natCast]; exact hl
      exact Nat.lt_of_le_of_lt this Nat.lt_two_pow_self
    generalize kk / (((n :: r).map V.int).length : Int) = u
    refine rOp_int (k := u * 104729) f3.gh f3.nt ?_ fun G4 H4 f4 => rOp_int (k := z + u * 104729) f4.gh f4.nt rfl fun G5 H5 f5 => q _ G5 H5 ((((f1.tr f2).tr f3).tr f4).tr f5)
    have : mulOk u 104729 = true := by
      unfold mulOk
      rw [Bool.or_eq_true, Bool.or_eq_true]
      exact .inl (.inr (by decide))
    show (if mulOk u 104729 = true then _ else _) = _
    rw [if_pos this]
theorem iteT {p q : Prop} (h : p) : if true = true then p else q := by rw [if_pos rfl]; exact h
/-! ### the rounds: new dice, each apart -/
def te_rounds (K : PySem.W.Frag) (T : Tb) : TE := tLst (tCons (tCall (spCell K T) [] noE (tCons (tVar 0) (tCons (tVar 2) tNil))) (tCons (tC (.int 0)) tNil))
def t_rounds (K : PySem.W.Frag) (T : Tb) : TS := tRet (tLc (iRng1 (tCons (tCB (rCall T gMax) (tCons (tC (.int 1)) (tCons (tCB (rCall T gMin) (tCons (tVar 1) (tCons (tCB (rLn K) (tCons (tVar 0) tNil)) tNil))) tNil))) tNil)) (gName 2) tYes (te_rounds K T) [2])
def DiceL (H' : Hp) (d : Addr) : Prop := ∃ c : Int, H' d = some (.lst [.int c, .int 0])
def spRounds (K : PySem.W.Frag) (T : Tb) : Sp := fun vs H Q E => ∃ (a : Addr) (ns : List Int) (most : Int), vs = [.ref a, .int most] ∧ SqL K H a (ns.map V.int) ∧ ns.length ≤ 1000 ∧ 1 ≤ most ∧ most ≤ 1000 ∧
  ∀ (r : Addr) (G' H' : Hp) (as : List Addr), Fr T .nil hp0 H G' H' → H' r = some (.lst (as.map V.ref)) → as.Nodup → r ∉ as → (∀ d ∈ as, DiceL H' d) → Q (.ref r) H'
theorem rCall_int2 {T : Tb} {g : List D → Option D} {i j k : Int} {G H : Hp} {Q : VK} (s : Sub G H) (nt : ∀ b ps, G b ≠ some (.tbl ps)) (e : g [.int i, .int j] = some (.int k)) (h : ∀ G' H', Fr T .nil G H G' H' → Q (.int k) H') : rCall T g [.int i, .int j] H Q :=
  ⟨G, _, _, s, nt, .cons (.dat (.int i)) (.cons (.dat (.int j)) .nil), e, fun v G' H' f x => by cases x; exact h G' H' f⟩
theorem rounds_ok {K : PySem.W.Frag} {T : Tb} (vs : List V) (H : Hp) (Q : VK) (E : XK) (h : spRounds K T vs H Q E) : t_rounds K T { nx := fun _ H' => Q .non H', rt := Q } (start ["_law_script", "_law_most", "_law_k"] vs) H := by
  obtain ⟨a, ns, most, rfl, hs, hl, h0, h1, q⟩ := h
  show tLc _ _ _ _ _ _ _ Q
  refine ⟨_, rfl, _, rfl, a, ns.map V.int, rfl, .inl hs, ?_⟩
  obtain ⟨n1, e1⟩ : ∃ n1 : Int, n1 = if ((ns.map V.int).length : Int) < most then ((ns.map V.int).length : Int) else most := ⟨_, rfl⟩
  refine rCall_int2 (k := n1) (sub0 H) nt0 (by rw [e1]; rfl) fun G1 H1 f1 => ?_
  obtain ⟨n2, e2⟩ : ∃ n2 : Int, n2 = if n1 > 1 then n1 else 1 := ⟨_, rfl⟩
  refine rCall_int2 (k := n2) f1.gh f1.nt (by rw [e2]; rfl) fun G2 H2 f2 => ?_
  have f12 := f1.tr f2
  rw [List.length_map] at e1
  have b1 : 1 ≤ n2 := by rw [e2]; split <;> omega
  have b2 : n2 ≤ 1000 := by
    have : n1 ≤ 1000 := by rw [e1]; split <;> omega
    rw [e2]; split <;> omega
  refine ⟨n2, rfl, by omega, by omega, fun D hD => ?_⟩
  obtain ⟨n, en⟩ : ∃ n : Nat, n = n2.toNat := ⟨_, rfl⟩
  rw [← en]
  have hn : n ≤ 1000 := by omega
  have hD0 : ¬ Alv (H D) := f12.un' D fun z => z.ne hD
  have f3 : Fr T .nil hp0 H G2 (upd H2 D (.lst [])) := f12.tr (.newH f12.gh f12.nt hD)
  have gD : G2 D = none := by
    cases z : G2 D with
    | none => rfl
    | some o => rw [f12.gh _ _ z] at hD; cases hD
  refine ⟨fun i m Hc => m = n - i ∧ i ≤ n ∧ ∃ (Gc : Hp) (as : List Addr), Fr T .nil hp0 H Gc Hc ∧ Gc D = none ∧ Hc D = some (.lst (as.map V.ref)) ∧ as.length = i ∧ as.Nodup ∧ D ∉ as ∧ (∀ d ∈ as, DiceL Hc d), ⟨n, by simp, Nat.zero_le _, G2, [], f3, gD, upd_same, rfl, List.nodup_nil, by simp, by simp⟩, ?_⟩
  rintro i m Hc ⟨rfl, hi, Gc, as, fc, gDc, hDc, hla, hna, hDa, hda⟩
  by_cases hlt : i < n
  · refine .inr ⟨hlt, fun Hn => i + 1 ≤ n ∧ ∃ (Gn : Hp) (as' : List Addr), Fr T .nil hp0 H Gn Hn ∧ Gn D = none ∧ Hn D = some (.lst (as'.map V.ref)) ∧ as'.length = i + 1 ∧ as'.Nodup ∧ D ∉ as' ∧ (∀ d ∈ as', DiceL Hn d), fun Hn z => ⟨n - (i + 1), by omega, rfl, z.1, z.2⟩, fun x Hx ⟨ex, ey⟩ => ?_⟩
    subst ex ey
    refine ⟨rfl, ?_⟩
    unfold tYes
    simp only [↓reduceIte]
    refine ⟨_, rfl, _, rfl, a, ns, _, Gc, rfl, SqL.fr hs fc, hl, by omega, by omega, fc.gh, fc.nt, fun c G4 H4 f4 => ?_⟩
    refine ⟨by rw [sizeLine_eq]; simp, fun p hp => ?_⟩
    have f5 := fc.tr f4
    have hD4 : H4 D = some (.lst (as.map V.ref)) := f4.kp _ _ hDc (fun z => by cases z) fun _ z => by cases z
    have hpD : p ≠ D := fun z => by rw [z, hD4] at hp; cases hp
    have hD5 : (upd H4 p (.lst [.int c, .int 0])) D = some (.lst (as.map V.ref)) := by rw [upd_ne (Ne.symm hpD)]; exact hD4
    refine ⟨as.map V.ref, hD5, ?_, hlt, ?_⟩
    · rw [List.length_map, hla, sizeLine_eq]; omega
    have g4 : G4 D = none := f4.nw D (by rw [hDc]; exact ⟨_, rfl, fun _ z => by cases z⟩) (by rw [hDc]; intro _ z; cases z) gDc
    have f6 : Fr T .nil hp0 H G4 (upd H4 p (.lst [.int c, .int 0])) := f5.tr (.newH f4.gh f4.nt hp)
    have f7 : Fr T .nil hp0 H G4 (upd (upd H4 p (.lst [.int c, .int 0])) D (.lst (as.map V.ref ++ [V.ref p]))) := f6.wr (.inl hD0) g4 (fun ps z => by rw [hD5] at z; cases z) (fun _ _ z => by rw [hD5] at z; cases z) (fun xs z => by cases z) (fun xs z => by cases z)
    refine ⟨G4, as ++ [p], f7, g4, ?_, ?_, ?_, ?_, ?_⟩
    · rw [upd_same, List.map_append]; rfl
    · rw [List.length_append, hla]; rfl
    · refine List.nodup_append.mpr ⟨hna, by simp, fun x hx y hy e => ?_⟩
      have : y = p := by simpa using hy
      rw [e, this] at hx
      obtain ⟨c', hc'⟩ := hda p hx
      have := f4.kp _ _ hc' (fun z => by cases z) fun _ z => by cases z
      rw [hp] at this; cases this
    · rw [List.mem_append]
      rintro (z | z)
      · exact hDa z
      · have : D = p := by simpa using z
        exact hpD this.symm
    · intro d hd
      rcases List.mem_append.mp hd with z | z
      · obtain ⟨c', hc'⟩ := hda d z
        have h4 := f4.kp _ _ hc' (fun z => by cases z) fun _ z => by cases z
        refine ⟨c', ?_⟩
        have d1 : d ≠ D := fun e => hDa (by rw [← e]; exact z)
        have d2 : d ≠ p := fun e => by rw [e, hp] at h4; cases h4
        rw [upd_ne d1, upd_ne d2]; exact h4
      · have : d = p := by simpa using z
        subst this
        exact ⟨c, by rw [upd_ne hpD, upd_same]⟩
  · exact .inl ⟨by show n ≤ i; omega, q D Gc Hc as fc hDc hna hDa hda⟩
/-! ### the law -/
def tbL (K : PySem.W.Frag) (T : Tb) (f : FS) : TS := fun D' σ H => ∃ δ G0 H0, BOk K δ ∧ tS K T δ noE G0 H0 f D' σ H
theorem pss_tbL {X : Cx} {T : Tb} {f : FS} {ss : List Stmt} (h : ∀ δ G0 H0, BOk X.K δ → DSs X T δ noE G0 H0 ss f) : PSs X ss (tbL X.K T f) := ⟨fun pins s σ H D' I ⟨δ, G0, H0, bo, t⟩ => (h δ G0 H0 bo).run pins s σ H D' I t⟩
def t_law (K : PySem.W.Frag) (T : Tb) (most : Int) (f : FS) : TS := tSeq (tFor (iList K (tCall (spRounds K T) [] noE (tCons (tVar 0) (tCons (tC (.int most)) tNil)))) (gName 1) (tbL K T f)) (tRet (tC (.bl true)))
def spLaw (K : PySem.W.Frag) (T : Tb) : Sp := fun vs H Q E => ∃ (a : Addr) (ns : List Int), vs = [.ref a] ∧ SqL K H a (ns.map V.int) ∧ ns.length ≤ 1000 ∧ LamX.Tabs T H ∧ ∀ H', Q (.bl true) H'
/-- the state at a round's start -/
def evL (n : Nat) : Ev := (List.replicate n none).set 1 (some .dice)
theorem law_ok {K : PySem.W.Frag} {T : Tb} {most : Int} {f : FS} {N : List Str} (h0 : 1 ≤ most) (h1 : most ≤ 1000) (hN : 2 ≤ N.length)
    (good : ∀ c : Int, ∃ ev' st', f (evL N.length) ⟨c, 0, []⟩ = .ok (.nx ev') st' ∧ ev'.length = N.length) (vs : List V) (H : Hp) (Q : VK) (E : XK) (h : spLaw K T vs H Q E) : t_law K T most f { nx := fun _ H' => Q .non H', rt := Q } (start N vs) H := by
  obtain ⟨a, ns, rfl, hs, hl, tb, q⟩ := h
  have hlen : (start N [V.ref a]).length = N.length := by
    unfold L2.start
    simp
    omega
  have h00 : (start N [V.ref a])[0]? = some (some (.ref a)) := by unfold L2.start; rfl
  refine ⟨_, h00, a, ns, most, rfl, hs, hl, h0, h1, fun r G' H' as f1 hr hna hra hda => ⟨r, rfl, ⟨_, SqL.of hr⟩, ?_⟩⟩
  refine ⟨fun i m σ Hc => m = as.length - i ∧ i ≤ as.length ∧ σ.length = N.length ∧ Hc r = some (.lst (as.map V.ref)) ∧ LamX.Tabs T Hc ∧ ∀ j d, i ≤ j → as[j]? = some d → DiceL Hc d,
    ⟨as.length, by simp, Nat.zero_le _, hlen, hr, f1.tb tb, fun j d _ e => hda d (List.mem_of_getElem? e)⟩, ?_⟩
  rintro i m σ Hc ⟨rfl, hi, hσ, hrc, tbc, hdc⟩
  by_cases hlt : i < as.length
  · have e0 : as[i]? = some as[i] := List.getElem?_eq_getElem hlt
    refine .inr ⟨⟨_, .ref as[i], SqL.of hrc, by rw [List.getElem?_map, e0]; rfl⟩, fun σ' Hn => i + 1 ≤ as.length ∧ σ'.length = N.length ∧ Hn r = some (.lst (as.map V.ref)) ∧ LamX.Tabs T Hn ∧ ∀ j d, i + 1 ≤ j → as[j]? = some d → DiceL Hn d,
      fun σ' Hn z => ⟨as.length - (i + 1), by omega, rfl, z.1, z.2⟩, fun x Hx ⟨ex, ey⟩ => ?_⟩
    subst ex
    have hx : x = .ref as[i] := by
      have := ey _ (SqL.of hrc)
      rw [List.getElem?_map, e0] at this
      exact (Option.some.inj this).symm
    subst hx
    generalize hd : as[i] = d at e0
    obtain ⟨c, hc⟩ := hdc i d (Nat.le_refl _) e0
    obtain ⟨ev', st', ef, el⟩ := good c
    refine ⟨Dl.mk (some d) none 0, hp0, Hx, .inl rfl, hp0, evL N.length, ⟨c, 0, []⟩, ?_, ?_⟩
    · have own_no : ∀ {j : Nat} {dd : D}, (evL N.length)[j]? = some (some (.own dd)) → False := fun {j dd} e => by
        unfold evL at e
        rw [List.getElem?_set] at e
        split at e
        · split at e <;> cases e
        · rw [List.getElem?_replicate] at e
          split at e <;> cases e
      refine ⟨⟨⟨sub0 _, nt0, fun _ _ => rfl, ⟨fun b e => by cases e; exact hc, fun b e => by cases e⟩, tbc⟩, ?_, fun j sv e => ?_, fun j k dd e b h1 _ _ _ => (own_no h1).elim⟩, .rf (sub0 _) nt0, fun j dd b e _ => (own_no e).elim⟩
      · unfold evL; simp [hσ]
      · unfold evL at e
        rw [List.getElem?_set] at e
        split at e
        · rename_i e1
          subst e1
          split at e
          · cases e
            exact ⟨.ref d, by rw [List.getElem?_set]; simp; omega, d, rfl, rfl⟩
          · cases e
        · rw [List.getElem?_replicate] at e
          split at e <;> cases e
    · rw [ef]
      intro σ' G2 H2 rr _
      refine ⟨hlt, by rw [← rr.len, el], ?_, rr.tb, fun j d' hj e => ?_⟩
      · refine rr.fr.kp _ _ hrc (fun z => ?_) fun _ z => by cases z
        have z : some d = some r := z.resolve_right nofun
        cases z
        exact hra (List.mem_of_getElem? e0)
      · obtain ⟨c', hc'⟩ := hdc j d' (by omega) e
        refine ⟨c', rr.fr.kp _ _ hc' (fun z => ?_) fun _ z => by cases z⟩
        have z : some d = some d' := z.resolve_right nofun
        cases z
        have := (List.getElem?_inj hlt hna).mp (e0.trans e.symm)
        omega
  · have : i = as.length := by omega
    subst this
    exact .inl ⟨⟨_, SqL.of hrc, by rw [List.length_map]; exact Nat.le_refl _⟩, q Hc⟩
theorem z_of {P : Program} {w : World} {H : Hp} {s : Shared} {e : Value} {s' : Shared} (h : L2N.CX P w [] H s (fun _ _ _ => False) e s') : False := by
  obtain ⟨_, _, _, _, _, _, _, _, _, _, _, _, z⟩ := h
  exact z
end DL

set_option maxHeartbeats 4000000
/-! within an except suite: the end of a list, sums -/
namespace PySem
open Sem (wp)
section
variable {prog : Program} {w : World} {A : Around} {E : Value → Shared → Prop} {s : Shared}
theorem dl_list_end_hot {it l x1 : Addr} {i : Nat} {items : Array Value} {Q : Option Value → Shared → Prop} (hot : HotX.HotAt A x1 s.heap) (hne : x1 ≠ it)
    (hit : s.heap.IsListIter it l i) (hl : s.heap.IsList l items) (hx : items[i]? = none)
    (hQ : ∀ h', Heap.ExtBut it s.heap h' → Q none { s with heap := h' }) : wpAny (model prog w) A (pyNext (.ref it)) Q E s := by
  obtain ⟨oI, gI, cI, dI⟩ := id hit
  obtain ⟨oL, gL, _, nL, dL⟩ := hl
  obtain ⟨hh, o1, vs1, g1, d1, c1⟩ := hot
  unfold pyNext
  refine wpAny_bind (wpAny_attempt (wpAny_callSpecial?_slot (name := Str.ofString "__next__") hit.typeIs slot_listiter_next (wpAny_call_entry slot_listiter_next hit.typeIs entry_listiter_next ?_ (args_listiter_next _))))
  show wpAny _ _ ((field (.ref it) 0) >>= _) _ _ s
  refine wpAny_bind (wpAny_field gI dI (x := .ref l) rfl ?_)
  show wpAny _ _ (if (Value.ref l == .none) = true then _ else _) _ _ s
  rw [if_neg (show ¬ ((Value.ref l == Value.none) = true) from fun z => Bool.false_ne_true z)]
  show wpAny _ _ ((field (.ref it) 1) >>= _) _ _ s
  refine wpAny_bind (wpAny_field gI dI (x := .int i 0) rfl ?_)
  show wpAny _ _ ((seqItems? (.ref l)) >>= _) _ _ s
  refine wpAny_bind (wpAny_seqItems gL dL ?_)
  simp only [hx, Int.toNat_natCast]
  refine wpAny_bind (wpAny_rule (wpAny_bind (wpAny_setField gI dI (by simp) ?_)))
  have hb1 : Heap.SameBut it s.heap (s.heap.update it (Obj.mapFields (·.setIfInBounds 0 .none))) := Heap.SameBut.update ..
  have g1' := (hb1.2 x1 hne).trans g1
  refine wpAny_bind (m := newExc (.type "StopIteration") []) ?_
  simp only [newTuple, newExc]
  refine wpAny_bind (wpAny_newObj_type ?_ (by size_fits))
  refine wpAny_bind (m := firstArgMember _ _) (wpAny_of_eq (a := Value.none) (by first | rfl | (simp only [firstArgMember]; rfl)) ?_)
  refine wpAny_newObj_type ?_ (by size_fits)
  refine HotX.raiseNew_hot ⟨hh, o1, vs1, Heap.get?_push_of_some _ (Heap.get?_push_of_some _ g1'), d1, c1⟩ (Nat.ne_of_lt (Heap.lt_size (Heap.get?_push_of_some _ g1'))) (Heap.get?_push_size _ rfl) rfl (by first | (simp; done) | (simp; omega) | (simp only [Array.size_append]; simp; omega)) ?_
  refine wpAny_bind (wpAny_isInstance (b := true) (T := "StopIteration") ⟨_, Heap.get?_update_self _ (Heap.get?_push_size _ rfl) rfl, rfl⟩ isSubtype_stop ?_)
  refine wpAny_pure (hQ _ fun b o hb e => ?_)
  have e' := (hb1.2 b hb).trans e
  rw [Heap.get?_update_other _ _ (Nat.ne_of_gt (Heap.lt_size (Heap.get?_push_of_some _ e')))]
  exact Heap.get?_push_of_some _ (Heap.get?_push_of_some _ e')
end
end PySem
namespace DL
open PySem PySem.Spec PyProof.Rows L2
theorem hot_kept {A : Around} {x1 : Addr} {h h' : Heap} (hot : HotX.HotAt A x1 h) (k : ∀ o, h.get? x1 = some o → h'.get? x1 = some o) : HotX.HotAt A x1 h' := by
  obtain ⟨hh, o, vs, g, d, c⟩ := hot
  exact ⟨hh, o, vs, k o g, d, c⟩
theorem hot_ne_iter {A : Around} {x1 it l : Addr} {i : Nat} {h : Heap} (hot : HotX.HotAt A x1 h) (hit : h.IsListIter it l i) : x1 ≠ it := by
  intro z
  subst z
  obtain ⟨_, o, vs, g, d, c⟩ := hot
  obtain ⟨o2, g2, _, d2⟩ := hit
  rw [g] at g2
  cases g2
  rw [d] at d2
  cases d2
  simp at c
theorem walks_hot {prog : Program} {w : World} {A : Around} {x1 : Addr} (hh : A.handled = some (.ref x1)) (I ax : Addr) (hne : ax ≠ I) (items : Array Value) :
    Walks prog w A I [I, ax, x1] [I] items.size (fun i v => items[i]? = some v) (fun i h => h.IsListIter I ax i ∧ h.IsList ax items ∧ HotX.HotAt A x1 h) where
  sub := fun b hb => by simp at hb; simp [hb]
  frame := fun _ _ _ st k => ⟨st.1.at fun o e => k I (by simp) o e, st.2.1.at fun o e => k ax (by simp) o e, hot_kept st.2.2 fun o e => k x1 (by simp) o e⟩
  item := fun i s Q E hi st hQ => by
    have hx1 := hot_ne_iter st.2.2 st.1
    refine wpAny_pyNext_list_item st.1 st.2.1 (x := items[i]) (by simp [hi]) fun h' hit' sb => ?_
    exact hQ _ h' s.toks (by simp [hi]) ⟨hit', st.2.1.extBut sb.extBut hne, hot_kept st.2.2 fun o e => (sb.2 x1 hx1).trans e⟩ fun b o hb e => sb.extBut b o (fun z => hb (by simp [z])) e
  done := fun s Q E st hQ => dl_list_end_hot st.2.2 (hot_ne_iter st.2.2 st.1) st.1 st.2.1 (by simp) fun h' eb => hQ h' s.toks fun b o hb e => eb b o (fun z => hb (by simp [z])) e
  self := fun _ _ _ _ st h => wpAny_pyIter_listiter st.1 h
theorem sum_hot {prog : Program} {w : World} {A : Around} {E : Value → Shared → Prop} {s : Shared} {l x1 : Addr} {its : List Value} {ns : List Int} {Q : Value → Shared → Prop} (hot : HotX.HotAt A x1 s.heap) (hl : s.heap.IsList l its.toArray) (hi : IntsAre its ns)
    (h : ∀ h' tk t', (∀ b o, s.heap.get? b = some o → h'.get? b = some o) → Q (.int ns.sum t') { s with heap := h', toks := tk }) : wpAny (model prog w) A (call (.builtin "sum") [.ref l]) Q E s := by
  obtain ⟨xs, e⟩ := hi.allInts.items
  have hn : numsOf (intItems xs).toList = ns := by rw [← e]; exact hi.numsOf
  rw [nums_intItems] at hn
  rw [e] at hl
  have hot1 : HotX.HotAt A.in1 x1 s.heap := ⟨hot.1, hot.2⟩
  refine call_sum_walkG (iter_intList hl fun s2 e2 st hfp hlI => ?_)
  have hot2 : HotX.HotAt A.in1 x1 s2.heap := by
    rw [e2]
    exact hot_kept hot1 fun o q => Heap.get?_push_of_some _ q
  subst e2
  refine ⟨_, _, _, _, _, _, numAt xs, rfl, walks_hot (A := A.in1) hot.1 _ l hlI (intItems xs), ⟨st.1, st.2, hot2⟩, (fun b hb => ?_), (fun _ _ => intItems_at), fun h' tk t' hk => ?_⟩
  · rcases List.mem_cons.mp hb with z | z
    · exact hfp b (by simp [z])
    · rcases List.mem_cons.mp z with z | z
      · exact hfp b (by simp [z])
      · have : b = x1 := by simpa using z
        subst this
        obtain ⟨_, o, _, g, _⟩ := hot2
        exact Heap.lt_size g
  · have := h h' tk t' (old_kept hk)
    rw [preSum_eq, List.take_of_length_le (by simp [intItems]), hn]; exact this
/-- the handled exception is pinned -/
structure HotP (X : Cx) (p : Addr × Obj) : Prop where
  hd : X.A.handled = some (.ref p.1)
  fl : ∃ vs : Array Value, p.2.data = .fields vs ∧ vs[2]? = some .none
  mem : p ∈ X.pn
theorem HotP.at_ {X : Cx} {p : Addr × Obj} {pins : List (Addr × Obj)} {σ : L2.St} {H : Hp} {s : Shared} (c : HotP X p) (I : Inv X pins σ H s) : HotX.HotAt X.A p.1 s.heap := by
  obtain ⟨vs, d, z⟩ := c.fl
  exact ⟨c.hd, p.2, vs, (I.pin p (List.mem_append_left _ c.mem)).1, d, z⟩
theorem cr_sumH {X : Cx} {p : Addr × Obj} (hp : HotP X p) : CallR X (.builtin "sum") (rSum X.K) := by
  intro pins s σ H vs us Q I r h
  obtain ⟨a, ns, rfl, hs, q⟩ := h
  obtain ⟨its, rv, hl, _⟩ := I.list hs
  rw [Vals.ref1 r]
  exact sum_hot (hp.at_ I) hl.isList rv.ints fun h' tk t' hk => ⟨.int _, H, I.kept hk, ⟨_, rfl⟩, q⟩
end DL

set_option maxHeartbeats 4000000
/-! a list comprehension over a list, within an except suite -/
namespace DL
open PySem PySem.Spec PyProof.Rows L2
/-- what one list iterator gives, in any context that shows the handled exception -/
theorem list_step {X : Cx} {it a : Addr} {tg : Expr} {pins : List (Addr × Obj)} {σ : L2.St} {H : Hp} {s : Shared} {i : Nat} {E : Value → Shared → Prop} (I : Inv X pins σ H s) (hf : FpOk X pins H it) (st : s.heap.IsListIter it a i) (hg : (Itl X.K a).go i H) :
    wpAny (model X.prog X.w) X.A (pyNext (.ref it)) (fun r s1 => ∃ u, r = some u ∧ wpAny (model X.prog X.w) X.A (letOwnedTupleGo tg (.ref it) u) (fun _ s2 => ∃ x, Inv X pins σ H s2 ∧ RelV x u ∧ (Itl X.K a).yld i H x H ∧ s2.heap.IsListIter it a (i + 1)) E s1) E s := by
  obtain ⟨xs, x, hq, hx⟩ := hg
  obtain ⟨its, rv, p, hz⟩ := I.list hq
  obtain ⟨u, hu, ru⟩ := rv.get hx
  obtain ⟨f0, f1, f2, f3, f4, f5⟩ := hf
  refine wpAny_pyNext_list_item st p.isList (x := u) (by simpa using hu) fun h' st' sb => ?_
  have J : Inv X pins σ H { s with heap := h' } := I.turned (t' := s.toks) (fun b o hb e => (sb.2 b hb).trans e) f0 f1 f3 f4 f5
  obtain ⟨o, e, c, d⟩ := id st'
  exact ⟨u, rfl, go_of (s := { s with heap := h' }) e c d (by decide) ⟨x, J, ru, ⟨rfl, fun ys hy => by rw [J.list_inj hy hq]; exact hx⟩, st'⟩⟩
theorem list_stop {X : Cx} {it a x1 : Addr} {pins : List (Addr × Obj)} {σ : L2.St} {H : Hp} {s : Shared} {i : Nat} {E : Value → Shared → Prop} (I : Inv X pins σ H s) (hot : HotX.HotAt X.A x1 s.heap) (hf : FpOk X pins H it) (st : s.heap.IsListIter it a i) (hg : (Itl X.K a).stop i H) :
    wpAny (model X.prog X.w) X.A (pyNext (.ref it)) (fun r s1 => r = none ∧ Inv X pins σ H s1) E s := by
  obtain ⟨xs, hq, hx⟩ := hg
  obtain ⟨its, rv, p, hz⟩ := I.list hq
  obtain ⟨f0, f1, f2, f3, f4, f5⟩ := hf
  have hl := rv.length
  exact dl_list_end_hot hot (hot_ne_iter hot st) st p.isList (by simp; omega) fun h' eb => ⟨rfl, I.turned (t' := s.toks) (fun b o hb e => eb b o hb e) f0 f1 f3 f4 f5⟩
section
variable {X : Cx} {p : Addr × Obj} {elt tg l : Expr} {scope : Scope} {own : List (Str × Nat)} {pos : Pos} {tl : TE} {g : TG} {te : TE}
theorem pe_lcH (hp : HotP X p) (hN : X.N.Nodup) (hl : PE X l tl) (ok : BlkOk X.N X.env.scope scope own)
    (hg : ∀ (s : Shared) (H : Hp) (C : Addr) (cl : List (Str × Addr)) (fp : List Addr), PG (X.blk s H scope (compEnvC scope cl C X.env) fp) tg g)
    (he : ∀ (s : Shared) (H : Hp) (C : Addr) (cl : List (Str × Addr)) (fp : List Addr), PE (X.blk s H scope (compEnvC scope cl C X.env) fp) elt te) (hs : ∀ x, foldedSetIterable l X.env x = pure x := by intro _; rfl) :
    PE X (.ListComp elt [⟨tg, l, [], 0⟩] scope pos) (tLc (iList X.K tl) g tYes te (own.map (·.2))) := by
  refine ⟨fun pins s σ H Q I h => ?_⟩
  rw [eval_ListComp]
  have hfree : ∀ y ∈ scope.names, y.2 = .free → ∃ c, X.env.cells.lookup y.1 = some c := fun y hy e => (ok.free y hy e).elim (fun k => I.ok.has _ (.inl k)) fun k => I.ok.has _ (.inr k)
  refine wpAny_comprehension_free (use := none) rfl hs (closure_ok hfree) ok.kind (fun y hy e => by rw [ok.uniq y hy, e]) (thn (hl.run pins s σ H _ I h) fun xv s1 ⟨xV, H1, I1, r1, q1⟩ => ?_)
  obtain ⟨a, e, ⟨xs, hq⟩, q⟩ := q1
  subst e
  cases r1
  obtain ⟨its, rv, pl, hz⟩ := I1.list hq
  refine wpAny_pyIter_list pl.isList ?_
  -- the iterator, then the new list
  generalize hit : s1.heap.objs.size = it
  generalize e2 : ({ s1 with heap := s1.heap.push { cls := .type "list_iterator", data := .fields #[.ref a, .int 0 0] } } : Shared) = t2
  have k12 : ∀ b o, s1.heap.get? b = some o → t2.heap.get? b = some o := fun b o z => by rw [← e2]; exact Heap.get?_push_of_some _ z
  have J2 : Inv X pins σ H1 t2 := by rw [← e2]; exact I1.kept (t' := s1.toks) fun b o z => Heap.get?_push_of_some _ z
  have i2 : t2.heap.IsListIter it a 0 := by rw [← e2, ← hit]; exact ⟨_, Heap.get?_push_size _ rfl, rfl, rfl⟩
  have f2 : FpOk X pins H1 it := by rw [← hit]; exact I1.fpOk (Nat.le_refl _) (I1.hok.fresh (Nat.le_refl _))
  refine wpAny_newObj_type (newEnv_comp ?_) (by show 0 ≤ sizeLine; decide)
  generalize eD : t2.heap.objs.size = D
  have nD : H1 D = none := J2.hok.fresh (Nat.le_of_eq eD)
  obtain ⟨W, ⟨m0, w0⟩, turn⟩ := q D nD
  generalize e3 : ({ t2 with heap := t2.heap.push { cls := .type "list", data := .seq ([] : List Value).toArray } } : Shared) = t3
  have q3 : t3.heap = t2.heap.push { cls := .type "list", data := .seq ([] : List Value).toArray } := by rw [← e3]
  have J3 : Inv X pins σ (upd H1 D (.lst [])) t3 := by
    rw [← e3]
    exact J2.laid (t' := t2.toks) (fun b o z => Heap.get?_push_of_some _ z) (Nat.le_of_eq eD) ⟨Nat.zero_le _, [], 0, .nil, by rw [← eD]; exact Heap.get?_push_size _ rfl⟩
  have lit : it < t2.heap.objs.size := by obtain ⟨o, z, _⟩ := i2; exact Heap.lt_size z
  have i3 : t3.heap.IsListIter it a 0 := i2.at fun o z => by rw [q3]; exact Heap.get?_push_of_some _ z
  have f3 : FpOk X pins (upd H1 D (.lst [])) it := ⟨by rw [upd_ne (by rw [← eD]; exact Nat.ne_of_lt lit)]; exact f2.1, f2.2⟩
  have l3 : it < t3.heap.objs.size := by rw [q3, Heap.size_push]; exact Nat.lt_succ_of_lt lit
  have hot3 : HotX.HotAt X.A p.1 t3.heap := hp.at_ J3
  have P3 := J3.pin p (List.mem_append_left _ hp.mem)
  have J4 := block_start (fp := [it]) J3 ok hN fun b hb => by
    have : b = it := by simpa using hb
    subst this
    exact ⟨f3, l3⟩
  generalize eH : upd H1 D (.lst []) = H3 at J3 J4 w0 f3 P3
  generalize eC : compEnvC scope (cellsFrom (t3.heap.objs.size + 1) scope.names (cloFrom X.env.cells scope.names [])) t3.heap.objs.size X.env = ce at J4
  have pg := hg t3 H3 t3.heap.objs.size (cellsFrom (t3.heap.objs.size + 1) scope.names (cloFrom X.env.cells scope.names [])) [it]
  have pe := he t3 H3 t3.heap.objs.size (cellsFrom (t3.heap.objs.size + 1) scope.names (cloFrom X.env.cells scope.names [])) [it]
  rw [eC] at pg pe
  have cL : ce.locals = t3.heap.objs.size := by rw [← eC]; rfl
  generalize e4 : ({ t3 with heap := pushCells (t3.heap.push { cls := .type "dict", data := .dict #[] }) scope.names } : Shared) = t4 at J4
  have i4 : t4.heap.IsListIter it a 0 := i3.at fun o z => by rw [← e4]; exact pushCells_keeps _ _ _ _ (Heap.get?_push_of_some _ z)
  have stat : ∀ {σ' : L2.St} {H' : Hp} {s' : Shared}, Inv (X.blk t3 H3 scope ce [it]) [] σ' H' s' → H' it = none → FpOk (X.blk t3 H3 scope ce [it]) [] H' it := fun {σ' H' s'} I' hn =>
    ⟨hn, (I'.ok.exf it (by simp)).1, I'.ok.exfs it (by simp), .inl (by simp), fun x c e => (I'.ok.exf it (by simp)).2 x c e, fun z hz => absurd (show z ∈ ([] : List (Addr × Obj)) ++ [] from hz) (by simp)⟩
  have hotB : ∀ {σ' : L2.St} {H' : Hp} {s' : Shared}, Inv (X.blk t3 H3 scope ce [it]) [] σ' H' s' → HotX.HotAt X.A p.1 s'.heap := fun {σ' H' s'} I' => hot_kept hot3 fun o z => by
    refine I'.base.keep p.1 o z P3.2.1 (fun hm => ?_) (fun hm => ?_)
    · exact (List.mem_cons.mp (J3.stkSub p.1 hm)).elim P3.2.2.1 P3.2.2.2.1
    · have : p.1 = it := by simpa using hm
      exact hot_ne_iter hot3 i3 this
  suffices loop : codeAny (model X.prog X.w) X.A (.compLoop (.ListComp elt [⟨tg, l, [], 0⟩] scope pos) 0 (.ref it) (.ref D) ce) (compPost (model X.prog X.w) X.A X.xe none (EP X pins σ Q) (.ref D) t3.heap.objs.size) t4 by
    show codeAny _ _ (.compStart (.ListComp elt [⟨tg, l, [], 0⟩] scope pos) 0 (.ref it) (.ref D) (compEnvC scope (cellsFrom (t3.heap.objs.size + 1) scope.names (cloFrom X.env.cells scope.names [])) t3.heap.objs.size X.env)) (compPost (model X.prog X.w) X.A X.xe none (EP X pins σ Q) (.ref D) t3.heap.objs.size) _
    rw [eC]
    exact codeAny_compStart_list loop (wpAny_pyIter_listiter i4 loop)
  refine compLoop_any (fun n s' => ∃ i H', Inv (X.blk t3 H3 scope ce [it]) [] (L2.wipe σ (own.map (·.2))) H' s' ∧ s'.heap.IsListIter it a i ∧ H' it = none ∧ W i n H') ?_ m0 ⟨0, H3, J4, i4, f3.1, w0⟩
  rintro n s5 ⟨i, H5, J5, i5, n5, w5⟩
  rcases turn i n H5 w5 with ⟨stop, qq⟩ | ⟨go, Nx, hNx, step⟩
  · refine thnF (list_stop (X := X.blk t3 H3 scope ce [it]) (E := fun _ _ => False) J5 (hotB J5) (stat J5 n5) i5 stop) fun r s6 ⟨hr, J6⟩ => ?_
    subst hr
    have J7 : Inv X pins σ H5 s6 := J3.call' (ch := [it]) J6.os J6.base J6.hok J6.bare fun b hb => by
      have : b = it := by simpa using hb
      subst this
      exact ⟨f3.2.2.2.1, f3.2.1, f3.2.2.2.2.1, f3.2.2.2.2.2⟩
    have nC : H5 t3.heap.objs.size = none := by rw [← cL]; exact J6.free
    obtain ⟨m, hn, _⟩ := J6.loc
    have hn : s6.heap.Ns ce.locals m := hn
    rw [cL] at hn
    refine ⟨m, hn, fun h'' sb => ?_⟩
    obtain ⟨g0, g1, g2, g3, g4, g5⟩ := J3.fpOk (H' := H5) (Nat.le_refl _) nC
    exact ⟨.ref D, H5, J7.turned (t' := s6.toks) (fun b o hb z => (sb.2 b hb).trans z) g0 g1 g3 g4 g5, rfl, qq⟩
  · refine thnF (list_step (X := X.blk t3 H3 scope ce [it]) (tg := tg) (E := fun _ _ => False) J5 (stat J5 n5) i5 go) fun r s6 ⟨u, hr, h6⟩ => ?_
    subst hr
    refine thnF h6 fun _ s7 ⟨x, J7, r7, y7, i7⟩ => ?_
    have obj7 : ∀ b ∈ [it], ∃ o, s7.heap.get? b = some o ∧ ∀ v, o.data ≠ .cell v := fun b hb => by
      have : b = it := by simpa using hb
      subst this
      obtain ⟨o, z, c, d⟩ := i7
      exact ⟨o, z, fun v w => by rw [d] at w; cases w⟩
    have stat7 : ∀ b ∈ [it], FpOk (X.blk t3 H3 scope ce [it]) [] H5 b := fun b hb => by
      have : b = it := by simpa using hb
      subst this
      exact stat J7 n5
    refine thnF (pg.run _ s7 _ H5 x u _ (J7.pinned stat7 obj7) r7 (step x H5 y7)) fun _ s8 ⟨σ8, H8, J8, hw8, q8⟩ => ?_
    have q8 : te σ8 H8 _ := q8
    refine wpAny_tests_nil (thnF (pe.run _ s8 σ8 H8 _ J8 q8) fun z s10 ⟨yv, H10, J10, r10, acc, hD10, hz10, nx⟩ => ?_)
    refine app_ok (X := X.blk t3 H3 scope ce [it]) J10 hD10 hz10 r10 fun s11 J11 => ?_
    obtain ⟨m', hm, w'⟩ := hNx _ nx
    have pin' : ∀ o, s7.heap.get? it = some o → s11.heap.get? it = some o ∧ (upd H10 D (.lst (acc ++ [yv]))) it = none := fun o z => by
      have y := J11.pin (it, o) (List.mem_append_right _ (List.mem_append_right _ (mem_pinsAt (by simp) z)))
      exact ⟨y.1, y.2.1⟩
    have hlen : (L2.wipe σ (own.map (·.2))).length = σ8.length := by rw [← hw8, wipe_length]
    refine ⟨m', hm, i + 1, _, (J11.unpinned (pins := [])).weak hlen (fun j v z => ?_), i7.at fun o z => (pin' o z).1, ?_, w'⟩
    · rw [← hw8] at z
      exact (wipe_some z).1
    · obtain ⟨o, z, _⟩ := i7
      exact (pin' o z).2
end
end DL

set_option maxHeartbeats 4000000
/-! readings within an except suite: isinstance of what was caught, sum, a comprehension -/
namespace DL
open PySem PySem.Spec PyProof.Rows L2
/-- the caught object, of the class at D -/
structure Caught (X : Cx) (p : Addr × Obj) (D : Addr) : Prop extends HotP X p where
  C : ExcC X.K D
  cls : p.2.cls = .ref D
  dict : p.2.dict = none
theorem call_isP {X : Cx} {p : Addr × Obj} {D : Addr} (c : Caught X p D) : CallR X (.builtin "isinstance") (rIsE X.K D p.1) := by
  intro pins s σ H xs us Q I r h
  obtain ⟨cV, cv, b, rfl, hcv, e, q⟩ := h
  obtain ⟨u, w, rfl, ru, rw_⟩ := r.two
  cases ru
  have ec := hcv _ rw_
  subst ec
  obtain ⟨vs, hv, _⟩ := c.fl
  have g := (I.pin p (List.mem_append_left _ c.mem)).1
  have J : PySem.W.InstAt s.heap p.1 p.2 D none := by
    have h1 := c.cls
    have h2 := c.dict
    generalize p.2 = o at g h1 h2 hv ⊢
    obtain ⟨oc, od, oda, osl⟩ := o
    dsimp only at h1 h2 hv
    subst h1 h2 hv
    exact ⟨g, rfl, rfl, trivial⟩
  exact PySem.W.kia_one (PySem.W.handS_kitx_exc c.C.hg c.C.hk c.C.hs c.C.hd c.C.ha c.C.hn c.C.ht c.C.hm) I.kIn J e (fun z => nomatch z) fun tk => ⟨.bl b, H, I.kept (t' := tk) fun _ _ z => z, rfl, q⟩
/-- isinstance(e, C): the answer is known -/
def fIsE (i : Nat) (a : Addr) (b : Bool) : F := fun ev st => match ev[i]? with
  | some (some (.exc a')) => if a' = a then .ok (.dat (.bool b)) st else .stuck
  | _ => .stuck
section
variable {X : Cx} {T : Tb} {δ : Dl} {E : XK} {p : Addr × Obj} {D : Addr}
theorem isE_read {K : PySem.W.Frag} {i : Nat} {b : Bool} {c : V} {cv : Value} (hcv : ∀ u, RelV c u → u = cv) (hk : PySem.W.kitOne K (.ref D) cv = some b) : ∀ σ H Q, tD K T δ E (fIsE i p.1 b) σ H Q → tCB (rIsE K D p.1) (tCons (tVar i) (tCons (tC c) tNil)) σ H Q := fun σ H Q ⟨lk, G, ev, st, r, h⟩ => by
  unfold fIsE at h
  split at h
  · rename_i a' ei
    split at h
    · rename_i ea
      obtain ⟨v, e1, e2⟩ := r.sl i _ ei
      have e2 : v = .ref a' := e2
      subst e2 ea
      exact ⟨_, e1, c, cv, b, rfl, hcv, hk, EndE.here r h (.bl b)⟩
    · exact h.elim
  · exact h.elim
/-- an own class -/
theorem de_isE (i : Nat) {b : Bool} {x y : Str} {C : Addr} {p1 p2 p3 pos : Pos} (c : Caught X p D) (hg : Gl X "isinstance") (hm : X.mg "isinstance" = none) (hg2 : Gl X y) (hm2 : X.mg y = some (.ref C)) (hk : PySem.W.kitOne X.K (.ref D) (.ref C) = some b) (hN : X.N[i]? = some x)
    (hv : Vis X.env.scope x) (hd : (x == ("__debug__" : Str)) = false := by decide) (hcd : (x == ("__classdict__" : Str)) = false := by decide) (hd2 : (y == ("__debug__" : Str)) = false := by decide)
    (he : starEach (.Name x p2 :: [.Name y p3]) X.env = (false, eval (.Name x p2) X.env) :: starEach [.Name y p3] X.env := by rfl) (he2 : starEach [.Name y p3] X.env = (false, eval (.Name y p3) X.env) :: starEach [] X.env := by rfl) (hpl : (backTo pos (starEach [.Name y p3] X.env)).any (·.1) = false := by rfl) :
    DE X T δ E (.Call (.Name "isinstance" p1) [.Name x p2, .Name y p3] [] pos) (fIsE i p.1 b) :=
  PE.imp (pe_callB (call_isP c) hg hm (by decide +kernel) (pa_cons (pe_var hN hv hd hcd) (pa_cons (pe_glob (v := .ref C) hg2 hm2 rfl hd2) pa_nil he2) he) (by decide) (by decide) he hpl) (isE_read (fun u r => r) hk)
/-- ValueError -/
theorem de_isV (i : Nat) {b : Bool} {x y : Str} {t : String} {p1 p2 p3 pos : Pos} (c : Caught X p D) (hg : Gl X "isinstance") (hm : X.mg "isinstance" = none) (hg2 : Gl X y) (hm2 : X.mg y = none) (hv2 : bootBuiltins y = some (.type t)) (hk : PySem.W.kitOne X.K (.ref D) (.type t) = some b) (hN : X.N[i]? = some x)
    (hv : Vis X.env.scope x) (hd : (x == ("__debug__" : Str)) = false := by decide) (hcd : (x == ("__classdict__" : Str)) = false := by decide) (hn2 : y ≠ "__name__" := by decide) (hd2 : (y == ("__debug__" : Str)) = false := by decide)
    (he : starEach (.Name x p2 :: [.Name y p3]) X.env = (false, eval (.Name x p2) X.env) :: starEach [.Name y p3] X.env := by rfl) (he2 : starEach [.Name y p3] X.env = (false, eval (.Name y p3) X.env) :: starEach [] X.env := by rfl) (hpl : (backTo pos (starEach [.Name y p3] X.env)).any (·.1) = false := by rfl) :
    DE X T δ E (.Call (.Name "isinstance" p1) [.Name x p2, .Name y p3] [] pos) (fIsE i p.1 b) :=
  PE.imp (pe_callB (call_isP c) hg hm (by decide +kernel) (pa_cons (pe_var hN hv hd hcd) (pa_cons (pe_bltn (v := .ty t) hg2 hm2 hv2 rfl hn2 hd2) pa_nil he2) he) (by decide) (by decide) he hpl) (isE_read (fun u r => r) hk)
theorem cd_sumH (hp : HotP X p) : CallD X T (.builtin "sum") gSum := by
  intro pins s σ H vs us Q I rv h
  obtain ⟨G, ds, d, sub, nt, ha, hg, q⟩ := h
  unfold gSum at hg
  split at hg
  · obtain ⟨is, e1, e2⟩ := Option.map_eq_some_iff.mp hg
    obtain ⟨v, rfl, h⟩ := ha.one
    obtain ⟨a, xs, rfl, hp', ra⟩ := h.list sub
    subst e2
    rw [intsOf_eq e1] at ra
    rw [ra.ints] at hp'
    exact cr_sumH hp pins s σ H _ us Q I rv ⟨_, is, rfl, SqL.of hp', same_ sub nt (.int _) q⟩
  · cases hg
theorem ilist_read {K : PySem.W.Frag} {fa : F} : ∀ σ H R, tI K T δ E (fiL fa) σ H R → iList K (tD K T δ E fa) σ H R := fun σ H R ⟨lk, G, ev, st, r, h⟩ =>
  goE (e := fun G H r => EndI K T δ E G H R r) r h fun sv st1 v G1 H1 e1 f1 r1 x1 h1 => by
    split at h1
    · cases x1 with
      | lst hp ra => exact ⟨_, rfl, ⟨_, SqL.of (r1.sub _ _ hp)⟩, h1 _ G1 H1 (.rf r1.sub r1.nt) r1.di (walk_l hp ra)⟩
    · exact h1.elim
theorem de_lcH {elt tg l : Expr} {scope : Scope} {own : List (Str × Nat)} {pos : Pos} {fl fe : F} {t : Tg} {ss : List Nat} (hp : HotP X p) (hN : X.N.Nodup) (hl : DE X T δ E l fl) (ok : BlkOk X.N X.env.scope scope own)
    (hg : ∀ (s : Shared) (H : Hp) (C : Addr) (cl : List (Str × Addr)) (fp : List Addr), DG (X.blk s H scope (compEnvC scope cl C X.env) fp) T δ tg t ss)
    (he : ∀ (s : Shared) (H : Hp) (C : Addr) (cl : List (Str × Addr)) (fp : List Addr), DE (X.blk s H scope (compEnvC scope cl C X.env) fp) T δ noE elt fe) (hss : ∀ i ∈ ss, i ∈ own.map (·.2) := by decide) (hs : ∀ x, foldedSetIterable l X.env x = pure x := by intro _; rfl) :
    DE X T δ E (.ListComp elt [⟨tg, l, [], 0⟩] scope pos) (fLc (fiL fl) t none fe (own.map (·.2))) :=
  PE.imp (pe_lcH (g := tG T δ t ss) (te := tD X.K T δ noE fe) hp hN hl ok hg he hs) fun σ H Q h => ilist_read σ H _ (lc_read hss σ H Q h)
end
end DL

set_option maxHeartbeats 4000000
/-! a def that is handed what was caught -/
namespace DL
open PySem PySem.Spec PyProof.Rows L2
def errD (c : Exn) : D := .tuple [.str "error", .str c.name]
/-- such a def's promise: p is the handled exception -/
def RunE (P : Program) (w : World) (K : PySem.W.Frag) (mg : Str → Option Value) (base : Heap) (k : Nat) (f : Addr) (fd : FuncData) (ps : List Str) (sp : (Addr × Obj) → Sp) : Prop :=
  ∀ (A : Around) (outer : List Env) (s : Shared) (H : Hp) (us : List Value) (vs : List V) (Q : VK) (E : XK) (p : Addr × Obj), L2H.RoomH k A → L2H.Hot1 A p → L2H.PinOk outer H s p → Env0 P w K mg base A outer s H → BindsTo s fd ⟨us, []⟩ (ps.zip us) → Vals vs us → vs.length = ps.length → sp p vs H Q E →
    codeAny (model P w) A (.call (.ref f) ⟨us, []⟩) (CR (L2N.CX P w) outer P w H s Q E) s
def spTerm (K : PySem.W.Frag) (T : Tb) (p : Addr × Obj) : Sp := fun vs H Q E => ∃ c δ G st, p.2.cls = .ref (He.ga K c.name) ∧ p.2.dict = none ∧ vs = [.ref p.1] ∧ Gd T δ G H st ∧ ∀ v G' H', Fr T δ G H G' H' → DiceAt δ G' H' st → Rp G' v (errD c) → Q v H'
section
variable {P : Program} {w : World} {K : PySem.W.Frag} {mg : Str → Option Value} {base : Heap} {k : Nat} {f : Addr} {fd : FuncData} {x : Str} {params : Arguments} {body : List Stmt} {scope : Scope} {N ps : List Str} {T : Tb}
theorem start_exc {δ : Dl} {G H : Hp} {a : Addr} {st : DSt} (gd : Gd T δ G H st) (hl : 1 ≤ N.length) : RelS T δ G H G H (L2.start N [V.ref a]) (ev0 N.length [.exc a]) st := by
  have av : AllV false δ G H [V.ref a] [SV.exc a] := .cons rfl .nil
  exact start_rel gd av rfl hl
theorem runE_of {fs : Addr → Exn → FS} (F : FunD K x x params body scope [] [] f fd) (S : FnScope N ["_law_e"] scope) (hle : 1 ≤ N.length) (hC : ∀ c : Exn, ExcC K (He.ga K c.name))
    (hb : ∀ (cdv : Value) (A : Around) (outer : List Env) (s : Shared) (H0 : Hp) (E : XK) (δ : Dl) (G0 : Hp) (p : Addr × Obj) (c : Exn), L2H.RoomH k (A.deeper (envOfC x scope s.heap.objs.size f cdv)) → Caught (L2H.cxH (L2N.CX P w) P w K mg base N x scope f cdv A outer s H0 E p) p (He.ga K c.name) →
      DSs (L2H.cxH (L2N.CX P w) P w K mg base N x scope f cdv A outer s H0 E p) T δ E G0 H0 body (fs p.1 c))
    (hg : ∀ a c st, runF N.length (fs a c) [.exc a] st = .ok (errD c) st) : RunE P w K mg base (k + 1) f fd ["_law_e"] (spTerm K T) := by
  intro A outer s H us vs Q E p hr hot hpin e0 hbi r hl hsp
  obtain ⟨oc, od, dV, kV, doc, pm, an, cdv, ct, osl, rfl, lk, hcd, hD, hK⟩ := F.ex
  obtain ⟨c, δ, G, st, hcls, hdict, hvs, gd, q⟩ := hsp
  subst hvs
  have inK : K.In s.heap := e0.mod.kin.keeps fun b o e => (e0.bs b o e).1
  have noLim : s.heap.NoLimit := e0.mod.nolimit.keeps fun b o e => (e0.bs b o e).1
  have kinds : ∀ y ∈ (["_law_e"] : List Str).zip us, scope.names.lookup y.1 = some .local ∨ (scope.names.lookup y.1 = some .cell ∧ ((cellsFrom (s.heap.objs.size + 1) scope.names []).lookup y.1).isSome = true) := fun ⟨n, v⟩ hy =>
    (S.par n (List.of_mem_zip hy).1).elim .inl fun q => .inr ⟨q, PySem.W.cellsFrom_some _ _ _ (.inl q)⟩
  refine codeAny_call_function hr.depth (inK _ _ lk) rfl S.co S.gen rfl (PySem.W.codeRec_of inK hcd) (hbi _ _ _ _ (wpAny_newFunctionEnv_cells S.kind kinds fun env he s1 xx => ?_))
  subst he
  refine ⟨noLim.keeps xx.toInCall.keep, codeAny_func ?_⟩
  have J := L2H.inv_startH (CX := L2N.CX P w) (mg := mg) (base := base) (qual := x) (f := f) (cd := cdv) (E := E) S hpin e0 hl r xx
  have hc : Caught (L2H.cxH (L2N.CX P w) P w K mg base N x scope f cdv A outer s H E p) p (He.ga K c.name) := ⟨⟨hot.1, hot.2, List.mem_cons_self⟩, hC c, hcls, hdict⟩
  have body_ := hb cdv A outer s H E δ G p c (hr.deeper _) hc
  have e := hg p.1 c st
  have run := body_.run [] s1 _ H { nx := fun _ H' => Q .non H', rt := Q } J ⟨G, ev0 N.length [.exc p.1], st, start_exc gd hle, by
    unfold runF at e
    cases z : fs p.1 c (ev0 N.length [.exc p.1]) st with
    | exc c' st1 => rw [z] at e; cases e
    | stuck => rw [z] at e; cases e
    | ok fl st1 =>
      rw [z] at e
      cases fl with
      | nx ev1 => cases e
      | ret d => cases e; exact fun v G' H' f' d' rp => q v G' H' f' d' rp⟩
  refine wpAny_mono run (fun fl s' h => ?_) fun e s' h => h
  have fin : ∀ {σ' : L2.St} {H' : Hp} {v : V} {u : Value}, Inv (L2H.cxH (L2N.CX P w) P w K mg base N x scope f cdv A outer s H E p) [] σ' H' s' → RelV v u → Q v H' → CE outer P w H s Q u s' := fun {σ' H' v u} I' rv z => ⟨v, H', I'.os, I'.bare, I'.base, I'.hok, rv, z⟩
  cases fl with
  | ret u => obtain ⟨v, σ', H', I', rv, z⟩ := h; exact fin I' rv z
  | next => obtain ⟨σ', H', I', z⟩ := h; exact fin (v := V.non) (u := Value.none) I' rfl z
  | brk => obtain ⟨_, _, _, z⟩ := h; exact False.elim z
  | cont => obtain ⟨_, _, _, z⟩ := h; exact False.elim z
end
/-- x(e), e the caught one -/
theorem pe_callE {X : Cx} {p : Addr × Obj} {k : Nat} {f : Addr} {fd : FuncData} {x : Str} {sp : (Addr × Obj) → Sp} {E : XK} {e : Expr} {ta : TE} {q pos : Pos} {a : Str} (hp : L2H.Hot1 X.A p) (hpn : p ∈ X.pn) (F : RunE X.prog X.w X.K X.mg X.base k f fd [a] sp) (hsl : ∀ p vs H Q E, sp p vs H Q E → vs.length = 1) (hr : L2H.RoomH k X.A) (hg : Gl X x) (hm : X.mg x = some (.ref f)) (hk : PySem.W.keepIn X.K (.ref f) = true) (hb : Binds X.K fd [a] [])
    (hx : Passes (L2N.CX X.prog X.w) X E) (ha : PE X e ta) (hdb : (x == ("__debug__" : Str)) = false := by decide) (he : starEach (e :: []) X.env = (false, eval e X.env) :: starEach [] X.env := by rfl) (hpl : (backTo pos (starEach [] X.env)).any (·.1) = false := by rfl) :
    PE X (.Call (.Name x q) [e] [] pos) (fun σ H Q => ta σ H fun v H1 => sp p [v] H1 Q E) := by
  refine ⟨fun pins s σ H Q I h => ?_⟩
  refine wpAny_Call_Name_kw (ld_glob I hg hm ?_ hdb)
  refine PySem.W.callWith_K (h₀ := X.base) I.ok.mod.kin hk (thn ((pa_cons ha pa_nil he).run pos pins s σ H (fun vs H1 => sp p vs H1 Q E) I h) fun us s1 ⟨vs, H1, I1, r, z⟩ => ⟨I1.kIn, ?_⟩) he hpl
  have hl := hsl _ _ _ _ _ z
  have bnd := hb s1 us I1.kIn (by rw [List.append_nil, ← r.length, hl]; rfl)
  rw [List.append_nil] at bnd
  have P1 := I1.pin p (List.mem_append_left _ hpn)
  have hpin : L2H.PinOk X.stack H1 s1 p := ⟨P1.1, P1.2.1, fun hm => (List.mem_cons.mp (I1.stkSub p.1 hm)).elim P1.2.2.1 P1.2.2.2.1, P1.2.2.2.2⟩
  refine wpAny_call (codeAny_mono (F X.A X.stack s1 H1 us vs Q E p hr hp hpin I1.env0 bnd r hl z) fun rr s' hq => ?_)
  cases rr with
  | error e => exact hx pins σ H1 s1 e s' I1 hq
  | ok fl =>
    cases fl with
    | ret u => exact I1.after hq
    | next => exact False.elim hq
    | brk => exact False.elim hq
    | cont => exact False.elim hq
end DL

set_option maxHeartbeats 4000000
/-! a lambda that may raise, told by a def: try: return deed() / except X as e: return term(e) -/
namespace DL
open PySem PySem.Spec PyProof.Rows L2 LamX
/-- the lambda's context, exceptions of None context let out -/
abbrev lamN (X : Cx) (A : Around) (outer : List Env) (s : Shared) (H : Hp) (E : XK) (scope : Scope) (f c' : Addr) : Cx := (lamCx X A outer s H E scope f c').tr [] fun e s' =>
  wpAny (model X.prog X.w) (A.deeper (lamEnv X scope s.heap.objs.size f c')) (leaving (lamEnv X scope s.heap.objs.size f c') e) (fun _ s'' => L2N.CX X.prog X.w outer H s E e s'') (fun e' s'' => L2N.CX X.prog X.w outer H s E e' s'') s'
section
variable {X : Cx} {pins : List (Addr × Obj)} {σ : L2.St} {H : Hp} {s : Shared}
theorem pe_actN {Eg : XK} {Ng : List Str} {qg : Str} {sg : Scope} {g f c' : Addr} {cdg pm ctv : Value} {params : Arguments} {body : Expr} {scope : Scope} {k i : Nat} {a : Str} {pn : List (Addr × Obj)} {xe : Value → Shared → Prop} {W : WX} {E : XK} {tb : TE} {p1 p2 : Pos}
    (I : Inv X pins σ H s) (L : LamS X.env.scope scope) (hf : s.heap.get? f = some (PySem.W.kla_obj "<lambda>" (X.env.qual ++ "<lambda>") params body scope (cloFrom X.env.cells scope.names []) pm c' ctv)) (hfn : H f = none) (hfr : f ∉ frs X.stack)
    (hbind : bindArgs (PySem.W.kla_fn "<lambda>" (X.env.qual ++ "<lambda>") params body scope (cloFrom X.env.cells scope.names []) pm (.ref c') ctv) ⟨[], []⟩ = pure [])
    (tk : L2N.Takes ((cxOf C8.CX0 X.prog X.w X.K X.mg X.base Ng qg sg g cdg X.A X.stack s H Eg).tr pn xe) W) (hW : ∀ cls d σ' H', E cls d H' → W cls d σ' H') (hr : Room (k + 1) (X.A.deeper (envOfC qg sg s.heap.objs.size g cdg)))
    (hbody : ∀ (A : Around) (outer : List Env) (s : Shared) (H : Hp), Room k (A.deeper (lamEnv X scope s.heap.objs.size f c')) → PE (lamN X A outer s H E scope f c') body tb)
    (hN : Ng[i]? = some a) (hv : Vis sg a) (hd : (a == ("__debug__" : Str)) = false) (hcd : (a == ("__classdict__" : Str)) = false) :
    PE ((cxOf C8.CX0 X.prog X.w X.K X.mg X.base Ng qg sg g cdg X.A X.stack s H Eg).tr pn xe) (.Call (.Name a p1) [] [] p2) (fun σZ HZ Q => σZ[i]? = some (some (.ref f)) ∧ HZ c' = some (CodeO c' (X.env.qual ++ "<lambda>")) ∧ tb σ HZ Q) := by
  refine ⟨fun pinsZ sZ σZ HZ Q IZ ⟨hs, hc, ht⟩ => ?_⟩
  have nm : PE ((cxOf C8.CX0 X.prog X.w X.K X.mg X.base Ng qg sg g cdg X.A X.stack s H Eg).tr pn xe) (.Name a p1) (tVar i) := pe_var hN hv hd hcd
  refine wpAny_Call_Name_kw (thn (nm.run pinsZ sZ σZ HZ (fun v H1 => v = .ref f ∧ H1 = HZ) IZ ⟨.ref f, hs, rfl, rfl⟩) fun u s1 ⟨v, H1, I1, r1, ev, eH⟩ => ?_)
  subst ev
  rw [eH] at I1
  obtain rfl : u = Value.ref f := r1
  have fAt : s1.heap.get? f = some (PySem.W.kla_obj "<lambda>" (X.env.qual ++ "<lambda>") params body scope (cloFrom X.env.cells scope.names []) pm c' ctv) := I1.base.keep f _ hf hfn hfr fun z => nomatch (show f ∈ ([] : List Addr) from z)
  refine PySem.W.callWith_F0 ⟨_, _, _, _, fAt⟩ ?_
  have un : Un (frs X.stack) [] H HZ s.heap s1.heap := I1.base
  obtain ⟨⟨oc, vs, t, hoc, hdc, hvc⟩, _, _⟩ := I1.hok c' _ hc
  have inner : codeAny (model X.prog X.w) (X.A.deeper (envOfC qg sg s.heap.objs.size g cdg)) (.call (.ref f) ⟨[], []⟩) (CR (L2N.CX X.prog X.w) (envOfC qg sg s.heap.objs.size g cdg :: X.stack) X.prog X.w HZ s1 Q E) s1 := by
    refine PySem.W.kla_callFunE hr.depth fAt rfl L.co L.gen rfl ⟨c', oc, vs, t, rfl, hoc, hdc, hvc⟩ ?_
    rw [hbind]
    refine wpAny_pure (wpAny_newFunctionEnv (fun y hy => (L.own y hy).2) (fun y hy => absurd hy (by simp)) (fun h₁ hns hsb => ⟨I1.nolimit.fresh _ hsb, ?_⟩) L.kind)
    show codeAny _ _ (.expr body (lamEnv X scope s1.heap.objs.size f c')) _ _
    have kp : ∀ b o, s1.heap.get? b = some o → h₁.get? b = some o := fun b o e => hsb.extBut b o (Nat.ne_of_lt (Heap.lt_size e)) (Heap.get?_push_of_some _ e)
    have J0 : Inv (lamCx X (X.A.deeper (envOfC qg sg s.heap.objs.size g cdg)) (envOfC qg sg s.heap.objs.size g cdg :: X.stack) s1 HZ E scope f c') [] σ HZ { s1 with heap := h₁, toks := s1.toks + ([] : List (Str × Value)).length } := lam_start2 I L I1.env0 hr.hd un hns kp
    have J : Inv (lamN X (X.A.deeper (envOfC qg sg s.heap.objs.size g cdg)) (envOfC qg sg s.heap.objs.size g cdg :: X.stack) s1 HZ E scope f c') [] σ HZ { s1 with heap := h₁, toks := s1.toks + ([] : List (Str × Value)).length } := J0.toTry _
    refine PySem.W.kla_codeExpr (wpAny_mono ((hbody _ _ s1 HZ (hr.deeper _)).run [] _ _ HZ Q J ht) (fun v s' ⟨w', H', J', rv, q⟩ => ?_) fun e s' hq => hq)
    exact ⟨w', H', J'.os, J'.bare, J'.base, J'.hok, rv, q⟩
  have hx : Passes (L2N.CX X.prog X.w) ((cxOf C8.CX0 X.prog X.w X.K X.mg X.base Ng qg sg g cdg X.A X.stack s H Eg).tr pn xe) E := L2N.passes_call tk hW
  refine wpAny_call (codeAny_mono inner fun r s' hq => ?_)
  cases r with
  | error e => exact hx pinsZ σZ HZ s1 e s' I1 hq
  | ok fl =>
    cases fl with
    | ret u => exact I1.after hq
    | next => exact False.elim hq
    | brk => exact False.elim hq
    | cont => exact False.elim hq
end
/-- what the def makes of the lambda -/
def GivesN (X : Cx) (Ng : List Str) (x : Str) (sg : Scope) (g : Addr) (cdg : Value) (bg : List Stmt) (a : Str) (q : Str) (k : Nat) (TT : (XK → Hp → VK → Prop) → Hp → VK → Prop) : Prop :=
  ∀ (f c' : Addr) (s : Shared) (H : Hp) (Q : VK) (tl : XK → Hp → VK → Prop), Room k (X.A.deeper (envOfC x sg s.heap.objs.size g cdg)) →
    (∀ (W : WX) (pn : List (Addr × Obj)) (xe : Value → Shared → Prop) (E : XK) (p1 p2 : Pos), L2N.Takes ((cxOf C8.CX0 X.prog X.w X.K X.mg X.base Ng x sg g cdg X.A X.stack s H C8.E0).tr pn xe) W → (∀ cls d σ' H', E cls d H' → W cls d σ' H') →
      PE ((cxOf C8.CX0 X.prog X.w X.K X.mg X.base Ng x sg g cdg X.A X.stack s H C8.E0).tr pn xe) (.Call (.Name a p1) [] [] p2) (fun σZ HZ Q => σZ[0]? = some (some (.ref f)) ∧ HZ c' = some (CodeO c' q) ∧ tl E HZ Q)) →
    H c' = some (CodeO c' q) → TT tl H Q →
    ∃ t, PSs (cxOf C8.CX0 X.prog X.w X.K X.mg X.base Ng x sg g cdg X.A X.stack s H C8.E0).nox bg t ∧ t { nx := fun _ H' => Q .non H', rt := Q } (L2.start Ng [.ref f]) H
section
variable {X : Cx}
theorem pe_lamN {T : List (Addr × Str)} {TT : (XK → Hp → VK → Prop) → Hp → VK → Prop} {x a : Str} {g c P : Addr} {k : Nat} {pg : Arguments} {bg : List Stmt} {sg : Scope} {dV kV doc pm cdv ct oc : Value} {an od : Option Addr} {osl : Array (Option Value)} {Ng : List Str}
    {params : Arguments} {body : Expr} {scope : Scope} {t : XK → TE} {p lpos pos : Pos} (hg : Gl X x) (hm : X.mg x = some (.ref g)) (hk : PySem.W.keepIn X.K (.ref g) = true)
    (lk : X.K.lookup g = some ⟨oc, od, .func (PySem.W.fnOf x x pg bg sg dV kV doc pm an cdv ct), osl⟩) (hcg : PySem.W.codeIn X.K cdv x = true) (hb : L2.Binds X.K (PySem.W.fnOf x x pg bg sg dV kV doc pm an cdv ct) [a] []) (Sg : FnScope Ng [a] sg) (hNg : Ng[0]? = some a) (hva : Vis sg a)
    (hG : GivesN X Ng x sg g cdv bg a (X.env.qual ++ "<lambda>") (k + 1) TT)
    (TB : TabB X.base X.mg c P) (hcode : X.env.code = .ref c) (hmT : (P, X.env.qual ++ "<lambda>") ∈ T) (hu : ∀ p ∈ T, p.1 = P → p.2 = X.env.qual ++ "<lambda>") (hr : Room (k + 2) X.A) (L : LamS X.env.scope scope) (hdef : defaultsOf params X.env = ([], []))
    (hbind : ∀ (q : Str) (cl : List (Str × Addr)) (pm cv ctv : Value), bindArgs (PySem.W.kla_fn "<lambda>" q params body scope cl pm cv ctv) ⟨[], []⟩ = pure [])
    (hbody : ∀ (A : Around) (outer : List Env) (s : Shared) (H : Hp) (E : XK) (f c' : Addr), Room k (A.deeper (lamEnv X scope s.heap.objs.size f c')) → PE (lamN X A outer s H E scope f c') body (t E))
    (hdb : (x == ("__debug__" : Str)) = false) (hd : (a == ("__debug__" : Str)) = false) (hcd : (a == ("__classdict__" : Str)) = false) :
    PE X (.Call (.Name x p) [.Lambda params body scope lpos] [] pos) (tLam T TT t) := by
  refine ⟨fun pins s σ H Q I ⟨hT, h⟩ => ?_⟩
  refine wpAny_Call_Name_kw (ld_glob I hg hm ?_ hdb)
  refine PySem.W.callWith_K (h₀ := X.base) I.ok.mod.kin hk ?_ (by rfl) (by rfl)
  show wpAny _ _ (spliced ((false, eval (.Lambda params body scope lpos) X.env) :: backTo pos (starEach [] X.env))) _ _ s
  refine Calls.spliced_cons (lam_make2 I TB hcode hmT hu hT hdef (L.has I.ok) fun f c' pm' ctv H1 s' I1 eN T1 hf hfn hfr hco => Calls.spliced_nil ⟨I1.kIn, ?_⟩)
  have run : codeAny (model X.prog X.w) X.A (.call (.ref g) ⟨[.ref f], []⟩) (CR C8.CX0 X.stack X.prog X.w H1 s' Q C8.E0) s' := by
    refine run_ofS (N := Ng) (ps := [a]) (us := [.ref f]) (vs := [.ref f]) lk hcg Sg hr I1.env0 (hb s' [.ref f] I1.kIn rfl) (.cons rfl .nil) rfl fun hr' => ?_
    obtain ⟨t', ht', hq'⟩ := hG f c' s' H1 Q (fun E H' Q' => t E σ H' Q') hr' (fun W pn xe E p1 p2 tk hW => pe_actN (i := 0) I1 L hf hfn hfr (hbind _ _ _ _ _) tk hW hr' (fun A outer s H hr2 => hbody A outer s H E f c' hr2) hNg hva hd hcd) hco (h H1 eN T1)
    exact ⟨t', ht'.nox, hq'⟩
  refine wpAny_call (codeAny_mono run fun r s2 hq => ?_)
  cases r with
  | error e => exact (show False from hq).elim
  | ok fl =>
    cases fl with
    | ret u => exact I1.after hq
    | next => exact False.elim hq
    | brk => exact False.elim hq
    | cont => exact False.elim hq
/-- an error's end as the def tells it -/
def toldE (K : PySem.W.Frag) (T : Tb) (Q : VK) : XK := fun cls d H' => ∃ c δ G st, cls = .ref (He.ga K c.name) ∧ d = none ∧ Gd T δ G H' st ∧ ∀ v G'' H'', Fr T δ G H' G'' H'' → DiceAt δ G'' H'' st → Rp G'' v (errD c) → Q v H''
def TToldN (K : PySem.W.Frag) (T : Tb) : (XK → Hp → VK → Prop) → Hp → VK → Prop := fun tl H Q => tl (toldE K T Q) H Q
theorem takesN0 {X : Cx} : L2N.Takes X (fun _ _ _ _ => False) := fun _ _ x => by
  obtain ⟨_, _, _, _, _, _, _, _, _, _, _, _, _, _, _, _, z⟩ := x
  exact z.elim
theorem told_givesN {T : Tb} {Ng : List Str} {x a e n y q : Str} {sg : Scope} {g CS ft : Addr} {fdt : FuncData} {cdg : Value} {k kt : Nat} {p1 p2 p3 p4 p5 p6 p7 p8 q1 q2 q3 : Pos} (hNd : Ng.Nodup) (hge : sg.names.lookup e = some .globalImplicit) (hme : X.mg e = some (.ref CS)) (hde : (e == ("__debug__" : Str)) = false) (h0 : ∀ f : Addr, (L2.start Ng [V.ref f])[0]? = some (some (V.ref f)))
    (hn : Ng[1]? = some n) (hln : sg.names.lookup n = some .local) (hdn : (n == ("__debug__" : Str)) = false) (hcn : (n == ("__classdict__" : Str)) = false)
    (hexm : ∀ c : Exn, PySem.W.exmOne X.K (.ref (He.ga X.K c.name)) (.ref CS) = some true)
    (F : RunE X.prog X.w X.K X.mg X.base kt ft fdt ["_law_e"] (spTerm X.K T)) (hkt : kt ≤ k) (hgy : sg.names.lookup y = some .globalImplicit) (hmy : X.mg y = some (.ref ft)) (hky : PySem.W.keepIn X.K (.ref ft) = true) (hby : Binds X.K fdt ["_law_e"] []) (hdy : (y == ("__debug__" : Str)) = false) :
    GivesN X Ng x sg g cdg [.Try [.Return (some (.Call (.Name a p1) [] [] p2)) p3] [.ExceptHandler (some (.Name e p4)) (some n) [.Return (some (.Call (.Name y q1) [.Name n q2] [] q3)) p6] p7] [] [] p8] a q k (TToldN X.K T) := by
  intro f c' s H Q tl hr act hc h
  have hgl : Gl (cxOf C8.CX0 X.prog X.w X.K X.mg X.base Ng x sg g cdg X.A X.stack s H C8.E0).nox e := hge
  refine ⟨_, pss_one (L2N.ps_try_as (X := (cxOf C8.CX0 X.prog X.w X.K X.mg X.base Ng x sg g cdg X.A X.stack s H C8.E0).nox) (c := .ref CS) (i := 1) (n := n) (Wout := fun _ _ _ _ => False)
      (tb := fun W D σ H => ∃ Ech : XK, (∀ cls d σ' H', Ech cls d H' → W cls d σ' H') ∧ σ[0]? = some (some (.ref f)) ∧ H c' = some (CodeO c' q) ∧ tl Ech H D.rt)
      (ts := fun a' cls d D σ H => ∃ σ0 : L2.St, σ = σ0.set 1 (some (.ref a')) ∧ toldE X.K T D.rt cls d H)
      rfl rfl hNd hn hln ⟨hgl, hde, .inl hme⟩ takesN0 (fun W pn xe tk _ => ?_) (fun a' oe cls d pn hz hfl => ?_)), ?_⟩
  · refine ⟨fun pins s' σ H' D I ⟨Ech, hW, h1, h2, h3⟩ => ?_⟩
    exact (pss_one (ps_ret (pos := p3) (act W pn xe Ech p1 p2 tk hW))).run pins s' σ H' D I ⟨h1, h2, h3⟩
  · refine ⟨fun pins s' σ H' D I ⟨σ0, eσ, c, δ, G, st, ec, ed, gd, cont⟩ => ?_⟩
    have hl1 : 1 < Ng.length := (List.getElem?_eq_some_iff.mp hn).1
    have hσl : σ0.length = Ng.length := by have := I.len; rw [eσ, List.length_set] at this; exact this
    have hσ : σ[1]? = some (some (.ref a')) := by rw [eσ]; exact List.getElem?_set_self (by omega)
    obtain ⟨vs, hvs⟩ := hfl
    have hot : L2H.Hot1 ((cxOf C8.CX0 X.prog X.w X.K X.mg X.base Ng x sg g cdg X.A X.stack s H C8.E0).nox.suite a' ((a', oe) :: pn)).A (a', oe) := ⟨rfl, vs, hvs, hz.2.2 vs hvs⟩
    have hrH : L2H.RoomH kt ((cxOf C8.CX0 X.prog X.w X.K X.mg X.base Ng x sg g cdg X.A X.stack s H C8.E0).nox.suite a' ((a', oe) :: pn)).A := (L2H.roomH_of (A := ((cxOf C8.CX0 X.prog X.w X.K X.mg X.base Ng x sg g cdg X.A X.stack s H C8.E0).nox.suite a' ((a', oe) :: pn)).A.mark none |> fun _ => X.A.deeper (envOfC x sg s.heap.objs.size g cdg)) hr).mono hkt |> fun z => ⟨z.dp, z.un⟩
    have nm : PE ((cxOf C8.CX0 X.prog X.w X.K X.mg X.base Ng x sg g cdg X.A X.stack s H C8.E0).nox.suite a' ((a', oe) :: pn)) (.Name n q2) (tVar 1) := pe_var hn (.inl hln) hdn hcn
    have call := pe_callE (X := (cxOf C8.CX0 X.prog X.w X.K X.mg X.base Ng x sg g cdg X.A X.stack s H C8.E0).nox.suite a' ((a', oe) :: pn)) (E := noE) (pos := q3) (q := q1) hot List.mem_cons_self F (fun p vs H Q E ⟨_, _, _, _, _, _, z, _⟩ => by rw [z]; rfl) hrH hgy hmy hky hby passN nm hdy
    refine (pss_one (ps_ret (pos := p6) call)).run pins s' σ H' D I ⟨_, hσ, c, δ, G, st, ?_, ?_, rfl, gd, cont⟩
    · rw [← ec]; exact hz.1
    · rw [← ed]; exact hz.2.1
  · refine ⟨toldE X.K T Q, fun cls d σ' H' ht => ?_, h0 f, hc, h⟩
    obtain ⟨c, δ, G, st, rfl, rfl, gd, cont⟩ := id ht
    exact ⟨true, hexm c, fun _ a' _ => ⟨σ', rfl, ht⟩, fun z => by cases z⟩
end
end DL

set_option maxHeartbeats 4000000
/-! told as a reading -/
namespace DL
open PySem PySem.Spec PyProof.Rows L2 LamX
def fTold (f : F) : F := fun ev st => match f ev st with
  | .ok (.dat d) st' => .ok (.dat d) st'
  | .exc c st' => .ok (.dat (errD c)) st'
  | _ => .stuck
/-- the def that tells, as it may be called -/
def TLok (P : Program) (w : World) (K : PySem.W.Frag) (mg : Str → Option Value) (base : Heap) (T : Tb) (k : Nat) (x a q : Str) : Prop :=
  ∃ (g : Addr) (pg : Arguments) (bg : List Stmt) (sg : Scope) (dV kV doc pm cdv ct oc : Value) (an od : Option Addr) (osl : Array (Option Value)) (Ng : List Str),
    mg x = some (.ref g) ∧ PySem.W.keepIn K (.ref g) = true ∧ K.lookup g = some ⟨oc, od, .func (PySem.W.fnOf x x pg bg sg dV kV doc pm an cdv ct), osl⟩ ∧ PySem.W.codeIn K cdv x = true ∧ L2.Binds K (PySem.W.fnOf x x pg bg sg dV kV doc pm an cdv ct) [a] [] ∧ FnScope Ng [a] sg ∧ Ng[0]? = some a ∧ Vis sg a ∧
    ∀ X : Cx, X.prog = P → X.w = w → X.K = K → X.mg = mg → X.base = base → GivesN X Ng x sg g cdv bg a q (k + 1) (TToldN K T)
theorem ext_fr {T : Tb} {δ : Dl} {G H H1 : Hp} (s : Sub G H) (nt : ∀ b ps, G b ≠ some (.tbl ps)) (e : ExtN H H1) (t : LamX.Tabs T H1) : Fr T δ G H G H1 where
  gg := Sub.rf G
  gh := fun b u z => e b u (s b u z) fun ps w => nt b ps (by rw [← w]; exact z)
  nt := nt
  nw := fun _ _ _ z => z
  kp := fun b u z _ n => e b u z n
  un := fun b ⟨u, z, n⟩ => ⟨u, e b u z n, n⟩
  ut := fun b ⟨u, z, n⟩ m => by rw [e b u z n, ← z]; exact m
  tb := fun _ => t
section
variable {X : Cx} {T : Tb} {δ : Dl} {E : XK}
theorem told_read {K : PySem.W.Frag} {f : F} : ∀ σ H Q, tD K T δ E (fTold f) σ H Q → tLam T (TToldN K T) (fun E' => tD K T δ E' f) σ H Q := fun σ H Q ⟨lk, G, ev, st, r, h⟩ => by
  refine ⟨r.tb, fun H1 eN T1 => ?_⟩
  have f1 : Fr T δ G H G H1 := ext_fr r.sub r.nt eN T1
  have d1 : DiceAt δ G H1 st := ⟨fun a e => eN a _ (r.di.at_ a e) (fun _ z => by cases z), fun a e => let ⟨dx, fs, g1, g2⟩ := r.di.bn a e; ⟨dx, fs, eN a _ g1 (fun _ z => by cases z), g2⟩⟩
  have r1 := r.fr f1 d1
  refine ⟨lk, G, ev, st, r1, ?_⟩
  unfold fTold at h
  cases q : f ev st with
  | stuck => rw [q] at h; exact h.elim
  | ok sv st' =>
    rw [q] at h
    cases sv with
    | dat d => exact fun v G' H' f' d' x => h v G' H' (f1.tr f') d' x
    | own d => exact h.elim
    | dice => exact h.elim
    | bench => exact h.elim
    | exc _ => exact h.elim
  | exc c st' =>
    rw [q] at h
    have h : EndE K lk T δ E G H Q (.ok (.dat (errD c)) st') := h
    intro G' H' f' d'
    exact ⟨c, δ, G', st', rfl, rfl, r1.toGd.fr f' d', fun v G'' H'' f2 d2 rp => h v G'' H'' ((f1.tr f').tr f2) d2 rp⟩
theorem de_told {k k' : Nat} {x a : Str} {params : Arguments} {body : Expr} {scope : Scope} {c P : Addr} {p lpos pos : Pos} {f : F} {q : Str} (hq : X.env.qual ++ "<lambda>" = q) (TL : TLok X.prog X.w X.K X.mg X.base T k x a q) (hr : Room k' X.A) (hk : k + 2 ≤ k') (hg : Gl X x) (TB : TabB X.base X.mg c P) (hcode : X.env.code = .ref c) (hmT : (P, q) ∈ T)
    (hu : ∀ p ∈ T, p.1 = P → p.2 = q) (L : lamSB X.env.scope scope = true) (hdef : defaultsOf params X.env = ([], []))
    (hbind : ∀ (q : Str) (cl : List (Str × Addr)) (pm cv ctv : Value), bindArgs (PySem.W.kla_fn "<lambda>" q params body scope cl pm cv ctv) ⟨[], []⟩ = pure [])
    (hbody : ∀ (A : Around) (outer : List Env) (s : Shared) (H : Hp) (E' : XK) (f' c' : Addr), Room k (A.deeper (lamEnv X scope s.heap.objs.size f' c')) → DE (lamN X A outer s H E' scope f' c') T δ E' body f)
    (hdb : (x == ("__debug__" : Str)) = false := by decide) (hd : (a == ("__debug__" : Str)) = false := by decide) (hcd : (a == ("__classdict__" : Str)) = false := by decide) :
    DE X T δ E (.Call (.Name x p) [.Lambda params body scope lpos] [] pos) (fTold f) := by
  subst hq
  obtain ⟨g, pg, bg, sg, dV, kV, doc, pm, cdv, ct, oc, an, od, osl, Ng, h1, h2, h3, h4, h5, h6, h7, h8, h9⟩ := TL
  exact PE.imp (pe_lamN (t := fun E' => tD X.K T δ E' f) hg h1 h2 h3 h4 h5 h6 h7 h8 (h9 X rfl rfl rfl rfl rfl) TB hcode hmT hu (hr.mono hk) (lamS_by L) hdef hbind hbody hdb hd hcd) told_read
end
/-- the bundle from the head's facts -/
theorem mk_told {P : Program} {w : World} {K : PySem.W.Frag} {mg : Str → Option Value} {base : Heap} {T : Tb} {k kt : Nat} {x a e n y q : Str} {params : Arguments} {scope : Scope} {g ft CS : Addr} {fd fdt : FuncData} {p1 p2 p3 p4 p6 p7 p8 q1 q2 q3 : Pos} {Ng : List Str} {body : List Stmt}
    (F : FunD K x x params body scope [] [] g fd) (hbody : body = [.Try [.Return (some (.Call (.Name a p1) [] [] p2)) p3] [.ExceptHandler (some (.Name e p4)) (some n) [.Return (some (.Call (.Name y q1) [.Name n q2] [] q3)) p6] p7] [] [] p8]) (gm : mg x = some (.ref g)) (S : FnScope Ng [a] scope) (b : Binds K fd [a] [])
    (h0 : Ng[0]? = some a) (hva : Vis scope a) (hge : scope.names.lookup e = some .globalImplicit) (hme : mg e = some (.ref CS)) (hde : (e == ("__debug__" : Str)) = false) (hn : Ng[1]? = some n) (hln : scope.names.lookup n = some .local) (hdn : (n == ("__debug__" : Str)) = false) (hcn : (n == ("__classdict__" : Str)) = false)
    (hexm : ∀ c : Exn, PySem.W.exmOne K (.ref (He.ga K c.name)) (.ref CS) = some true) (Ft : RunE P w K mg base kt ft fdt ["_law_e"] (spTerm K T)) (hkt : kt ≤ k + 1) (hgy : scope.names.lookup y = some .globalImplicit) (hmy : mg y = some (.ref ft)) (hky : PySem.W.keepIn K (.ref ft) = true) (hby : Binds K fdt ["_law_e"] []) (hdy : (y == ("__debug__" : Str)) = false) :
    TLok P w K mg base T k x a q := by
  obtain ⟨oc, od, dV, kV, doc, pm, an, cdv, ct, osl, rfl, lk, hcd, _, _⟩ := F.ex
  subst hbody
  refine ⟨g, _, _, scope, dV, kV, doc, pm, cdv, ct, oc, an, od, osl, Ng, gm, F.kp, lk, hcd, b, S, h0, hva, fun X e1 e2 e3 e4 e5 => ?_⟩
  subst e1 e2 e3 e4 e5
  exact told_givesN (p5 := p4) S.nd hge hme hde (fun f => by
    unfold L2.start
    have : 0 < Ng.length := (List.getElem?_eq_some_iff.mp h0).1
    simp) hn hln hdn hcn hexm Ft hkt hgy hmy hky hby hdy
/-! ### the law's own code object -/
theorem code_ref {K : PySem.W.Frag} {cd : Value} {q : Str} (h : PySem.W.codeIn K cd q = true) : ∃ c, cd = .ref c := by
  unfold PySem.W.codeIn at h
  split at h
  · exact ⟨_, rfl⟩
  · cases h
theorem FunD.okC {CX : CXT} {P : Program} {w : World} {K : PySem.W.Frag} {mg : Str → Option Value} {base : Heap} {x : Str} {params : Arguments} {body : List Stmt} {scope : Scope} {fd : FuncData} {N ps : List Str} {k : Nat} {sp : Sp} (F : FunD K x x params body scope [] [] (He.fAd K (x, none)) fd) (S : FnScope N ps scope)
    (len : ∀ vs H Q E, sp vs H Q E → vs.length = ps.length)
    (hbody : ∀ (A : Around) (outer : List Env) (s : Shared) (H : Hp) (vs : List V) (Q : VK) (E : XK), Room k (A.deeper (envOfC x scope s.heap.objs.size (He.fAd K (x, none)) (.ref (He.codeOf K (x, none))))) → sp vs H Q E →
      ∃ t, PSs (cxOf CX P w K mg base N x scope (He.fAd K (x, none)) (.ref (He.codeOf K (x, none))) A outer s H E) body t ∧ t { nx := fun _ H' => Q .non H', rt := Q } (L2.start N vs) H) : FnOk P w K mg base CX (k + 1) (He.fAd K (x, none)) fd ps sp := by
  obtain ⟨oc, od, dV, kV, doc, pm, an, cdv, ct, osl, rfl, lk, hcd, _, _⟩ := F.ex
  obtain ⟨c, rfl⟩ := code_ref hcd
  have e : He.codeOf K (x, none) = c := He.codeOf_eq lk rfl
  rw [e] at hbody
  exact fn_of lk hcd S len hbody
theorem tabs_empty {T : Tb} {H : Hp} (h : ∀ p ∈ T, H p.1 = some (.tbl #[])) : LamX.Tabs T H := fun p hp => ⟨#[], h p hp, (by first | trivial | decide | (unfold TriplesOk; simp)), fun pos cv z => by cases z⟩
end DL

set_option maxHeartbeats 4000000
/-! what the head tells of the exceptions -/
namespace DL
open PySem PySem.Spec PyProof.Rows L2
theorem u64 {k : Nat} {A : Around} (hr : Room k A) : A.units + 64 < cLine := by have := hr.un; omega
theorem u65 {k : Nat} {A : Around} (hr : Room k A) : A.units + 65 < cLine := by have := hr.un; omega
theorem u1 {k : Nat} {A : Around} (hr : Room k A) : A.units + 1 < cLine := by have := hr.un; omega
theorem u2 {k : Nat} {A : Around} (hr : Room k A) : A.units + 2 < cLine := by have := hr.un; omega
theorem v2 {k : Nat} {A : Around} (hr : L2H.RoomH k A) : A.units + 2 < cLine := by have := hr.un; omega
theorem u16 {k : Nat} {A : Around} (hr : Room k A) : A.units + 16 < cLine := by have := hr.un; omega
theorem v64 {k : Nat} {A : Around} (hr : L2H.RoomH k A) : A.units + 64 < cLine := by have := hr.un; omega
theorem v65 {k : Nat} {A : Around} (hr : L2H.RoomH k A) : A.units + 65 < cLine := by have := hr.un; omega
def exns : List Exn := [.InvalidPart, .InvalidStore, .InvalidState, .InvalidIndex, .InvalidRule, .InvalidTicks, .InvalidDemand, .InvalidText, .Worn, .ForEver, .Ends, .TooMany, .NothingToUndo]
theorem mem_exns (c : Exn) : c ∈ exns := by cases c <;> simp [exns]
def excCB (K : PySem.W.Frag) (D : Addr) : Bool :=
  decide (PySem.W.findIn K (.ref D) "__getattribute__" = some (some (.builtin "BaseException.__getattribute__"))) && (decide (PySem.W.findIn K (.ref D) "__getattr__" = some none) && (decide (PySem.W.subIn K (.ref D) (.type "BaseException") = some true) && (PySem.W.hasDictIn K D &&
  (decide (PySem.W.findIn K (.ref D) "__class__" = some (some (.builtin "object.__class__"))) && (decide (PySem.W.specialIn K (.builtin "object.__class__") "__get__" = some (some (.builtin "getset_descriptor.__get__"))) && (decide (PySem.W.takesIn K (.builtin "object.__class__") = some true) && decide (PySem.W.mroIn K D (.type "object") = some true)))))))
theorem excC_of {K : PySem.W.Frag} {D : Addr} (h : excCB K D = true) : ExcC K D := by
  unfold excCB at h
  simp only [Bool.and_eq_true, decide_eq_true_eq] at h
  obtain ⟨h1, h2, h3, h4, h5, h6, h7, h8⟩ := h
  exact ⟨h1, h2, h3, h4, h5, h6, h7, h8⟩
def exB (K : PySem.W.Frag) : Bool := exns.all fun c => excCB K (He.ga K c.name) && (decide (PySem.W.kitOne K (.ref (He.ga K c.name)) (.type "ValueError") = some true) && (decide (PySem.W.exmOne K (.ref (He.ga K c.name)) (.ref (He.ga K "WearError")) = some true) &&
  exns.all fun c' => decide (PySem.W.kitOne K (.ref (He.ga K c.name)) (.ref (He.ga K c'.name)) = some (decide (c = c')))))
structure ExTab (K : PySem.W.Frag) : Prop where
  C : ∀ c : Exn, ExcC K (He.ga K c.name)
  V : ∀ c : Exn, PySem.W.kitOne K (.ref (He.ga K c.name)) (.type "ValueError") = some true
  W : ∀ c : Exn, PySem.W.exmOne K (.ref (He.ga K c.name)) (.ref (He.ga K "WearError")) = some true
  T : ∀ c c' : Exn, PySem.W.kitOne K (.ref (He.ga K c.name)) (.ref (He.ga K c'.name)) = some (decide (c = c'))
theorem exTab_of {K : PySem.W.Frag} (h : exB K = true) : ExTab K := by
  unfold exB at h
  simp only [List.all_eq_true, Bool.and_eq_true, decide_eq_true_eq] at h
  exact ⟨fun c => excC_of (h c (mem_exns c)).1, fun c => (h c (mem_exns c)).2.1, fun c => (h c (mem_exns c)).2.2.1, fun c c' => (h c (mem_exns c)).2.2.2 c' (mem_exns c')⟩
theorem bt_ValueError : bootBuiltins "ValueError" = some (.type "ValueError") := by decide +kernel
end DL

set_option maxHeartbeats 4000000
/-! what the defs reckon, in plain data -/
namespace DL
open PySem PySem.Spec PyProof.Rows L2
/-! ### how readings go -/
@[simp] theorem bind_ok {α β : Type} (a : α) (st : DSt) (k : α → DSt → Rs β) : Rs.bind (.ok a st) k = k a st := rfl
@[simp] theorem bind_exc {α β : Type} (c : Exn) (st : DSt) (k : α → DSt → Rs β) : Rs.bind (.exc c st) k = .exc c st := rfl
@[simp] theorem bind_stuck {α β : Type} (k : α → DSt → Rs β) : Rs.bind .stuck k = .stuck := rfl
@[simp] theorem nx_ok {α : Type} (a : α) (st : DSt) : Rs.nx (.ok a st) = .ok a st := rfl
@[simp] theorem data_dat (d : D) : (SV.dat d).data = some d := rfl
@[simp] theorem data_own (d : D) : (SV.own d).data = some d := rfl
theorem lcGo_fm {t : Tg} {ft : Option F} {fe : F} {ev : Ev} {st : DSt} (p : D → Bool) (f : D → D) : ∀ {items : List D}, (∀ d ∈ items, ∃ ev', t d ev = some ev' ∧ tst ft ev' st = .ok (p d) st ∧ (p d = true → fe ev' st = .ok (.dat (f d)) st)) →
    lcGo t ft fe ev items st = .ok ((items.filter p).map f) st
  | [], _ => rfl
  | d :: r, h => by
    obtain ⟨ev', e1, e2, e3⟩ := h d List.mem_cons_self
    have ih := lcGo_fm p f (items := r) fun d hd => h d (List.mem_cons_of_mem _ hd)
    unfold lcGo
    rw [e1]
    simp only [e2, nx_ok, bind_ok]
    cases hp : p d with
    | true => rw [if_pos rfl, e3 hp]; simp [ih, List.filter_cons, hp]
    | false => rw [if_neg (by simp)]; simp [ih, List.filter_cons, hp]
theorem lcGo_map {t : Tg} {fe : F} {ev : Ev} {st : DSt} (f : D → D) {items : List D} (h : ∀ d ∈ items, ∃ ev', t d ev = some ev' ∧ fe ev' st = .ok (.dat (f d)) st) :
    lcGo t none fe ev items st = .ok (items.map f) st := by
  have := lcGo_fm (t := t) (ft := none) (fe := fe) (ev := ev) (st := st) (fun _ => true) f (items := items) fun d hd => by
    obtain ⟨ev', e1, e2⟩ := h d hd
    exact ⟨ev', e1, rfl, fun _ => e2⟩
  rw [this]
  congr 1
  rw [List.filter_eq_self.mpr (fun _ _ => rfl)]
/-! ### data -/
abbrev Part := Int × Int × Int
def partD (p : Part) : D := .tuple [.int p.1, .int p.2.1, .int p.2.2]
def storeD (s : List Part) : D := .tuple (s.map partD)
def stateD (w : List Int) : D := .tuple (w.map .int)
/-- no dict at the top -/
def noDict : D → Bool
  | .dict _ => false
  | _ => true
def whole : D → Int → Int → Bool
  | .int i, a, b => decide (a ≤ i) && decide (i ≤ b)
  | _, _, _ => false
theorem kit_none_int : kitB "NoneType" "int" = some false := by decide +kernel
@[simp] theorem ist_none_int : gIst "int" (.none) = some (.bool false) := by show (kitB "NoneType" "int").map _ = _; rw [kit_none_int]; rfl
theorem kit_bool_int : kitB "bool" "int" = some true := by decide +kernel
@[simp] theorem ist_bool_int (b : Bool) : gIst "int" (.bool b) = some (.bool true) := by show (kitB "bool" "int").map _ = _; rw [kit_bool_int]; rfl
theorem kit_int_int : kitB "int" "int" = some true := by decide +kernel
@[simp] theorem ist_int_int (i : Int) : gIst "int" (.int i) = some (.bool true) := by show (kitB "int" "int").map _ = _; rw [kit_int_int]; rfl
theorem kit_str_int : kitB "str" "int" = some false := by decide +kernel
@[simp] theorem ist_str_int (x : Str) : gIst "int" (.str x) = some (.bool false) := by show (kitB "str" "int").map _ = _; rw [kit_str_int]; rfl
theorem kit_list_int : kitB "list" "int" = some false := by decide +kernel
@[simp] theorem ist_list_int (xs : List D) : gIst "int" (.list xs) = some (.bool false) := by show (kitB "list" "int").map _ = _; rw [kit_list_int]; rfl
theorem kit_tuple_int : kitB "tuple" "int" = some false := by decide +kernel
@[simp] theorem ist_tuple_int (xs : List D) : gIst "int" (.tuple xs) = some (.bool false) := by show (kitB "tuple" "int").map _ = _; rw [kit_tuple_int]; rfl
theorem kit_none_bool : kitB "NoneType" "bool" = some false := by decide +kernel
@[simp] theorem ist_none_bool : gIst "bool" (.none) = some (.bool false) := by show (kitB "NoneType" "bool").map _ = _; rw [kit_none_bool]; rfl
theorem kit_bool_bool : kitB "bool" "bool" = some true := by decide +kernel
@[simp] theorem ist_bool_bool (b : Bool) : gIst "bool" (.bool b) = some (.bool true) := by show (kitB "bool" "bool").map _ = _; rw [kit_bool_bool]; rfl
theorem kit_int_bool : kitB "int" "bool" = some false := by decide +kernel
@[simp] theorem ist_int_bool (i : Int) : gIst "bool" (.int i) = some (.bool false) := by show (kitB "int" "bool").map _ = _; rw [kit_int_bool]; rfl
theorem kit_str_bool : kitB "str" "bool" = some false := by decide +kernel
@[simp] theorem ist_str_bool (x : Str) : gIst "bool" (.str x) = some (.bool false) := by show (kitB "str" "bool").map _ = _; rw [kit_str_bool]; rfl
theorem kit_list_bool : kitB "list" "bool" = some false := by decide +kernel
@[simp] theorem ist_list_bool (xs : List D) : gIst "bool" (.list xs) = some (.bool false) := by show (kitB "list" "bool").map _ = _; rw [kit_list_bool]; rfl
theorem kit_tuple_bool : kitB "tuple" "bool" = some false := by decide +kernel
@[simp] theorem ist_tuple_bool (xs : List D) : gIst "bool" (.tuple xs) = some (.bool false) := by show (kitB "tuple" "bool").map _ = _; rw [kit_tuple_bool]; rfl
theorem kit_none_tuple : kitB "NoneType" "tuple" = some false := by decide +kernel
@[simp] theorem ist_none_tuple : gIst "tuple" (.none) = some (.bool false) := by show (kitB "NoneType" "tuple").map _ = _; rw [kit_none_tuple]; rfl
theorem kit_bool_tuple : kitB "bool" "tuple" = some false := by decide +kernel
@[simp] theorem ist_bool_tuple (b : Bool) : gIst "tuple" (.bool b) = some (.bool false) := by show (kitB "bool" "tuple").map _ = _; rw [kit_bool_tuple]; rfl
theorem kit_int_tuple : kitB "int" "tuple" = some false := by decide +kernel
@[simp] theorem ist_int_tuple (i : Int) : gIst "tuple" (.int i) = some (.bool false) := by show (kitB "int" "tuple").map _ = _; rw [kit_int_tuple]; rfl
theorem kit_str_tuple : kitB "str" "tuple" = some false := by decide +kernel
@[simp] theorem ist_str_tuple (x : Str) : gIst "tuple" (.str x) = some (.bool false) := by show (kitB "str" "tuple").map _ = _; rw [kit_str_tuple]; rfl
theorem kit_list_tuple : kitB "list" "tuple" = some false := by decide +kernel
@[simp] theorem ist_list_tuple (xs : List D) : gIst "tuple" (.list xs) = some (.bool false) := by show (kitB "list" "tuple").map _ = _; rw [kit_list_tuple]; rfl
theorem kit_tuple_tuple : kitB "tuple" "tuple" = some true := by decide +kernel
@[simp] theorem ist_tuple_tuple (xs : List D) : gIst "tuple" (.tuple xs) = some (.bool true) := by show (kitB "tuple" "tuple").map _ = _; rw [kit_tuple_tuple]; rfl
theorem kit_none_str : kitB "NoneType" "str" = some false := by decide +kernel
@[simp] theorem ist_none_str : gIst "str" (.none) = some (.bool false) := by show (kitB "NoneType" "str").map _ = _; rw [kit_none_str]; rfl
theorem kit_bool_str : kitB "bool" "str" = some false := by decide +kernel
@[simp] theorem ist_bool_str (b : Bool) : gIst "str" (.bool b) = some (.bool false) := by show (kitB "bool" "str").map _ = _; rw [kit_bool_str]; rfl
theorem kit_int_str : kitB "int" "str" = some false := by decide +kernel
@[simp] theorem ist_int_str (i : Int) : gIst "str" (.int i) = some (.bool false) := by show (kitB "int" "str").map _ = _; rw [kit_int_str]; rfl
theorem kit_str_str : kitB "str" "str" = some true := by decide +kernel
@[simp] theorem ist_str_str (x : Str) : gIst "str" (.str x) = some (.bool true) := by show (kitB "str" "str").map _ = _; rw [kit_str_str]; rfl
theorem kit_list_str : kitB "list" "str" = some false := by decide +kernel
@[simp] theorem ist_list_str (xs : List D) : gIst "str" (.list xs) = some (.bool false) := by show (kitB "list" "str").map _ = _; rw [kit_list_str]; rfl
theorem kit_tuple_str : kitB "tuple" "str" = some false := by decide +kernel
@[simp] theorem ist_tuple_str (xs : List D) : gIst "str" (.tuple xs) = some (.bool false) := by show (kitB "tuple" "str").map _ = _; rw [kit_tuple_str]; rfl
theorem g_is_whole_eq (d : D) (a b : Int) (st : DSt) (h : noDict d = true) : g_is_whole [.dat d, .dat (.int a), .dat (.int b)] st = .ok (.bool (whole d a b)) st := by
  cases d with
  | dict _ => cases h
  | int i =>
    simp [g_is_whole, fs_is_whole, runF, ev0, fRet, fAnd, fIst, fOp1, fVar, of1, fNot, fChain, of2, gOrd, whole]
    by_cases h1 : a ≤ i <;> simp [h1]
  | _ => simp [g_is_whole, fs_is_whole, runF, ev0, fRet, fAnd, fIst, fOp1, fVar, of1, fNot, fChain, of2, gOrd, whole]

@[simp] theorem shaped_int (i : Int) : SeqAt.shaped (.int i) = true := rfl
@[simp] theorem eqv_int (i j : Int) : PyData.eqv (.int i) (.int j) = decide (i = j) := by
  show (i == j) = _
  by_cases h : i = j <;> simp [h]
@[simp] theorem gEq_int (i j : Int) : gEq (.int i) (.int j) = some (.bool (decide (i = j))) := by simp [gEq]
@[simp] theorem gNe_int (i j : Int) : gNe (.int i) (.int j) = some (.bool (!decide (i = j))) := by simp [gNe]
def nd2 : D → Bool
  | .dict _ => false
  | .tuple xs => xs.all noDict
  | .list xs => xs.all noDict
  | _ => true
def partB : D → Bool
  | .tuple [a, b, c] => whole a 1 6 && (whole b 1 3 && whole c 0 2)
  | _ => false
theorem g_is_part_eq (d : D) (st : DSt) (h : nd2 d = true) : g_is_part [.dat d] st = .ok (.bool (partB d)) st := by
  cases d with
  | dict _ => cases h
  | tuple xs =>
    by_cases hl : xs.length = 3
    · obtain ⟨a, b, c, rfl⟩ : ∃ a b c, xs = [a, b, c] := by
        match xs, hl with
        | [a, b, c], _ => exact ⟨a, b, c, rfl⟩
      simp [nd2] at h
      simp [g_is_part, fs_is_part, runF, ev0, fSeq, fIfS, fOr, fRet, fAnd, fIst, fOp1, fOp2, fVar, fC, fN, fK, fCB, reads, of1, fNot, fChain, of2, gOrd, gLen, gIxS, gIx, atI, ixN, fNil, fCall, SV.argOk, g_is_whole_eq, h, partB]
      cases whole a 1 6 <;> cases whole b 1 3 <;> simp
    · have hp : partB (.tuple xs) = false := by
        match xs, hl with
        | [], _ => rfl
        | [_], _ => rfl
        | [_, _], _ => rfl
        | [_, _, _], hl => exact absurd rfl hl
        | _ :: _ :: _ :: _ :: _, _ => rfl
      have hl' : ¬ (xs.length : Int) = 3 := by omega
      simp [g_is_part, fs_is_part, runF, ev0, fSeq, fIfS, fOr, fRet, fIst, fOp1, fOp2, fVar, fC, fN, fK, fCB, reads, of1, fNot, of2, gLen, hl', hp]
  | _ => simp [g_is_part, fs_is_part, runF, ev0, fSeq, fIfS, fOr, fRet, fAnd, fIst, fOp1, fVar, fC, of1, fNot, fChain, of2, gOrd, partB]
def storeB : D → Bool
  | .tuple xs => decide (1 ≤ xs.length) && (decide (xs.length ≤ 4) && xs.all partB)
  | _ => false
def nd3 : D → Bool
  | .dict _ => false
  | .tuple xs => xs.all nd2
  | .list xs => xs.all nd2
  | _ => true
theorem boolsOf_map {α : Type} (f : α → Bool) : ∀ xs : List α, boolsOf (xs.map fun x => PyData.bool (f x)) = some (xs.map f)
  | [] => rfl
  | x :: r => by
    show (boolsOf (r.map fun x => PyData.bool (f x))).map (f x :: ·) = _
    rw [boolsOf_map f r]; rfl
theorem g_is_store_eq (d : D) (st : DSt) (h : nd3 d = true) : g_is_store [.dat d] st = .ok (.bool (storeB d)) st := by
  cases d with
  | dict _ => cases h
  | tuple xs =>
    simp only [nd3, List.all_eq_true] at h
    by_cases h1 : 1 ≤ xs.length
    · by_cases h4 : xs.length ≤ 4
      · have hl : xs.length ≤ lim := Nat.le_trans h4 (by decide)
        have h1' : (1 : Int) ≤ xs.length := by omega
        have h4' : (xs.length : Int) ≤ 4 := by omega
        have hc : lcGo (gN 1) none (fCall g_is_part (fK (fVar 1) fN)) [some (.dat (.tuple xs)), none] xs st = .ok (xs.map fun x => PyData.bool (partB x)) st :=
          lcGo_map (fun x => PyData.bool (partB x)) fun x hx => ⟨_, rfl, by simp [fCall, fK, fVar, fN, SV.argOk, g_is_part_eq x st (h x hx)]⟩
        simp [g_is_store, fs_is_store, runF, ev0, fRet, fAnd, fIst, fOp1, fVar, fC, of1, fChain, of2, gOrd, fCB, fK, fN, reads, gLen, h1', h4', fLc, fiT, hl, wipeE, hc, gAll, boolsOf_map, storeB, h1, h4]
      · have h1' : (1 : Int) ≤ xs.length := by omega
        have h4' : ¬ (xs.length : Int) ≤ 4 := by omega
        simp [g_is_store, fs_is_store, runF, ev0, fRet, fAnd, fIst, fOp1, fVar, fC, of1, fChain, of2, gOrd, fCB, fK, fN, reads, gLen, h1', h4', storeB, h1, h4]
    · have h1' : ¬ (1 : Int) ≤ xs.length := by omega
      simp [g_is_store, fs_is_store, runF, ev0, fRet, fAnd, fIst, fOp1, fVar, fC, of1, fChain, of2, gOrd, fCB, fK, fN, reads, gLen, h1', storeB, h1]
  | _ => simp [g_is_store, fs_is_store, runF, ev0, fRet, fAnd, fIst, fOp1, fVar, of1, storeB]
theorem g_need_store_ok (d : D) (st : DSt) (h : nd3 d = true) (hs : storeB d = true) : g_need_store [.dat d] st = .ok .none st := by
  simp [g_need_store, fs_need_store, runF, ev0, fIfS, fNot, fCall, fK, fVar, fN, SV.argOk, g_is_store_eq d st h, hs, fNil]
theorem g_need_store_bad (d : D) (st : DSt) (h : nd3 d = true) (hs : storeB d = false) : g_need_store [.dat d] st = .exc .InvalidStore st := by
  simp [g_need_store, fs_need_store, runF, ev0, fIfS, fNot, fCall, fK, fVar, fN, SV.argOk, g_is_store_eq d st h, hs, fRaise]
end DL

set_option maxHeartbeats 4000000
/-! the def that names an exception -/
namespace DL
open PySem PySem.Spec PyProof.Rows L2
def fs__law_term (a : Addr) (c : Exn) : FS :=
  (fSeq (fSet 1 (fLst (fK (fIsE 0 a (decide (c = .InvalidPart))) (fK (fIsE 0 a (decide (c = .InvalidStore))) (fK (fIsE 0 a (decide (c = .InvalidState))) fN)))))
  (fSeq (fSet 1 (fOp2 gAdd (fVar 1) (fLst (fK (fIsE 0 a (decide (c = .InvalidIndex))) (fK (fIsE 0 a (decide (c = .InvalidRule))) (fK (fIsE 0 a (decide (c = .InvalidTicks))) fN))))))
  (fSeq (fSet 1 (fOp2 gAdd (fVar 1) (fLst (fK (fIsE 0 a (decide (c = .InvalidDemand))) (fK (fIsE 0 a (decide (c = .InvalidText))) (fK (fIsE 0 a (decide (c = .Worn))) fN))))))
  (fSeq (fSet 1 (fOp2 gAdd (fVar 1) (fLst (fK (fIsE 0 a (decide (c = .ForEver))) (fK (fIsE 0 a (decide (c = .Ends))) (fK (fIsE 0 a (decide (c = .TooMany))) fN))))))
  (fSeq (fSet 1 (fOp2 gAdd (fVar 1) (fLst (fK (fIsE 0 a (decide (c = .NothingToUndo))) fN))))
  (fSeq (fSet 2 (fLst (fK (fC (.str "InvalidPart")) (fK (fC (.str "InvalidStore")) (fK (fC (.str "InvalidState")) (fK (fC (.str "InvalidIndex")) (fK (fC (.str "InvalidRule")) (fK (fC (.str "InvalidTicks")) fN))))))))
  (fSeq (fSet 2 (fOp2 gAdd (fVar 2) (fLst (fK (fC (.str "InvalidDemand")) (fK (fC (.str "InvalidText")) (fK (fC (.str "Worn")) (fK (fC (.str "ForEver")) (fK (fC (.str "Ends")) (fK (fC (.str "TooMany")) (fK (fC (.str "NothingToUndo")) fN))))))))))
  (fSeq (fIfS (fOr (fOp2 gNe (fCB gSum (fK (fLc (fiL (fVar 1)) (gN 3) none (fCB gInt (fK (fVar 3) fN)) [3]) fN)) (fC (.int 1))) (fNot (fIsE 0 a true))) (fRet (fTup (fK (fC (.str "error")) (fK (fC (.str "other")) fN)))) fNil)
  (fRet (fTup (fK (fC (.str "error")) (fK (fOp2 gIxS (fVar 2) (fIndex (fVar 1) (fC (.bool true)))) fN))))))))))))
def nTerm : Nat := 4
theorem isE_eq {i : Nat} {a : Addr} {b : Bool} {ev : Ev} {st : DSt} (h : ev[i]? = some (some (.exc a))) : fIsE i a b ev st = .ok (.dat (.bool b)) st := by
  unfold fIsE; rw [h]; exact if_pos rfl
theorem seq_set {i : Nat} {f : F} {g : FS} {ev : Ev} {st : DSt} {d : D} {ev' : Ev} (h : f ev st = .ok (.dat d) st) (he : fSet i (fC d) ev st = .ok (.nx ev') st) : fSeq (fSet i f) g ev st = g ev' st := by
  have : fSet i f ev st = .ok (.nx ev') st := by
    rw [← he]; unfold fSet; rw [h]; rfl
  unfold fSeq
  rw [this]; rfl
theorem flags3 {a : Addr} {b1 b2 b3 : Bool} {ev : Ev} {st : DSt} (h : ev[0]? = some (some (.exc a))) : fLst (fK (fIsE 0 a b1) (fK (fIsE 0 a b2) (fK (fIsE 0 a b3) fN))) ev st = .ok (.dat (.list [.bool b1, .bool b2, .bool b3])) st := by
  unfold fLst fK
  rw [isE_eq h]; simp only [bind_ok]
  rw [isE_eq h]; simp only [bind_ok]
  rw [isE_eq h]; rfl
theorem flags1 {a : Addr} {b1 : Bool} {ev : Ev} {st : DSt} (h : ev[0]? = some (some (.exc a))) : fLst (fK (fIsE 0 a b1) fN) ev st = .ok (.dat (.list [.bool b1])) st := by
  unfold fLst fK fN
  rw [isE_eq h]; rfl
theorem add_flags {i : Nat} {f : F} {ev : Ev} {st : DSt} {xs ys : List D} {d : D} (h : f ev st = .ok (.dat (.list ys)) st) (hv : ev[i]? = some (some (.dat (.list xs)))) (ha : of2 gAdd (.dat (.list xs)) (.dat (.list ys)) st = .ok (.dat d) st) : fOp2 gAdd (fVar i) f ev st = .ok (.dat d) st := by
  unfold fOp2 fVar
  rw [hv]; simp only [bind_ok]; rw [h]; exact ha
theorem or_false {fa fb : F} {ev : Ev} {st : DSt} (h : fa ev st = .ok (.dat (.bool false)) st) : fOr fa fb ev st = fb ev st := by
  unfold fOr; rw [h]; rfl
theorem ifS_false {c : F} {f g : FS} {ev : Ev} {st : DSt} (h : c ev st = .ok (.dat (.bool false)) st) : fIfS c f g ev st = g ev st := by
  unfold fIfS; rw [h]; rfl
theorem term_good (a : Addr) (c : Exn) (st : DSt) : runF nTerm (fs__law_term a c) [.exc a] st = .ok (errD c) st := by
  have e0 : ev0 nTerm [SV.exc a] = [some (.exc a), none, none, none] := rfl
  unfold runF fs__law_term
  rw [e0]
  rw [seq_set (flags3 rfl) rfl, seq_set (add_flags (flags3 rfl) rfl rfl) rfl, seq_set (add_flags (flags3 rfl) rfl rfl) rfl, seq_set (add_flags (flags3 rfl) rfl rfl) rfl, seq_set (add_flags (flags1 rfl) rfl rfl) rfl]
  rw [seq_set rfl rfl, seq_set rfl rfl]
  have n : ∀ {ev : Ev}, ev[0]? = some (some (.exc a)) → fNot (fIsE 0 a true) ev st = .ok (.dat (.bool false)) st := fun h => by unfold fNot; rw [isE_eq h]; rfl
  have q : ∀ {c1 c2 : F} {f g h : FS} {ev : Ev}, c1 ev st = .ok (.dat (.bool false)) st → c2 ev st = .ok (.dat (.bool false)) st → fSeq (fIfS (fOr c1 c2) f g) h ev st = fSeq g h ev st := fun h1 h2 => by
    unfold fSeq; rw [ifS_false (by rw [or_false h1]; exact h2)]
  rw [q ?_ (n rfl)]
  · cases c <;> kernel_rfl
  · cases c <;> kernel_rfl
end DL

set_option maxHeartbeats 4000000
/-! the bench: its attributes and methods -/
namespace DL
open PySem PySem.Spec PyProof.Rows L2
def putB (x : Str) (d : D) : List (Str × D) → List (Str × D)
  | [] => [(x, d)]
  | (y, e) :: r => if y = x then (y, d) :: r else (y, e) :: putB x d r
theorem RpF.put {G : Hp} {x : Str} {v : V} {d : D} (h : Rp G v d) : ∀ {fs : List (Str × V)} {ds : List (Str × D)}, RpF G fs ds → RpF G (putF x v fs) (putB x d ds)
  | _, _, .nil => .cons h .nil
  | _, _, .cons (x := y) (v := u) (d := e) (fs := fs) (ds := ds) q r => by
    show RpF G (if y = x then (y, v) :: fs else (y, u) :: putF x v fs) (if y = x then (y, d) :: ds else (y, e) :: putB x d ds)
    by_cases z : y = x
    · rw [if_pos z, if_pos z]; exact .cons h r
    · rw [if_neg z, if_neg z]; exact .cons q (RpF.put h r)
theorem RpF.look {G : Hp} (x : Str) : ∀ {fs : List (Str × V)} {ds : List (Str × D)}, RpF G fs ds → RelOpt G (fs.lookup x) (ds.lookup x)
  | _, _, .nil => True.intro
  | _, _, .cons (x := y) (v := u) (d := e) (fs := fs) (ds := ds) q r => by
    rw [List.lookup_cons, List.lookup_cons]
    cases x == y
    · exact RpF.look x r
    · exact q
theorem RpF.length {G : Hp} : ∀ {fs : List (Str × V)} {ds : List (Str × D)}, RpF G fs ds → fs.length = ds.length
  | _, _, .nil => rfl
  | _, _, .cons _ r => congrArg (· + 1) r.length
theorem RelOpt.none_ {G : Hp} {o : Option V} {p : Option D} (r : RelOpt G o p) (h : p = none) : o = none := by
  subst h
  cases o with
  | none => rfl
  | some v => exact r.elim
theorem RelOpt.some_ {G : Hp} {o : Option V} {p : Option D} {d : D} (r : RelOpt G o p) (h : p = some d) : ∃ v, o = some v ∧ Rp G v d := by
  subst h
  cases o with
  | none => exact r.elim
  | some v => exact ⟨v, rfl, r⟩
theorem BOk.C {K : PySem.W.Frag} {δ : Dl} {a : Addr} (b : BOk K δ) (h : δ.bc = some a) : δ.C = He.ga K "Bench" := by
  rcases b with z | z
  · rw [z] at h; cases h
  · exact z
/-- self.x -/
def fFld (i : Nat) (x : Str) : F := fun ev st => match ev[i]? with
  | some (some .bench) => (match st.b.lookup x with
    | some d => .ok (.dat d) st
    | none => .stuck)
  | _ => .stuck
/-- self.x = e -/
def fFldSet (i : Nat) (x : Str) (f : F) : FS := fun ev st => (f ev st).bind fun sv st1 => match ev[i]?, sv with
  | some (some .bench), .dat d => if st1.b.length < 1000 then .ok (.nx ev) { st1 with b := putB x d st1.b } else .stuck
  | _, _ => .stuck
section
variable {X : Cx} {T : Tb} {δ : Dl} {E : XK} {G0 H0 : Hp} {e : Expr} {es : List Expr} {pos : Pos} {fe : F} {fs : Fs}
theorem de_fld (i : Nat) {x y : Str} {p : Pos} (bo : BOk X.K δ) (bc : Cls X.K (He.ga X.K "Bench")) (na : NoAttr X.K (He.ga X.K "Bench") x) (hN : X.N[i]? = some y := by rfl) (hv : Vis X.env.scope y := by first | exact Or.inl rfl | exact Or.inr (Or.inl rfl) | exact Or.inr (Or.inr rfl))
    (hd : (y == ("__debug__" : Str)) = false := by decide) (hcd : (y == ("__classdict__" : Str)) = false := by decide) (hb : attributeBase (.Name y p) x X.env (eval (.Name y p) X.env) = eval (.Name y p) X.env := by rfl) : DE X T δ E (.Attribute (.Name y p) x pos) (fFld i x) :=
  PE.imp (pe_fld (pe_var hN hv hd hcd) hb) fun σ H Q ⟨lk, G, ev, st, r, h⟩ => by
    unfold fFld at h
    split at h
    · rename_i ei
      obtain ⟨v, e1, a, rfl, ed⟩ := r.sl i _ ei
      obtain ⟨dx, fs, h1, h2⟩ := r.di.bn a ed
      rw [bo.C ed] at h1
      split at h
      · rename_i d hl
        obtain ⟨u, h3, h4⟩ := (h2.look x).some_ hl
        exact ⟨_, e1, a, _, dx, fs, u, rfl, h1, bc, na, h3, EndE.here r h h4⟩
      · exact h.elim
    · exact h.elim
theorem RelS.bench {G H : Hp} {σ : L2.St} {ev : Ev} {st : DSt} {a dx : Addr} {fs : List (Str × V)} {b' : List (Str × D)} (r : RelS T δ G0 H0 G H σ ev st) (ed : δ.bc = some a) {fs' : List (Str × V)} (h1 : H a = some (.ins δ.C dx fs)) (h2 : RpF G fs' b') :
    RelS T δ G0 H0 G (upd H a (.ins δ.C dx fs')) σ ev { st with b := b' } := by
  have g := r.dg a (Dl.ofB ed)
  have f : Fr T δ G H G (upd H a (.ins δ.C dx fs')) := (Fr.rf r.sub r.nt).wr (.inr (Dl.ofB ed)) g (fun ps z => by rw [h1] at z; cases z) (fun _ _ z => by rw [h1] at z; cases z) (fun _ z => by cases z) (fun _ z => by cases z)
  refine r.go f ⟨fun b e => ?_, fun b e => ?_⟩
  · have hb := r.di.at_ b e
    have : b ≠ a := fun z => by rw [z, h1] at hb; cases hb
    rw [upd_ne this]; exact hb
  · rw [ed] at e
    cases e
    exact ⟨dx, fs', upd_same, h2⟩
theorem ds_fld (i : Nat) {x y : Str} {p pos' : Pos} (bo : BOk X.K δ) (bc : Cls X.K (He.ga X.K "Bench")) (na : NoAttr X.K (He.ga X.K "Bench") x) (he : DE X T δ E e fe) (hN : X.N[i]? = some y := by rfl) (hv : Vis X.env.scope y := by first | exact Or.inl rfl | exact Or.inr (Or.inl rfl) | exact Or.inr (Or.inr rfl))
    (hd : (y == ("__debug__" : Str)) = false := by decide) (hcd : (y == ("__classdict__" : Str)) = false := by decide) (hs : swapsWith e (some (.Attribute (.Name y p) x pos')) pos.line X.env = pure false := by rfl) :
    DS X T δ E G0 H0 (.Assign [.Attribute (.Name y p) x pos'] e pos) (fFldSet i x fe) :=
  PS.imp (ps_fld (pe_var hN hv hd hcd) he hs) fun D' σ H ⟨G, ev, st, r, h⟩ => goS r h fun sv st1 v G1 H1 e1 r1 x1 f1 h1 => by
    split at h1
    · rename_i d ei
      obtain ⟨v0, e2, a, rfl, ed⟩ := r1.sl i _ ei
      obtain ⟨dx, fs, h2, h3⟩ := r1.di.bn a ed
      split at h1
      · rename_i hl
        have h2' := h2
        rw [bo.C ed] at h2'
        refine ⟨_, e2, a, _, dx, fs, rfl, h2', bc, na, by rw [h3.length]; exact hl, ?_⟩
        rw [← bo.C ed]
        exact h1 σ G1 _ (r1.bench ed h2 (h3.put x1)) (Sub.rf _)
      · exact h1.elim
    · exact h1.elim
end
/-! ### methods -/
structure CalM (P : Program) (w : World) (K : PySem.W.Frag) (mg : Str → Option Value) (base : Heap) (T : Tb) (m : Str) (k : Nat) (ps : List Str) (g : Fn) : Prop where
  ex : ∃ f fd, FnOk P w K mg base (L2N.CX P w) k f fd ps (spD K T ps.length g) ∧ Meth K (He.ga K "Bench") m f ∧ Binds K fd ps []
theorem mk_calM {P : Program} {w : World} {K : PySem.W.Frag} {mg : Str → Option Value} {base : Heap} {x q : Str} {params : Arguments} {body : List Stmt} {scope : Scope} {f : Addr} {fd : FuncData} {N ps : List Str} {k : Nat} {T : Tb} {fs : FS}
    (F : FunD K x q params body scope [] [] f fd) (gm : Meth K (He.ga K "Bench") x f) (S : FnScope N ps scope) (hle : ps.length ≤ N.length) (b : Binds K fd ps [])
    (hb : ∀ (cdv : Value) (A : Around) (outer : List Env) (s : Shared) (H0 : Hp) (E : XK) (δ : Dl) (G0 : Hp), BOk K δ → Room k (A.deeper (envOfC q scope s.heap.objs.size f cdv)) → DSs (cxOf (L2N.CX P w) P w K mg base N q scope f cdv A outer s H0 E) T δ E G0 H0 body fs) :
    CalM P w K mg base T x (k + 1) ps (runF N.length fs) := ⟨f, fd, fn_ok F S hle hb fun _ _ _ => rfl, gm, b⟩
/-- o.m(..), o the bench -/
def fMeth (g : Fn) (m : Str) (i : Nat) (fs : Fs) : F := fun ev st => match ev[i]? with
  | some (some .bench) => if (st.b.lookup m).isNone = true then (fs ev st).bind fun svs st1 => if svs.all SV.argOk = true then (g (.bench :: svs) st1).bind fun d st2 => .ok (.dat d) st2 else .stuck else .stuck
  | _ => .stuck
section
variable {X : Cx} {T : Tb} {δ : Dl} {E : XK} {G0 H0 : Hp} {e : Expr} {es : List Expr} {pos : Pos} {fe : F} {fs : Fs}
theorem endC_E {K : PySem.W.Frag} {lk : Bool} {G H : Hp} {Q : VK} {r : Rs D} (h : EndE K lk T δ E G H Q (r.bind fun d st2 => .ok (.dat d) st2)) : EndC K T δ E G H Q r := by
  cases r with
  | ok d st2 => exact fun v G' H' f d x => h v G' H' f d x
  | exc c st2 => exact h
  | stuck => exact h
theorem de_meth (i : Nat) {k k' : Nat} {ps : List Str} {g : Fn} {m y : Str} {p apos : Pos} (bo : BOk X.K δ) (bc : Cls X.K (He.ga X.K "Bench")) (C : CalM X.prog X.w X.K X.mg X.base T m k ps g) (hr : Room k' X.A) (hk : k ≤ k')
    (hx : Passes (L2N.CX X.prog X.w) X E) (hl : (e :: es).length + 1 = ps.length) (ha : DA X T δ E (e :: es) fs) (hlen : ∀ ev st svs st', fs ev st = .ok svs st' → svs.length + 1 = ps.length) {pl : Sem Bool}
    (hN : X.N[i]? = some y := by rfl) (hv : Vis X.env.scope y := by first | exact Or.inl rfl | exact Or.inr (Or.inl rfl) | exact Or.inr (Or.inr rfl)) (hd : (y == ("__debug__" : Str)) = false := by decide) (hcd : (y == ("__classdict__" : Str)) = false := by decide)
    (hst : starEach (e :: es) X.env = (false, eval e X.env) :: starEach es X.env := by rfl) (hpl : (backTo pos (starEach es X.env)).any (·.1) = false := by rfl)
    (ht : eval (.Call (.Attribute (.Name y p) m apos) (e :: es) [] pos) X.env = (do
      let ov ← eval (.Name y p) X.env
      standAt apos.atName
      let (f, first) ← holding [ov] (getMethod ov m pl)
      callWith pos f first (backTo pos (starEach (e :: es) X.env)) (backToKw pos (keywordEach [] X.env))) := by rfl) :
    DE X T δ E (.Call (.Attribute (.Name y p) m apos) (e :: es) [] pos) (fMeth g m i fs) := by
  obtain ⟨f, fd, F, hm, b⟩ := C.ex
  refine PE.imp (pe_meth (pl := pl) (pe_var hN hv hd hcd) bc hm F (hr.mono hk) b .nil hx ha hst hpl ht) fun σ H Q ⟨lk, G, ev, st, r, h⟩ => ?_
  unfold fMeth at h
  split at h
  · rename_i ei
    obtain ⟨v, e1, a, rfl, ed⟩ := r.sl i _ ei
    obtain ⟨dx, fs0, h1, h2⟩ := r.di.bn a ed
    rw [bo.C ed] at h1
    split at h
    · rename_i hn
      refine ⟨_, e1, a, dx, fs0, rfl, h1, (h2.look m).none_ (Option.isNone_iff_eq_none.mp hn), ?_⟩
      refine goA (e := fun G H r => EndE X.K lk T δ E G H Q r) r h fun svs st1 vs G1 H1 e2 f1 r1 x1 h3 => ?_
      split at h3
      · rename_i ao
        rw [List.append_nil]
        refine ⟨by rw [List.length_cons, x1.length]; exact hlen _ _ _ _ e2, δ, G1, .bench :: svs, st1, bo, r1.toGd, .cons ⟨a, rfl, ed⟩ (x1.lk ao), by rw [List.all_cons, ao]; rfl, endC_E h3⟩
      · exact h3.elim
    · exact h.elim
  · exact h.elim
theorem de_meth0 (i : Nat) {k k' : Nat} {s : Str} {g : Fn} {m y : Str} {p apos : Pos} (bo : BOk X.K δ) (bc : Cls X.K (He.ga X.K "Bench")) (C : CalM X.prog X.w X.K X.mg X.base T m k [s] g) (hr : Room k' X.A) (hk : k ≤ k')
    (hx : Passes (L2N.CX X.prog X.w) X E) {pl : Sem Bool}
    (hN : X.N[i]? = some y := by rfl) (hv : Vis X.env.scope y := by first | exact Or.inl rfl | exact Or.inr (Or.inl rfl) | exact Or.inr (Or.inr rfl)) (hd : (y == ("__debug__" : Str)) = false := by decide) (hcd : (y == ("__classdict__" : Str)) = false := by decide)
    (ht : eval (.Call (.Attribute (.Name y p) m apos) [] [] pos) X.env = (do
      let ov ← eval (.Name y p) X.env
      standAt apos.atName
      let (f, first) ← holding [ov] (getMethod ov m pl)
      callWith pos f first (backTo pos (starEach [] X.env)) (backToKw pos (keywordEach [] X.env))) := by rfl) :
    DE X T δ E (.Call (.Attribute (.Name y p) m apos) [] [] pos) (fMeth g m i fN) := by
  obtain ⟨f, fd, F, hm, b⟩ := C.ex
  refine PE.imp (pe_meth0 (pl := pl) (pe_var hN hv hd hcd) bc hm F (hr.mono hk) b .nil hx ht) fun σ H Q ⟨lk, G, ev, st, r, h⟩ => ?_
  unfold fMeth at h
  split at h
  · rename_i ei
    obtain ⟨v, e1, a, rfl, ed⟩ := r.sl i _ ei
    obtain ⟨dx, fs0, h1, h2⟩ := r.di.bn a ed
    rw [bo.C ed] at h1
    split at h
    · rename_i hn
      refine ⟨_, e1, a, dx, fs0, rfl, h1, (h2.look m).none_ (Option.isNone_iff_eq_none.mp hn), ?_⟩
      exact ⟨rfl, δ, G, [.bench], st, bo, r.toGd, .cons ⟨a, rfl, ed⟩ .nil, rfl, endC_E h⟩
    · exact h.elim
  · exact h.elim
end
/-! ### len of the bench -/
section
variable {X : Cx}
theorem call_lenI {CX : CXT} {k : Nat} {C f : Addr} {fd : FuncData} {ps : List Str} {sp : Sp} {E : XK} (hm : Meth X.K C "__len__" f) (F : FnOk X.prog X.w X.K X.mg X.base CX k f fd ps sp) (hr : Room (k + 1) X.A) (hb : Binds X.K fd ps []) (hx : Passes CX X E) :
    CallR X (.builtin "len") (fun xs H Q => ∃ a dx fs, xs = [.ref a] ∧ H a = some (.ins C dx fs) ∧ sp [.ref a] H (fun v H' => ∃ n : Nat, v = .int n ∧ n ≤ lim ∧ Q v H') E) := by
  intro pins s σ H xs us Q I r h
  obtain ⟨a, dx, fs, rfl, ha, q⟩ := h
  obtain ⟨u, rfl, ru⟩ := vals1 r
  obtain rfl : u = Value.ref a := ru
  obtain ⟨mA, O, _⟩ := ins_get I.hok ha
  obtain ⟨od, J, _⟩ := O.look
  refine Calls.call_function_entry kind_len plain_len entry_len (args_len1 _) ?_
  unfold Builtin.«len»
  refine wpAny_bind (m := oneArg "len" _) (wpAny_pure ?_)
  have hl := F.len _ _ _ _ q
  refine wpAny_bind (m := callSpecial? (.ref a) (PySem.Str.ofString "__len__")) (PySem.W.special_fn (name := "__len__") (args := []) I.kIn J hm.at_ (beq_iff_eq.mp hm.fn) (wpAny_call (codeAny_mono (F.run X.A.in1 X.stack s H ⟨[.ref a], []⟩ [.ref a] [.ref a] _ E hr.in1 I.env0.in1 (by
    have := hb s [.ref a] I.kIn (by simpa using hl)
    simpa using this) (.cons rfl .nil) q) fun r s' hq => ?_)))
  cases r with
  | error e => exact hx pins σ H s e s' I hq
  | ok fl =>
    cases fl with
    | ret u =>
      obtain ⟨v, H', I', rv, n, rfl, hn, q'⟩ := I.after hq
      obtain ⟨t, rfl⟩ := (show ∃ t, u = Value.int n t from rv)
      have hn2 : (n : Int) < 2 ^ 63 := by unfold lim at hn; omega
      refine wpAny_bind (wpAny_holding (wpAny_pure ?_))
      refine wpAny_bind (wpAny_letGo ?_)
      show wpAny _ _ (if ((n : Nat) : Int) < 0 then _ else _) _ _ _
      rw [if_neg (by omega)]
      show wpAny _ _ (if ((n : Nat) : Int) ≥ 2 ^ 63 then _ else _) _ _ _
      rw [if_neg (by omega)]
      exact wpAny_bind (wpAny_mkInt (wpAny_pure ⟨_, rfl, ⟨.int n, H', I'.tok _, ⟨_, rfl⟩, q'⟩⟩))
    | next => exact False.elim hq
    | brk => exact False.elim hq
    | cont => exact False.elim hq
def fLenB (g : Fn) (i : Nat) : F := fun ev st => match ev[i]? with
  | some (some .bench) => (g [.bench] st).bind fun d st2 => match d with
    | .int n => if 0 ≤ n ∧ n ≤ lim then .ok (.dat (.int n)) st2 else .stuck
    | _ => .stuck
  | _ => .stuck
theorem de_lenB (i : Nat) {T : Tb} {δ : Dl} {E : XK} {k k' : Nat} {s : Str} {g : Fn} {y : Str} {p pos p1 : Pos} (bo : BOk X.K δ) (C : CalM X.prog X.w X.K X.mg X.base T "__len__" k [s] g) (hr : Room k' X.A) (hk : k + 1 ≤ k')
    (hx : Passes (L2N.CX X.prog X.w) X E) (hg : Gl X "len") (hm0 : X.mg "len" = none)
    (hN : X.N[i]? = some y := by rfl) (hv : Vis X.env.scope y := by first | exact Or.inl rfl | exact Or.inr (Or.inl rfl) | exact Or.inr (Or.inr rfl)) (hd : (y == ("__debug__" : Str)) = false := by decide) (hcd : (y == ("__classdict__" : Str)) = false := by decide)
    (he : starEach (.Name y p :: []) X.env = (false, eval (.Name y p) X.env) :: starEach [] X.env := by rfl) (hpl : (backTo pos (starEach [] X.env)).any (·.1) = false := by rfl) :
    DE X T δ E (.Call (.Name "len" p1) [.Name y p] [] pos) (fLenB g i) := by
  obtain ⟨f, fd, F, hm, b⟩ := C.ex
  refine PE.imp (pe_callB (call_lenI hm F (hr.mono hk) b hx) hg hm0 bb_len (pa_cons (pe_var hN hv hd hcd) pa_nil he) (by decide) (by decide) he hpl) fun σ H Q ⟨lk, G, ev, st, r, h⟩ => ?_
  unfold fLenB at h
  split at h
  · rename_i ei
    obtain ⟨v, e1, a, rfl, ed⟩ := r.sl i _ ei
    obtain ⟨dx, fs0, h1, h2⟩ := r.di.bn a ed
    rw [bo.C ed] at h1
    refine ⟨_, e1, a, dx, fs0, rfl, h1, rfl, δ, G, [.bench], st, bo, r.toGd, .cons ⟨a, rfl, ed⟩ .nil, rfl, ?_⟩
    cases q : g [.bench] st with
    | stuck => rw [q] at h; exact h.elim
    | exc c st2 => rw [q] at h; exact h
    | ok d st2 =>
      rw [q] at h
      cases d with
      | int n =>
        have h : EndE X.K lk T δ E G H Q (if 0 ≤ n ∧ n ≤ lim then .ok (.dat (.int n)) st2 else .stuck) := h
        split at h
        · rename_i hn
          intro v G' H' f' d' x
          cases x
          refine ⟨n.toNat, by rw [Int.toNat_of_nonneg hn.1], by omega, h _ G' H' f' d' (.int _)⟩
        · exact h.elim
      | _ => exact h.elim
  · exact h.elim
end
end DL

set_option maxHeartbeats 4000000
/-! a bench is made -/
namespace DL
open PySem PySem.Spec PyProof.Rows L2
/-- with the bench at b -/
def Dl.wb (δ : Dl) (b C : Addr) : Dl := .mk δ.dc (some b) C
theorem Dl.wb_has {δ : Dl} {b C a : Addr} (h : (δ.wb b C).has a) : δ.dc = some a ∨ b = a := by
  rcases h with h | h
  · exact .inl h
  · exact .inr (Option.some.inj h)
/-- the heap with a new instance -/
abbrev mkH (H : Hp) (x dx C : Addr) : Hp := upd (upd H dx (.own x)) x (.ins C dx [])
section
variable {T : Tb} {δ : Dl} {G H : Hp} {st : DSt} {x dx C : Addr}
theorem mkH_old (hx : H x = none) (hdx : H dx = none) {b : Addr} {o : HO} (h : H b = some o) : mkH H x dx C b = some o := by
  unfold mkH
  rw [upd_ne (fun z => by rw [z, hx] at h; cases h), upd_ne (fun z => by rw [z, hdx] at h; cases h)]
  exact h
theorem mkH_fr (s : Sub G H) (nt : ∀ b ps, G b ≠ some (.tbl ps)) (hx : H x = none) (hdx : H dx = none) (ne : dx ≠ x) : Fr T δ G H G (mkH H x dx C) := by
  have f1 : Fr T δ G H G (upd H dx (.own x)) := .newH s nt hdx
  exact f1.tr (.newH f1.gh f1.nt (by rw [upd_ne (Ne.symm ne)]; exact hx))
theorem gnone (s : Sub G H) {b : Addr} (h : H b = none) : G b = none := by
  cases e : G b with
  | none => rfl
  | some o => rw [s _ _ e] at h; cases h
theorem Gd.mkB (gd : Gd T δ G H st) (hx : H x = none) (hdx : H dx = none) (ne : dx ≠ x) : Gd T (δ.wb x C) G (mkH H x dx C) { st with b := [] } where
  sub := (mkH_fr (T := T) (δ := δ) gd.sub gd.nt hx hdx ne).gh
  nt := gd.nt
  dg := fun a h => by
    rcases Dl.wb_has h with h | h
    · exact gd.dg a (Dl.ofD h)
    · subst h; exact gnone gd.sub hx
  di := ⟨fun a h => mkH_old hx hdx (gd.di.at_ a h), fun a h => by
    cases h
    exact ⟨dx, [], upd_same, .nil⟩⟩
  tb := (mkH_fr (T := T) (δ := δ) gd.sub gd.nt hx hdx ne).tb gd.tb
/-- the slots hold with the bench, too -/
def evOk (ev : Ev) : Bool := ev.all fun o => match o with
  | some (.own _) => false
  | _ => true
theorem evOk_no {ev : Ev} (h : evOk ev = true) {i : Nat} {d : D} (e : ev[i]? = some (some (.own d))) : False := by
  have := List.all_eq_true.mp h _ (List.mem_of_getElem? e)
  cases this
theorem Rel.mkB {lk : Bool} {σ : L2.St} {ev : Ev} (r : Rel lk T δ G H σ ev st) (hb : δ.bc = none) (ok : evOk ev = true) (hx : H x = none) (hdx : H dx = none) (ne : dx ≠ x) : Rel lk T (δ.wb x C) G (mkH H x dx C) σ ev { st with b := [] } :=
  ⟨r.toGd.mkB hx hdx ne, r.len, fun i sv e => by
    obtain ⟨v, h1, h2⟩ := r.sl i sv e
    refine ⟨v, h1, ?_⟩
    cases sv with
    | dat d => exact h2
    | own d => exact (evOk_no ok e).elim
    | dice => exact h2
    | bench => obtain ⟨a, _, z⟩ := h2; rw [hb] at z; cases z
    | exc a => exact h2, fun i j d e a h1 _ _ _ => (evOk_no ok h1).elim⟩
/-- seen without the bench -/
theorem Fr.dropB {G' H' : Hp} (hx : H x = none) (hdx : H dx = none) (ne : dx ≠ x) (s : Sub G H) (nt : ∀ b ps, G b ≠ some (.tbl ps)) (f : Fr T (δ.wb x C) G (mkH H x dx C) G' H') : Fr T δ G H G' H' := by
  have f0 : Fr T δ G H G (mkH H x dx C) := mkH_fr s nt hx hdx ne
  exact ⟨f.gg, f.gh, f.nt, fun b h n g => f.nw b (f0.un b h) (f0.ut b h n) g, fun b o h d n => f.kp b o (mkH_old hx hdx h) (fun z => by
      rcases Dl.wb_has z with z | z
      · exact d (Dl.ofD z)
      · rw [← z, hx] at h; cases h) n, fun b h => f.un b (f0.un b h), fun b h n => f.ut b (f0.un b h) (f0.ut b h n), fun t => f.tb (f0.tb t)⟩
theorem DiceAt.dropB {G' H' : Hp} {st' : DSt} {b : List (Str × D)} (hb : δ.bc = none) (d : DiceAt (δ.wb x C) G' H' st') : DiceAt δ G' H' { st' with b := b } :=
  ⟨fun a h => d.at_ a h, fun a h => by rw [hb] at h; cases h⟩
end
theorem AllV.mkB {lk : Bool} {δ : Dl} {G H : Hp} {x C : Addr} (hb : δ.bc = none) : ∀ {vs : List V} {svs : List SV}, AllV lk δ G H vs svs → svs.all SV.argOk = true → AllV lk (δ.wb x C) G H vs svs
  | _, _, .nil, _ => .nil
  | _, _, .cons (sv := sv) h r, a => by
    rw [List.all_cons, Bool.and_eq_true] at a
    refine .cons ?_ (r.mkB hb a.2)
    cases sv with
    | dat d => exact h
    | own d => exact absurd a.1 (by simp [SV.argOk])
    | dice => exact h
    | bench => obtain ⟨a, _, z⟩ := h; rw [hb] at z; cases z
    | exc _ => exact h
/-- the class as it may be called -/
structure CalI (P : Program) (w : World) (K : PySem.W.Frag) (mg : Str → Option Value) (base : Heap) (T : Tb) (k : Nat) (ps : List Str) (g : Fn) : Prop where
  ex : ∃ f fd, FnOk P w K mg base (L2N.CX P w) k f fd ps (spD K T ps.length g) ∧ Mk K (He.ga K "Bench") f ∧ mg "Bench" = some (.ref (He.ga K "Bench")) ∧ Binds K fd ps []
/-- Bench(..) that raises -/
def fMkX (g : Fn) (fs : Fs) : F := fun ev st => (fs ev st).bind fun svs st1 => if svs.all SV.argOk = true then (match g (.exc 0 :: svs) st1 with
  | .exc c st2 => .exc c st2
  | _ => .stuck) else .stuck
section
variable {X : Cx} {T : Tb} {δ : Dl} {E : XK} {e : Expr} {es : List Expr} {pos p : Pos} {fs : Fs}
theorem de_mkX {k k' : Nat} {ps : List Str} {g : Fn} (bo : BOk X.K δ) (C : CalI X.prog X.w X.K X.mg X.base T k ps g) (hop : ∀ a svs st c st', g (.exc 0 :: svs) st = .exc c st' → g (.exc a :: svs) st = .exc c st') (hr : Room k' X.A) (hk : k + 1 ≤ k') (hg : Gl X "Bench")
    (hx : Passes (L2N.CX X.prog X.w) X E) (hl : (e :: es).length + 1 = ps.length) (ha : DA X T δ E (e :: es) fs) (hlen : ∀ ev st svs st', fs ev st = .ok svs st' → svs.length + 1 = ps.length)
    (hdb : (("Bench" : Str) == ("__debug__" : Str)) = false := by decide) (he : starEach (e :: es) X.env = (false, eval e X.env) :: starEach es X.env := by rfl) (hpl : (backTo pos (starEach es X.env)).any (·.1) = false := by rfl) :
    DE X T δ E (.Call (.Name "Bench" p) (e :: es) [] pos) (fMkX g fs) := by
  obtain ⟨f, fd, F, M, hm, b⟩ := C.ex
  refine PE.imp (pe_make M F (hr.mono hk) hg hm b .nil hx ha hdb he hpl) fun σ H Q ⟨lk, G, ev, st, r, h⟩ => goA (e := fun G H r => EndE X.K lk T δ E G H Q r) r h fun svs st1 vs G1 H1 e1 f1 r1 x1 h1 x dx hx hdx ne => ?_
  split at h1
  · rename_i ao
    split at h1
    · rename_i c st2 eg
      have f2 : Fr T δ G1 H1 G1 (mkH H1 x dx (He.ga X.K "Bench")) := mkH_fr r1.sub r1.nt hx hdx ne
      have dn : ∀ a, δ.has a → a ≠ x ∧ a ≠ dx := fun a ha => by
        have := (r1.di.alv ha).1.ne
        exact ⟨fun z => this (by rw [z]; exact hx), fun z => this (by rw [z]; exact hdx)⟩
      have d2 : DiceAt δ G1 (mkH H1 x dx (He.ga X.K "Bench")) st1 := r1.di.keep (Sub.rf _) fun a o _ h => mkH_old hx hdx h
      refine ⟨by rw [List.append_nil, List.length_cons, x1.length]; exact hlen _ _ _ _ e1, δ, G1, .exc x :: svs, st1, bo, r1.toGd.fr f2 d2, .cons rfl ?_, by rw [List.all_cons, ao]; rfl, ?_⟩
      · rw [List.append_nil]
        exact (x1.fr f2).lk ao
      · rw [hop x svs st1 c st2 eg]
        exact fun G' H' f' d' => h1 G' H' (f2.tr f') d'
    · exact h1.elim
  · exact h1.elim
/-- Bench(..).m() -/
def fMkM (gi gm : Fn) (m : Str) (fs : Fs) : F := fun ev st => (fs ev st).bind fun svs st1 => if svs.all SV.argOk = true then (match gi (.bench :: svs) { st1 with b := [] } with
  | .ok .none st2 => if (st2.b.lookup m).isNone = true then (match gm [.bench] st2 with
      | .ok d st3 => .ok (.dat d) { st3 with b := st1.b }
      | .exc c st3 => .exc c { st3 with b := st1.b }
      | .stuck => .stuck) else .stuck
  | .exc c st2 => .exc c { st2 with b := st1.b }
  | _ => .stuck) else .stuck
theorem EndC.dropB {K : PySem.W.Frag} {lk : Bool} {G H : Hp} {Q : VK} {b : List (Str × D)} {x dx C : Addr} (hb : δ.bc = none) (hx : H x = none) (hdx : H dx = none) (ne : dx ≠ x) (s : Sub G H) (nt : ∀ b ps, G b ≠ some (.tbl ps)) {r : Rs D} {r' : Rs SV}
    (he : r' = match r with
      | .ok d st3 => .ok (.dat d) { st3 with b := b }
      | .exc c st3 => .exc c { st3 with b := b }
      | .stuck => .stuck) (h : EndE K lk T δ E G H Q r') : EndC K T (δ.wb x C) E G (mkH H x dx C) Q r := by
  subst he
  cases r with
  | ok d st3 => exact fun v G' H' f d' rp => h v G' H' (f.dropB hx hdx ne s nt) (d'.dropB hb) rp
  | exc c st3 => exact fun G' H' f d' => h G' H' (f.dropB hx hdx ne s nt) (d'.dropB hb)
  | stuck => exact h
theorem de_mkM {k k' km : Nat} {ps : List Str} {s m : Str} {gi gm : Fn} {apos : Pos} (hbc : δ.bc = none) (bc : Cls X.K (He.ga X.K "Bench")) (C : CalI X.prog X.w X.K X.mg X.base T k ps gi) (Cm : CalM X.prog X.w X.K X.mg X.base T m km [s] gm) (hr : Room k' X.A) (hk : k + 1 ≤ k') (hkm : km ≤ k') (hg : Gl X "Bench")
    (hx : Passes (L2N.CX X.prog X.w) X E) (hl : (e :: es).length + 1 = ps.length) (ha : DA X T δ E (e :: es) fs) (hlen : ∀ ev st svs st', fs ev st = .ok svs st' → svs.length + 1 = ps.length) {pl : Sem Bool}
    (hdb : (("Bench" : Str) == ("__debug__" : Str)) = false := by decide) (he : starEach (e :: es) X.env = (false, eval e X.env) :: starEach es X.env := by rfl) (hpl : (backTo pos (starEach es X.env)).any (·.1) = false := by rfl)
    {pos2 : Pos} (ht : eval (.Call (.Attribute (.Call (.Name "Bench" p) (e :: es) [] pos) m apos) [] [] pos2) X.env = (do
      let ov ← eval (.Call (.Name "Bench" p) (e :: es) [] pos) X.env
      standAt apos.atName
      let (f, first) ← holding [ov] (getMethod ov m pl)
      callWith pos2 f first (backTo pos2 (starEach [] X.env)) (backToKw pos2 (keywordEach [] X.env))) := by rfl) :
    DE X T δ E (.Call (.Attribute (.Call (.Name "Bench" p) (e :: es) [] pos) m apos) [] [] pos2) (fMkM gi gm m fs) := by
  obtain ⟨f, fd, F, M, hm, b⟩ := C.ex
  obtain ⟨f2, fd2, F2, hm2, b2⟩ := Cm.ex
  refine PE.imp (pe_meth0 (pl := pl) (pe_make M F (hr.mono hk) hg hm b .nil hx ha hdb he hpl) bc hm2 F2 (hr.mono hkm) b2 .nil hx ht) fun σ H Q ⟨lk, G, ev, st, r, h⟩ => goA (e := fun G H r => EndE X.K lk T δ E G H Q r) r h fun svs st1 vs G1 H1 e1 f1 r1 x1 h1 x dx hx hdx ne => ?_
  split at h1
  · rename_i ao
    have g1 := r1.toGd.mkB (C := He.ga X.K "Bench") hx hdx ne
    have f2 : Fr T δ G1 H1 G1 (mkH H1 x dx (He.ga X.K "Bench")) := mkH_fr r1.sub r1.nt hx hdx ne
    have av : AllV false (δ.wb x (He.ga X.K "Bench")) G1 (mkH H1 x dx (He.ga X.K "Bench")) (vs ++ []) svs := by
      rw [List.append_nil]
      exact ((x1.fr f2).lk ao).mkB hbc ao
    refine ⟨by rw [List.append_nil, List.length_cons, x1.length]; exact hlen _ _ _ _ e1, δ.wb x (He.ga X.K "Bench"), G1, .bench :: svs, { st1 with b := [] }, .inr rfl, g1, .cons ⟨x, rfl, rfl⟩ av, by rw [List.all_cons, ao]; rfl, ?_⟩
    cases q : gi (.bench :: svs) { st1 with b := [] } with
    | stuck => rw [q] at h1; exact h1.elim
    | exc c st2 =>
      rw [q] at h1
      exact fun G' H' f d' => h1 G' H' (f.dropB hx hdx ne r1.sub r1.nt) (d'.dropB hbc)
    | ok d st2 =>
      rw [q] at h1
      cases d with
      | none =>
        have h1 : EndE X.K lk T δ E G1 H1 Q (if (st2.b.lookup m).isNone = true then (match gm [.bench] st2 with
          | .ok d st3 => .ok (.dat d) { st3 with b := st1.b }
          | .exc c st3 => .exc c { st3 with b := st1.b }
          | .stuck => .stuck) else .stuck) := h1
        split at h1
        · rename_i hn
          intro v G2 H2 f3 d3 rp
          cases rp
          refine ⟨rfl, ?_⟩
          obtain ⟨dx2, fs2, h2, h3⟩ := d3.bn x rfl
          have g2 := g1.fr f3 d3
          refine ⟨x, dx2, fs2, rfl, h2, (h3.look m).none_ (Option.isNone_iff_eq_none.mp hn), rfl, δ.wb x (He.ga X.K "Bench"), G2, [.bench], st2, .inr rfl, g2, .cons ⟨x, rfl, rfl⟩ .nil, rfl, ?_⟩
          have h4 : EndC X.K T (δ.wb x (He.ga X.K "Bench")) E G1 (mkH H1 x dx (He.ga X.K "Bench")) Q (gm [.bench] st2) := EndC.dropB hbc hx hdx ne r1.sub r1.nt rfl h1
          exact h4.tr f3
        · exact h1.elim
      | _ => exact h1.elim
  · exact h1.elim
end
/-! ### a, .. = Bench(..), .. at a round's start -/
def setD (ev : Ev) : List Nat → List D → Ev
  | i :: is, d :: ds => setD (ev.set i (some (.dat d))) is ds
  | _, _ => ev
def fBn (gi : Fn) (i : Nat) (is : List Nat) (fa fs : Fs) (g : FS) : FS := fun ev st => if evOk ev = true then (fa ev st).bind fun svs st1 => if svs.all SV.argOk = true then (match gi (.bench :: svs) { st1 with b := [] } with
  | .ok .none st2 => (fs ev st2).bind fun svs2 st3 => match dats svs2 with
      | some ds => if ds.length = is.length then g (setD (ev.set i (some .bench)) is ds) st3 else .stuck
      | none => .stuck
  | _ => .stuck) else .stuck else .stuck
/-- the end of a round -/
def EndBn (T : Tb) (d : Addr) (H : Hp) (D' : Ends) : Rs Fl → Prop
  | .ok (.nx ev') _ => ∀ σ' H', (∀ b o, H b = some o → b ≠ d → (∀ ps, o ≠ .tbl ps) → H' b = some o) → (LamX.Tabs T H → LamX.Tabs T H') → σ'.length = ev'.length → D'.nx σ' H'
  | _ => False
theorem EndBn.tr {T : Tb} {d : Addr} {H H1 : Hp} {D' : Ends} (k : ∀ b o, H b = some o → b ≠ d → (∀ ps, o ≠ .tbl ps) → H1 b = some o) (t : LamX.Tabs T H → LamX.Tabs T H1) {r : Rs Fl} (h : EndBn T d H D' r) : EndBn T d H1 D' r := by
  cases r with
  | ok fl st =>
    cases fl with
    | nx ev' => exact fun σ' H' k' t' => h σ' H' (fun b o e n n2 => k' b o (k b o e n n2) n n2) fun z => t' (t z)
    | ret d => exact h
  | exc c st => exact h
  | stuck => exact h
theorem Rel.setBench {lk : Bool} {T : Tb} {δ : Dl} {G H : Hp} {σ : L2.St} {ev : Ev} {st : DSt} (r : Rel lk T δ G H σ ev st) (ok : evOk ev = true) (i : Nat) {a : Addr} (h : δ.bc = some a) : Rel lk T δ G H (σ.set i (some (.ref a))) (ev.set i (some .bench)) st := by
  have key : ∀ (j : Nat) (sv : SV), (ev.set i (some .bench))[j]? = some (some sv) → (i = j ∧ sv = .bench ∧ i < σ.length) ∨ (i ≠ j ∧ ev[j]? = some (some sv)) := fun j sv e => by
    by_cases hj : i = j
    · subst hj
      by_cases hl : i < ev.length
      · rw [List.getElem?_set_self hl] at e
        cases e
        exact .inl ⟨rfl, rfl, by rw [← r.len]; exact hl⟩
      · rw [List.getElem?_eq_none (by rw [List.length_set]; omega)] at e; cases e
    · rw [List.getElem?_set_ne hj] at e
      exact .inr ⟨hj, e⟩
  refine ⟨r.toGd, by rw [List.length_set, List.length_set]; exact r.len, fun j sv e => ?_, fun j k d d' b e1 _ _ _ => ?_⟩
  · rcases key j sv e with ⟨rfl, rfl, hl⟩ | ⟨hj, e⟩
    · exact ⟨.ref a, List.getElem?_set_self hl, a, rfl, h⟩
    · rw [List.getElem?_set_ne hj]
      exact r.sl j sv e
  · rcases key j _ e1 with ⟨_, z, _⟩ | ⟨_, e⟩
    · cases z
    · exact (evOk_no ok e).elim
theorem Rel.setAll {lk : Bool} {T : Tb} {δ : Dl} {G H : Hp} {st : DSt} : ∀ {is : List Nat} {vs : List V} {ds : List D} {σ : L2.St} {ev : Ev}, Rel lk T δ G H σ ev st → RpA G vs ds → Rel lk T δ G H (setV σ is vs) (setD ev is ds) st
  | [], _, _, _, _, r, .nil => r
  | [], _, _, _, _, r, .cons _ _ => r
  | _ :: _, _, _, _, _, r, .nil => r
  | i :: is, v :: vs, d :: ds, σ, ev, r, .cons h q => by
    show Rel lk T δ G H (setV (σ.set i (some v)) is vs) (setD (ev.set i (some (.dat d))) is ds) st
    exact Rel.setAll (r.set i h) q
theorem setD_no : ∀ {is : List Nat} {ds : List D} {ev : Ev}, (∀ (j : Nat) (d : D), ev[j]? ≠ some (some (.own d))) → ∀ (j : Nat) (d : D), (setD ev is ds)[j]? ≠ some (some (.own d))
  | [], _, _, h => h
  | _ :: _, [], _, h => h
  | i :: is, d :: ds, ev, h => setD_no (is := is) fun j d' e => by
    by_cases hj : i = j
    · subst hj
      by_cases hl : i < ev.length
      · rw [List.getElem?_set_self hl] at e; cases e
      · rw [List.getElem?_eq_none (by rw [List.length_set]; omega)] at e; cases e
    · rw [List.getElem?_set_ne hj] at e
      exact h j d' e
section
variable {X : Cx} {T : Tb} {e : Expr} {es : List Expr} {pos p p2 : Pos}
/-- for any bench -/
def tAb (K : PySem.W.Frag) (T : Tb) (fs : Fs) : TA := fun σ H Q => ∃ δ, BOk K δ ∧ tA K T δ noE fs σ H Q
theorem pa_tAb {fs : Fs} (h : ∀ δ, BOk X.K δ → DA X T δ noE es fs) : PA X es (tAb X.K T fs) := ⟨fun pos pins s σ H Q I ⟨δ, bo, t⟩ => (h δ bo).run pos pins s σ H Q I t⟩
def tBn (K : PySem.W.Frag) (T : Tb) (f : FS) : TS := fun D' σ H => ∃ d G ev st, Rel false T (Dl.mk (some d) none 0) G H σ ev st ∧ EndBn T d H D' (f ev st)
theorem pss_bn {k k' : Nat} {ps : List Str} {gi : Fn} {fa fs : Fs} {g : FS} {ts : List Expr} {i : Nat} {is : List Nat} {kt k2 : Nat} {pt pt2 : Pos} {ss : List Stmt} (C : CalI X.prog X.w X.K X.mg X.base T k ps gi) (hr : Room k' X.A) (hk : k + 1 ≤ k') (hg : Gl X "Bench") (hc : X.calm = true)
    (ha : ∀ δ, BOk X.K δ → DA X T δ noE [e] fa) (hlen : ∀ ev st svs st', fa ev st = .ok svs st' → svs.length + 1 = ps.length) (hes : ∀ δ, BOk X.K δ → DA X T δ noE es fs) (rest : ∀ δ G0 H0, BOk X.K δ → DSs X T δ noE G0 H0 ss g)
    (hgt : PGs X ts (gAllN (i :: is))) (hil : is.length ≤ 1000 := by decide)
    (hdb : (("Bench" : Str) == ("__debug__" : Str)) = false := by decide) (he : starEach [e] X.env = (false, eval e X.env) :: starEach [] X.env := by rfl) (hpl : (backTo p2 (starEach [] X.env)).any (·.1) = false := by rfl)
    (hst2 : starEach (Expr.Call (.Name "Bench" p) [e] [] p2 :: es) X.env = (false, eval (.Call (.Name "Bench" p) [e] [] p2) X.env) :: starEach es X.env := by rfl)
    (hn : (assignEach ts X.env).length = (i :: is).length := by rfl) (hst : (assignEach ts X.env).findIdx? (·.1) = none := by rfl)
    (hs : swapsWithSole [.Tuple ts kt pt] (.Tuple (.Call (.Name "Bench" p) [e] [] p2 :: es) k2 pt2) pos.line X.env = pure false := by rfl) (hw : swappedStores [.Tuple ts kt pt] (.Tuple (.Call (.Name "Bench" p) [e] [] p2 :: es) k2 pt2) X.env = pure none := by rfl)
    (h1 : (assignEach [.Tuple ts kt pt] X.env).map (·.2) = [assign (.Tuple ts kt pt) X.env] := by rfl) :
    PSs X (.Assign [.Tuple ts kt pt] (.Tuple (.Call (.Name "Bench" p) [e] [] p2 :: es) k2 pt2) pos :: ss) (tBn X.K T (fBn gi i is fa fs g)) := by
  obtain ⟨f, fd, F, M, hm, b⟩ := C.ex
  have hp1 : PE X (.Call (.Name "Bench" p) [e] [] p2) _ := pe_make M F (hr.mono hk) hg hm b .nil (passN (X := X)) (pa_tAb ha) hdb he hpl
  refine PSs.imp (pss_cons (ps_asg (pe_tup (pa_cons hp1 (pa_tAb hes) hst2)) (pg_tup hc hgt hn hst) hs hw h1) (pss_tbL rest)) fun D' σ H ⟨d, G, ev, st, r, h⟩ => ?_
  unfold fBn at h
  split at h
  rotate_left
  · exact h.elim
  rename_i ok
  refine ⟨Dl.mk (some d) none 0, .inl rfl, false, G, ev, st, r, ?_⟩
  cases q : fa ev st with
  | stuck => rw [q] at h; exact h.elim
  | exc c st1 => rw [q] at h; exact h.elim
  | ok svs st1 =>
    rw [q] at h
    intro vs G1 H1 f1 d1 av x dx hx hdx ne
    have h : EndBn T d H D' (if svs.all SV.argOk = true then _ else _) := h
    split at h
    rotate_left
    · exact h.elim
    rename_i ao
    have r1 := r.fr f1 d1
    have g1 := r1.toGd.mkB (C := He.ga X.K "Bench") hx hdx ne
    have f2 : Fr T (Dl.mk (some d) none 0) G1 H1 G1 (mkH H1 x dx (He.ga X.K "Bench")) := mkH_fr r1.sub r1.nt hx hdx ne
    have av2 : AllV false ((Dl.mk (some d) none 0).wb x (He.ga X.K "Bench")) G1 (mkH H1 x dx (He.ga X.K "Bench")) (vs ++ []) svs := by
      rw [List.append_nil]
      exact (av.fr f2).mkB rfl ao
    refine ⟨by rw [List.append_nil, List.length_cons, av.length]; exact hlen _ _ _ _ q, (Dl.mk (some d) none 0).wb x (He.ga X.K "Bench"), G1, .bench :: svs, { st1 with b := [] }, .inr rfl, g1, .cons ⟨x, rfl, rfl⟩ av2, by rw [List.all_cons, ao]; rfl, ?_⟩
    cases q2 : gi (.bench :: svs) { st1 with b := [] } with
    | stuck => rw [q2] at h; exact h.elim
    | exc c st2 => rw [q2] at h; exact h.elim
    | ok d0 st2 =>
      rw [q2] at h
      cases d0 with
      | none =>
        have h : EndBn T d H D' ((fs ev st2).bind _) := h
        intro v G2 H2 f3 d3 rp
        cases rp
        refine ⟨rfl, (Dl.mk (some d) none 0).wb x (He.ga X.K "Bench"), .inr rfl, false, G2, ev, st2, (r1.mkB (C := He.ga X.K "Bench") rfl ok hx hdx ne |>.fr f3 (by exact d3)), ?_⟩
        cases q3 : fs ev st2 with
        | stuck => rw [q3] at h; exact h.elim
        | exc c st3 => rw [q3] at h; exact h.elim
        | ok svs2 st3 =>
          rw [q3] at h
          intro vs2 G3 H3 f4 d4 av3
          have h : EndBn T d H D' (match dats svs2 with
            | some ds => if ds.length = is.length then g (setD (ev.set i (some .bench)) is ds) st3 else .stuck
            | none => .stuck) := h
          cases q4 : dats svs2 with
          | none => rw [q4] at h; exact h.elim
          | some ds =>
            rw [q4] at h
            have h : EndBn T d H D' (if ds.length = is.length then g (setD (ev.set i (some .bench)) is ds) st3 else .stuck) := h
            split at h
            rotate_left
            · exact h.elim
            rename_i hdl
            have ra := av3.dats q4
            have hvl : vs2.length = is.length := ra.length.trans hdl
            have r3 := (r1.mkB (C := He.ga X.K "Bench") rfl ok hx hdx ne |>.fr f3 (by exact d3)).fr f4 d4
            have f34 := f3.tr f4
            refine ⟨by rw [List.length_cons, hvl, sizeLine_eq]; omega, fun pp hpp => ⟨pp, _, rfl, SqT.of upd_same, by rw [List.length_cons, hvl]; rfl, gAllN_of (is := i :: is) (by rw [List.length_cons, hvl]; rfl) ?_⟩⟩
            have f5 : Fr T ((Dl.mk (some d) none 0).wb x (He.ga X.K "Bench")) G3 H3 G3 (upd H3 pp (.tup (V.ref x :: vs2))) := .newH r3.sub r3.nt hpp
            have r4 := ((r3.fr f5 (f5.kpD r3.di fun z => (r3.di.alv z).1.ne hpp)).setBench ok i (a := x) rfl).setAll (is := is) ra
            have nown : ∀ (j : Nat) (dd : D), (setD (ev.set i (some .bench)) is ds)[j]? ≠ some (some (.own dd)) := setD_no fun j dd e => by
              by_cases hj : i = j
              · subst hj
                by_cases hl : i < ev.length
                · rw [List.getElem?_set_self hl] at e; cases e
                · rw [List.getElem?_eq_none (by rw [List.length_set]; omega)] at e; cases e
              · rw [List.getElem?_set_ne hj] at e
                exact evOk_no ok e
            refine ⟨(Dl.mk (some d) none 0).wb x (He.ga X.K "Bench"), G3, upd H3 pp (.tup (V.ref x :: vs2)), .inr rfl, G3, _, st3, ⟨r4, .rf r4.sub r4.nt, fun j dd a e _ => (nown j dd e).elim⟩, ?_⟩
            have fO : Fr T (Dl.mk (some d) none 0) G H G3 (upd H3 pp (.tup (V.ref x :: vs2))) := f1.tr ((f34.tr f5).dropB hx hdx ne r1.sub r1.nt)
            cases q5 : g (setD (ev.set i (some .bench)) is ds) st3 with
            | stuck => rw [q5] at h; exact h.elim
            | exc c st5 => rw [q5] at h; exact h.elim
            | ok fl st5 =>
              rw [q5] at h
              cases fl with
              | ret dd => exact h.elim
              | nx ev5 =>
                intro σ' G' H' rr _
                refine h σ' H' (fun bb o e n nt => ?_) (fun _ => rr.tb) rr.len.symm
                have e1 := fO.kp bb o e (fun z => by
                  rcases z with z | z
                  · exact n (Option.some.inj z).symm
                  · cases z) nt
                refine rr.fr.kp bb o e1 (fun z => ?_) nt
                rcases Dl.wb_has z with z | z
                · exact n (Option.some.inj z).symm
                · subst z
                  have e2 := f1.kp x o e (fun z => by
                    rcases z with z | z
                    · exact n (Option.some.inj z).symm
                    · cases z) nt
                  rw [hx] at e2; cases e2
      | _ => exact h.elim
end
end DL

set_option maxHeartbeats 4000000
/-! defs with lambdas; the law with a bench in each round -/
namespace DL
open PySem PySem.Spec PyProof.Rows L2 LamX
theorem mk_calC {P : Program} {w : World} {K : PySem.W.Frag} {mg : Str → Option Value} {base : Heap} {x : Str} {params : Arguments} {body : List Stmt} {scope : Scope} {fd : FuncData} {N ps : List Str} {k : Nat} {T : Tb} {fs : FS}
    (F : FunD K x x params body scope [] [] (He.fAd K (x, none)) fd) (gm : mg x = some (.ref (He.fAd K (x, none)))) (S : FnScope N ps scope) (hle : ps.length ≤ N.length) (b : Binds K fd ps [])
    (hb : ∀ (A : Around) (outer : List Env) (s : Shared) (H0 : Hp) (E : XK) (δ : Dl) (G0 : Hp), BOk K δ → Room k (A.deeper (envOfC x scope s.heap.objs.size (He.fAd K (x, none)) (.ref (He.codeOf K (x, none))))) →
      DSs (cxOf (L2N.CX P w) P w K mg base N x scope (He.fAd K (x, none)) (.ref (He.codeOf K (x, none))) A outer s H0 E) T δ E G0 H0 body fs) :
    Cal P w K mg base T x (k + 1) ps (runF N.length fs) := by
  refine ⟨_, fd, ?_, gm, F.kp, b⟩
  refine FunD.okC F S (fun vs H Q E h => h.1) fun A outer s H vs Q E hr h => ?_
  obtain ⟨hl, δ, G, svs, st, bo, gd, av, ao, e⟩ := h
  refine ⟨_, hb A outer s H E δ G bo hr, G, ev0 N.length svs, st, start_rel gd av ao (by omega), ?_⟩
  unfold runF at e
  cases q : fs (ev0 N.length svs) st with
  | exc c st1 => rw [q] at e; exact e
  | stuck => rw [q] at e; exact e.elim
  | ok fl st1 =>
    rw [q] at e
    cases fl with
    | ret d => exact e
    | nx ev1 => exact fun σ' G' H' r' _ => e .non G' H' r'.fr r'.di .non
theorem mk_calI {P : Program} {w : World} {K : PySem.W.Frag} {mg : Str → Option Value} {base : Heap} {x q : Str} {params : Arguments} {body : List Stmt} {scope : Scope} {f : Addr} {fd : FuncData} {N ps : List Str} {k : Nat} {T : Tb} {fs : FS}
    (F : FunD K x q params body scope [] [] f fd) (mk : Mk K (He.ga K "Bench") f) (gC : mg "Bench" = some (.ref (He.ga K "Bench"))) (S : FnScope N ps scope) (hle : ps.length ≤ N.length) (b : Binds K fd ps [])
    (hb : ∀ (cdv : Value) (A : Around) (outer : List Env) (s : Shared) (H0 : Hp) (E : XK) (δ : Dl) (G0 : Hp), BOk K δ → Room k (A.deeper (envOfC q scope s.heap.objs.size f cdv)) → DSs (cxOf (L2N.CX P w) P w K mg base N q scope f cdv A outer s H0 E) T δ E G0 H0 body fs) :
    CalI P w K mg base T (k + 1) ps (runF N.length fs) := ⟨f, fd, fn_ok F S hle hb fun _ _ _ => rfl, mk, gC, b⟩
theorem two_tabs {P1 P2 : Addr} {q1 q2 : Str} (h : P1 ≠ P2) : (∀ p ∈ [(P1, q1), (P2, q2)], p.1 = P1 → p.2 = q1) ∧ (∀ p ∈ [(P1, q1), (P2, q2)], p.1 = P2 → p.2 = q2) := by
  refine ⟨fun p hp e => ?_, fun p hp e => ?_⟩
  · rcases List.mem_cons.mp hp with z | z
    · rw [z]
    · have z : p = (P2, q2) := by simpa using z
      rw [z] at e; exact absurd e.symm h
  · rcases List.mem_cons.mp hp with z | z
    · rw [z] at e; exact absurd e h
    · have z : p = (P2, q2) := by simpa using z
      rw [z]
theorem ps_tbL {X : Cx} {T : Tb} {f : FS} {s : Stmt} (h : ∀ δ G0 H0, BOk X.K δ → DS X T δ noE G0 H0 s f) : PS X s (tbL X.K T f) := ⟨fun pins s σ H D' I ⟨δ, G0, H0, bo, t⟩ => (h δ G0 H0 bo).run pins s σ H D' I t⟩
def t_lawB (K : PySem.W.Frag) (T : Tb) (most : Int) (f g : FS) : TS := tSeq (tFor (iList K (tCall (spRounds K T) [] noE (tCons (tVar 0) (tCons (tC (.int most)) tNil)))) (gName 1) (tSeq (tbL K T f) (tBn K T g))) (tRet (tC (.bl true)))
theorem law_okB {K : PySem.W.Frag} {T : Tb} {most : Int} {f g : FS} {N : List Str} (h0 : 1 ≤ most) (h1 : most ≤ 1000) (hN : 2 ≤ N.length)
    (good : ∀ c : Int, ∃ ev1 st1 ev' st', f (evL N.length) ⟨c, 0, []⟩ = .ok (.nx ev1) st1 ∧ g ev1 st1 = .ok (.nx ev') st' ∧ ev'.length = N.length) (vs : List V) (H : Hp) (Q : VK) (E : XK) (h : spLaw K T vs H Q E) : t_lawB K T most f g { nx := fun _ H' => Q .non H', rt := Q } (start N vs) H := by
  obtain ⟨a, ns, rfl, hs, hl, tb, q⟩ := h
  have hlen : (start N [V.ref a]).length = N.length := by
    unfold L2.start
    simp
    omega
  have h00 : (start N [V.ref a])[0]? = some (some (.ref a)) := by unfold L2.start; rfl
  refine ⟨_, h00, a, ns, most, rfl, hs, hl, h0, h1, fun r G' H' as f1 hr hna hra hda => ⟨r, rfl, ⟨_, SqL.of hr⟩, ?_⟩⟩
  refine ⟨fun i m σ Hc => m = as.length - i ∧ i ≤ as.length ∧ σ.length = N.length ∧ Hc r = some (.lst (as.map V.ref)) ∧ LamX.Tabs T Hc ∧ ∀ j d, i ≤ j → as[j]? = some d → DiceL Hc d,
    ⟨as.length, by simp, Nat.zero_le _, hlen, hr, f1.tb tb, fun j d _ e => hda d (List.mem_of_getElem? e)⟩, ?_⟩
  rintro i m σ Hc ⟨rfl, hi, hσ, hrc, tbc, hdc⟩
  by_cases hlt : i < as.length
  · have e0 : as[i]? = some as[i] := List.getElem?_eq_getElem hlt
    refine .inr ⟨⟨_, .ref as[i], SqL.of hrc, by rw [List.getElem?_map, e0]; rfl⟩, fun σ' Hn => i + 1 ≤ as.length ∧ σ'.length = N.length ∧ Hn r = some (.lst (as.map V.ref)) ∧ LamX.Tabs T Hn ∧ ∀ j d, i + 1 ≤ j → as[j]? = some d → DiceL Hn d,
      fun σ' Hn z => ⟨as.length - (i + 1), by omega, rfl, z.1, z.2⟩, fun x Hx ⟨ex, ey⟩ => ?_⟩
    subst ex
    have hx : x = .ref as[i] := by
      have := ey _ (SqL.of hrc)
      rw [List.getElem?_map, e0] at this
      exact (Option.some.inj this).symm
    subst hx
    generalize hd : as[i] = d at e0
    obtain ⟨c, hc⟩ := hdc i d (Nat.le_refl _) e0
    obtain ⟨ev1, st1, ev', st', ef, eg, el⟩ := good c
    refine ⟨Dl.mk (some d) none 0, hp0, Hx, .inl rfl, hp0, evL N.length, ⟨c, 0, []⟩, ?_, ?_⟩
    · have own_no : ∀ {j : Nat} {dd : D}, (evL N.length)[j]? = some (some (.own dd)) → False := fun {j dd} e => by
        unfold evL at e
        rw [List.getElem?_set] at e
        split at e
        · split at e <;> cases e
        · rw [List.getElem?_replicate] at e
          split at e <;> cases e
      refine ⟨⟨⟨sub0 _, nt0, fun _ _ => rfl, ⟨fun b e => by cases e; exact hc, fun b e => by cases e⟩, tbc⟩, ?_, fun j sv e => ?_, fun j k dd e b h1 _ _ _ => (own_no h1).elim⟩, .rf (sub0 _) nt0, fun j dd b e _ => (own_no e).elim⟩
      · unfold evL; simp [hσ]
      · unfold evL at e
        rw [List.getElem?_set] at e
        split at e
        · rename_i e1
          subst e1
          split at e
          · cases e
            exact ⟨.ref d, by rw [List.getElem?_set]; simp; omega, d, rfl, rfl⟩
          · cases e
        · rw [List.getElem?_replicate] at e
          split at e <;> cases e
    · rw [ef]
      intro σ' G2 H2 rr _
      refine ⟨d, G2, ev1, st1, rr.toRel, ?_⟩
      rw [eg]
      intro σ2 H3 k t l
      have kk : ∀ b o, Hx b = some o → b ≠ d → (∀ ps, o ≠ .tbl ps) → H3 b = some o := fun b o e n nt => k b o (rr.fr.kp b o e (fun z => by
        rcases z with z | z
        · exact n (Option.some.inj z).symm
        · cases z) nt) n nt
      refine ⟨hlt, by rw [l, el], ?_, t rr.tb, fun j d' hj e => ?_⟩
      · refine kk _ _ hrc (fun z => ?_) fun _ z => by cases z
        rw [z] at hra
        exact hra (List.mem_of_getElem? e0)
      · obtain ⟨c', hc'⟩ := hdc j d' (by omega) e
        refine ⟨c', kk _ _ hc' (fun z => ?_) fun _ z => by cases z⟩
        subst z
        have := (List.getElem?_inj hlt hna).mp (e0.trans e.symm)
        omega
  · have : i = as.length := by omega
    subst this
    exact .inl ⟨⟨_, SqL.of hrc, by rw [List.length_map]; exact Nat.le_refl _⟩, q Hc⟩
end DL

set_option maxHeartbeats 4000000
/-! printed by mk.py: the readings of the bench's methods, of the law's operations -/
namespace DL
open PySem PySem.Spec PyProof.Rows L2
def fs_Bench___init__ : FS :=
  (fSeq (fDrop (fCall g_need_store (fK (fVar 1) fN)))
  (fSeq (fFldSet 0 "store" (fVar 1))
  (fSeq (fFldSet 0 "now" (fCall g_fresh (fK (fVar 1) fN)))
  (fSeq (fFldSet 0 "earlier" (fLst fN))
  (fFldSet 0 "undone" (fLst fN))))))
def g_Bench___init__ : Fn := runF 2 fs_Bench___init__
def fs_Bench_change : FS :=
  (fSeq (fFldSet 0 "earlier" (fOp2 gAdd (fFld 0 "earlier") (fLst (fK (fFld 0 "now") fN))))
  (fSeq (fFldSet 0 "undone" (fLst fN))
  (fSeq (fFldSet 0 "now" (fVar 1))
  (fRet (fVar 1)))))
def g_Bench_change : Fn := runF 2 fs_Bench_change
def fs_Bench_use : FS :=
  (fSeq (fDrop (fCall g_need_index (fK (fFld 0 "store") (fK (fVar 1) fN))))
  (fSeq (fIfS (fNot (fCall g_can_use (fK (fFld 0 "store") (fK (fFld 0 "now") (fK (fVar 1) fN))))) (fRaise .Worn) fNil)
  (fRet (fMeth g_Bench_change "change" 0 (fK (fCall g_ticked (fK (fFld 0 "store") (fK (fFld 0 "now") (fK (fVar 1) fN)))) fN)))))
def g_Bench_use : Fn := runF 2 fs_Bench_use
def fs_Bench_rest : FS :=
  (fRet (fMeth g_Bench_change "change" 0 (fK (fCall g_ticked (fK (fFld 0 "store") (fK (fFld 0 "now") (fK (fC .none) fN)))) fN)))
def g_Bench_rest : Fn := runF 1 fs_Bench_rest
def fs_Bench_state : FS :=
  (fRet (fFld 0 "now"))
def g_Bench_state : Fn := runF 1 fs_Bench_state
def fs_Bench_left : FS :=
  (fRet (fGet (fCall g_ranks (fK (fFld 0 "store") fN)) (fFld 0 "now") (fC .none)))
def g_Bench_left : Fn := runF 1 fs_Bench_left
def fs_Bench_undo : FS :=
  (fSeq (fIfS (fOp2 gEq (fFld 0 "earlier") (fLst fN)) (fRaise .NothingToUndo) fNil)
  (fSeq (fFldSet 0 "undone" (fOp2 gAdd (fFld 0 "undone") (fLst (fK (fFld 0 "now") fN))))
  (fSeq (fFldSet 0 "now" (fOp2 gIxS (fFld 0 "earlier") (fOp1 gNeg (fC (.int 1)))))
  (fSeq (fFldSet 0 "earlier" (fSl gSl (fFld 0 "earlier") none (some (fOp1 gNeg (fC (.int 1))))))
  (fRet (fFld 0 "now"))))))
def g_Bench_undo : Fn := runF 1 fs_Bench_undo
def fs_Bench_redo : FS :=
  (fSeq (fIfS (fOp2 gEq (fFld 0 "undone") (fLst fN)) (fRaise .NothingToUndo) fNil)
  (fSeq (fFldSet 0 "earlier" (fOp2 gAdd (fFld 0 "earlier") (fLst (fK (fFld 0 "now") fN))))
  (fSeq (fFldSet 0 "now" (fOp2 gIxS (fFld 0 "undone") (fOp1 gNeg (fC (.int 1)))))
  (fSeq (fFldSet 0 "undone" (fSl gSl (fFld 0 "undone") none (some (fOp1 gNeg (fC (.int 1))))))
  (fRet (fFld 0 "now"))))))
def g_Bench_redo : Fn := runF 1 fs_Bench_redo
def fs_Bench___len__ : FS :=
  (fRet (fCB gLen (fK (fFld 0 "earlier") fN)))
def g_Bench___len__ : Fn := runF 1 fs_Bench___len__
def fs__law_done : FS :=
  (fSeq (fIfS (fOp2 gEq (fVar 1) (fC (.str "use"))) (fRet (fTold (fMeth g_Bench_use "use" 0 (fK (fVar 2) fN)))) fNil)
  (fSeq (fIfS (fOp2 gEq (fVar 1) (fC (.str "rest"))) (fRet (fTold (fMeth g_Bench_rest "rest" 0 fN))) fNil)
  (fSeq (fIfS (fOp2 gEq (fVar 1) (fC (.str "undo"))) (fRet (fTold (fMeth g_Bench_undo "undo" 0 fN))) fNil)
  (fRet (fTold (fMeth g_Bench_redo "redo" 0 fN))))))
def g__law_done : Fn := runF 3 fs__law_done
def fs__law_turn : FS :=
  (fSeq (fSet 6 (fOp2 gIxS (fLst (fK (fC (.str "use")) (fK (fC (.str "use")) (fK (fC (.str "use")) (fK (fC (.str "rest")) (fK (fC (.str "undo")) (fK (fC (.str "undo")) (fK (fC (.str "redo")) (fK (fC (.str "redo")) fN))))))))) (fCall g__law_roll (fK (fVar 0) (fK (fC (.int 8)) fN)))))
  (fSeq (fSet 7 (fCall g__law_roll (fK (fVar 0) (fK (fOp2 gAdd (fCB gLen (fK (fVar 2) fN)) (fC (.int 1))) fN))))
  (fSeq (fSet 8 (fCall g__law_done (fK (fVar 1) (fK (fVar 6) (fK (fVar 7) fN)))))
  (fSeq (fIfS (fOp2 (gIn false) (fVar 6) (fTup (fK (fC (.str "use")) (fK (fC (.str "rest")) fN)))) (fSeq (fIfS (fAnd (fOp2 gEq (fVar 6) (fC (.str "use"))) (fOp2 gGe (fVar 7) (fCB gLen (fK (fVar 2) fN)))) (fRet (fTup (fK (fVar 8) (fK (fTup (fK (fC (.str "error")) (fK (fC (.str "InvalidIndex")) fN))) (fK (fVar 3) (fK (fVar 4) (fK (fVar 5) fN))))))) fNil)
  (fSeq (fIfS (fAnd (fOp2 gEq (fVar 6) (fC (.str "use"))) (fOp2 (gIn true) (fVar 7) (fCall g__law_uses (fK (fVar 2) (fK (fVar 3) fN))))) (fRet (fTup (fK (fVar 8) (fK (fTup (fK (fC (.str "error")) (fK (fC (.str "Worn")) fN))) (fK (fVar 3) (fK (fVar 4) (fK (fVar 5) fN))))))) fNil)
  (fSeq (fSet 10 (fCall g__law_next (fK (fVar 2) (fK (fVar 3) (fK (fIf (fOp2 gEq (fVar 6) (fC (.str "use"))) (fVar 7) (fC .none)) fN)))))
  (fRet (fTup (fK (fVar 8) (fK (fVar 10) (fK (fVar 10) (fK (fOp2 gAdd (fVar 4) (fLst (fK (fVar 3) fN))) (fK (fLst fN) fN)))))))))) fNil)
  (fSeq (fSet 9 (fIf (fOp2 gEq (fVar 6) (fC (.str "undo"))) (fVar 4) (fVar 5)))
  (fSeq (fIfS (fOp2 gEq (fVar 9) (fLst fN)) (fRet (fTup (fK (fVar 8) (fK (fTup (fK (fC (.str "error")) (fK (fC (.str "NothingToUndo")) fN))) (fK (fVar 3) (fK (fVar 4) (fK (fVar 5) fN))))))) fNil)
  (fSeq (fIfS (fOp2 gEq (fVar 6) (fC (.str "undo"))) (fRet (fTup (fK (fVar 8) (fK (fOp2 gIxS (fVar 9) (fOp1 gNeg (fC (.int 1)))) (fK (fOp2 gIxS (fVar 9) (fOp1 gNeg (fC (.int 1)))) (fK (fSl gSl (fVar 4) none (some (fOp1 gNeg (fC (.int 1))))) (fK (fOp2 gAdd (fVar 5) (fLst (fK (fVar 3) fN))) fN))))))) fNil)
  (fRet (fTup (fK (fVar 8) (fK (fOp2 gIxS (fVar 9) (fOp1 gNeg (fC (.int 1)))) (fK (fOp2 gIxS (fVar 9) (fOp1 gNeg (fC (.int 1)))) (fK (fOp2 gAdd (fVar 4) (fLst (fK (fVar 3) fN))) (fK (fSl gSl (fVar 5) none (some (fOp1 gNeg (fC (.int 1))))) fN))))))))))))))
def g__law_turn : Fn := runF 11 fs__law_turn
theorem init_opaque (a : Addr) (svs : List SV) (st : DSt) (c : Exn) (st' : DSt) (h : g_Bench___init__ (.exc 0 :: svs) st = .exc c st') : g_Bench___init__ (.exc a :: svs) st = .exc c st' := by
  have key : ∀ b : Addr, g_Bench___init__ (.exc b :: svs) st = (match (svs.map some ++ List.replicate (2 - (svs.length + 1)) none)[0]? with
      | some (some sv) => (match fCall g_need_store (fun _ st => .ok [sv] st) [] st with
        | .exc c st2 => .exc c st2
        | _ => .stuck)
      | _ => .stuck) := fun b => by
    have e0 : ev0 2 (.exc b :: svs) = some (.exc b) :: (svs.map some ++ List.replicate (2 - (svs.length + 1)) none) := rfl
    unfold g_Bench___init__ runF fs_Bench___init__
    rw [e0]
    generalize svs.map some ++ List.replicate (2 - (svs.length + 1)) none = r
    cases r with
    | nil => rfl
    | cons o r =>
      cases o with
      | none => rfl
      | some sv =>
        show _ = (match fCall g_need_store (fun _ st => .ok [sv] st) [] st with
          | .exc c st2 => Rs.exc c st2
          | _ => .stuck)
        have e1 : fDrop (fCall g_need_store (fK (fVar 1) fN)) (some (.exc b) :: some sv :: r) st = (fCall g_need_store (fun _ st => .ok [sv] st) [] st).bind fun _ st1 => .ok (.nx (some (.exc b) :: some sv :: r)) st1 := rfl
        unfold fSeq
        rw [e1]
        cases fCall g_need_store (fun _ st => .ok [sv] st) [] st with
        | exc c st2 => rfl
        | stuck => rfl
        | ok v st2 => cases sv <;> rfl
  rw [key] at h ⊢
  exact h
end DL

set_option maxHeartbeats 4000000
/-! an exception that is caught and handed back: its object is known from then on -/
namespace DL
open PySem PySem.Spec PyProof.Rows L2
section
variable {X : Cx} {pins : List (Addr × Obj)} {σ : L2.St} {H : Hp} {s : Shared}
/-- an object that is no one's becomes known -/
theorem inv_track {a : Addr} {o : HO} (I : Inv X pins σ H s) (old : X.s_0.heap.get? a = none) (hn : H a = none) (hL : a ≠ X.env.locals) (hc : ∀ x c, X.env.cells.lookup x = some c → c ≠ a)
    (hp : ∀ p ∈ X.pn ++ pins, p.1 ≠ a) (new : ObjOk X.prog X.w (upd H a o) s.heap a o) : Inv X pins σ (upd H a o) s where
  ok := I.ok
  os := I.os
  bare := I.bare
  base := {
    keep := I.base.keep
    slot := I.base.slot
    there := I.base.there
    free := fun b u e n x => by
      rw [upd_ne (fun z => by rw [z, old] at e; cases e)]
      exact I.base.free b u e n x
    tups := fun b xs e => by
      have q := I.base.tups b xs e
      rw [upd_ne (ne_of_none q hn)]; exact q
    frzs := fun b u xs e => by
      have q := I.base.frzs b u xs e
      rw [upd_ne (ne_of_none q hn)]; exact q
    tbls := fun b ps e => by
      obtain ⟨m, q⟩ := I.base.tbls b ps e
      exact ⟨m, by rw [upd_ne (ne_of_none q hn)]; exact q⟩ }
  loc := I.loc
  cell := I.cell
  free := by rw [upd_ne hL.symm]; exact I.free
  freeC := fun x c e => by rw [upd_ne (hc x c e)]; exact I.freeC x c e
  pin := fun p h => by
    obtain ⟨q1, q2, q3⟩ := I.pin p h
    exact ⟨q1, by rw [upd_ne (hp p h)]; exact q2, q3⟩
  hok := I.hok.laidN (fun _ _ e => e) hn new
  len := I.len
theorem excV_ok {P : Program} {w : World} {H : Hp} {h : Heap} {a C : Addr} {oe : Obj} {vs : Array Value} (e : h.get? a = some oe) (hc : oe.cls = .ref C) (hd : oe.dict = none) (hv : oe.data = .fields vs) : ObjOk P w H h a (ExV C a) :=
  ⟨⟨oe, vs, e, hc, hd, hv⟩, ⟨oe, e⟩, fun _ _ ⟨o, v, q, r⟩ k => ⟨o, v, k o q, r⟩⟩
end
/-- what the caught one is wished to leave -/
def KeepW (K : PySem.W.Frag) (c : Value) (D : Ends) : WX := fun cls d _ H => ∃ C : Addr, cls = .ref C ∧ d = none ∧ PySem.W.exmOne K cls c = some true ∧ ∀ a, H a = none → D.rt (.ref a) (upd H a (ExV C a))
section
variable {X : Cx} {pins : List (Addr × Obj)} {σ : L2.St} {H : Hp} {s : Shared} {x n : Str} {CS : Addr} {i : Nat} {np q rp pos pos' : Pos} {D : Ends}
/-- within the suite: the name is handed back -/
theorem suite_ret {a : Addr} {pn : List (Addr × Obj)} (S : Inv (X.suite a pn) [] σ H s) (hi : X.N[i]? = some n) (hv : Vis X.env.scope n) (hd : (n == ("__debug__" : Str)) = false) (hcd : (n == ("__classdict__" : Str)) = false) (hσ : σ[i]? = some (some (.ref a))) :
    wpAny (model X.prog X.w) (X.suite a pn).A (execs [.Return (some (.Name n q)) rp] X.env) (fun f s' => f = .ret (.ref a) ∧ ∃ σ', Inv (X.suite a pn) [] σ' H s') (fun _ _ => False) s := by
  have nm : PE (X.suite a pn) (.Name n q) (tVar i) := pe_var hi hv hd hcd
  refine wpAny_mono ((pss_one (ps_ret (pos := rp) nm)).run [] s σ H { nx := fun _ _ => False, rt := fun v H' => v = .ref a ∧ H' = H } S ⟨.ref a, hσ, rfl, rfl⟩) (fun f s' z => ?_) (fun _ _ z => z)
  cases f with
  | next => obtain ⟨_, _, _, z⟩ := z; exact z.elim
  | brk => obtain ⟨_, _, _, z⟩ := z; exact z.elim
  | cont => obtain ⟨_, _, _, z⟩ := z; exact z.elim
  | ret u =>
    obtain ⟨v, σ', H', S', r, ev, eH⟩ := z
    subst ev
    rw [eH] at S'
    cases (show u = Value.ref a from r)
    exact ⟨rfl, σ', S'⟩
/-- the caught one is handed back -/
theorem catch_keep {xe : Value → Shared → Prop} {u : Value} {s' : Shared} (I : Inv X pins σ H s) (hs : X.stack = X.env :: X.outer) (hf : X.env.frame = some X.env.locals) (hex : X.ex = []) (hN : X.N.Nodup) (hi : X.N[i]? = some n) (hln : X.env.kindOf n = some .local)
    (hv : Vis X.env.scope n) (hd : (n == ("__debug__" : Str)) = false) (hcd : (n == ("__classdict__" : Str)) = false) (hg : Gl X x) (hm : X.mg x = some (.ref CS)) (hdx : (x == ("__debug__" : Str)) = false)
    (air : L2N.XE (X.tr (X.pn ++ pins) xe) (KeepW X.K (.ref CS) D) u s') :
    wpAny (model X.prog X.w) X.A (noteFrame u X.env) (fun _ s2 => wpAny (model X.prog X.w) X.A (setFlight u none) (fun _ s3 =>
      wpAny (model X.prog X.w) X.A (handleBy u X.env [.ExceptHandler (some (.Name x np)) (some n) [.Return (some (.Name n q)) rp] pos']) (SP X pins D) X.xe s3) X.xe s2) X.xe s' := by
  have frames : X.A.frames = some (X.env :: X.outer) := I.ok.frames.trans (congrArg some hs)
  obtain ⟨a, B, sI, pins1, σ1, H1, cls, d, rfl, J1, ground, up1, sky, na, os1, ag, C, rfl, rfl, exm, wish⟩ := air
  have J : Inv X pins σ1 H1 sI := J1.ofTry I.ok
  refine L2N.Sky.land L2N.Zn.steady frames hf (show L2N.Zn (.ref C) none |> fun Z => Sky B (X.env :: X.outer) a Z X.env.locals s'.heap from by rw [← hs]; exact sky) fun h3 fl3 up3 => ?_
  -- where the exception stands
  have J3 : Inv X pins σ1 H1 { s' with heap := h3 } := J.landed ground fl3.1 (up1.trans up3) os1 ag
  obtain ⟨o3, v3, g3, z3, d3⟩ := fl3.there
  have noFr : a ∉ frs (X.env :: X.outer) := fun hm => by
    obtain ⟨_, o', e', nf⟩ := fl3.2.2.1.mem hm
    rw [g3] at e'
    cases e'
    exact nf v3 d3
  have neL : a ≠ X.env.locals := fun z => noFr (by rw [z]; exact List.mem_filterMap.mpr ⟨X.env, List.mem_cons_self, hf⟩)
  have neF : a ∉ X.fs := fun z => noFr (by
    obtain ⟨e, he, w⟩ := List.mem_filterMap.mp z
    exact List.mem_filterMap.mpr ⟨e, List.mem_cons_of_mem _ he, w⟩)
  -- it is new
  have fresh : sI.heap.get? a = none := by
    cases z : sI.heap.get? a with
    | none => rfl
    | some o =>
      have := ground a o z (by rw [hs]; exact noFr)
      rw [fl3.2.1] at this; cases this
  have old : X.s_0.heap.get? a = none := by
    cases z : X.s_0.heap.get? a with
    | none => rfl
    | some o =>
      obtain ⟨o', e'⟩ := J.base.there a o z (by rw [hex]; exact fun w => nomatch w)
      rw [fresh] at e'; cases e'
  have apart : ∀ p ∈ X.pn ++ pins, p.1 ≠ a := fun p hp z => by
    have := (J.pin p hp).1
    rw [z, fresh] at this; cases this
  -- the clause's test
  have S3 := J3.suite g3 d3 na neL neF
  refine wpAny_handleBy_cons (codeAny_handlers_test ?_) (fun z => nomatch z)
  have ty : PySem.W.Looks (model X.prog X.w) h3 (typeOf (.ref a)) (.ref C) := fun A Q E t k w => wpAny_typeOf_ref (k _ _ g3) (by rw [z3.1]; exact w)
  refine ld_glob (X := X.suite a ((a, o3) :: (X.pn ++ pins))) S3 hg hm ((PySem.W.exm_one (M := model X.prog X.w) J3.kIn ty exm).here ?_) hdx
  refine codeAny_handlers_suite_as (HandSPX.lands_againZ fl3 fun h4 fl4 up4 => ?_)
  have J4 : Inv X pins σ1 H1 { s' with heap := h4 } := J.landed ground fl4.1 ((up1.trans up3).trans up4) os1 ag
  obtain ⟨o4, v4, g4, z4, d4⟩ := fl4.there
  refine store_ok (X := X.suite a ((a, o4) :: (X.pn ++ pins))) (v := .ref a) (J4.suite g4 d4 na neL neF) hN hi (.inl hln) rfl (fun s5 S5 => ?_) (.inr hln)
  have hlen : i < σ1.length := by rw [J.len]; exact (List.getElem?_eq_some_iff.mp hi).1
  refine wpAny_mono (suite_ret S5 hi hv hd hcd (List.getElem?_set_self hlen)) (fun f s6 z => ?_) (fun _ _ z => z.elim)
  obtain ⟨rfl, σ6, S6⟩ := z
  have p6 := S6.pin (a, o4) (List.mem_append_left _ List.mem_cons_self)
  have J6 : Inv X ((a, o4) :: pins) σ6 H1 s6 := (S6.unsuite I.ok).pins_of fun p hp => by
    rcases List.mem_cons.mp hp with e | e
    · rw [e]; exact p6
    · exact (S6.unsuite I.ok).pin p (List.mem_append_right _ e)
  refine gone_ok J6 hN hi hln fun s7 J7 => ?_
  have p7 := J7.pin (a, o4) (List.mem_append_right _ List.mem_cons_self)
  have J8 : Inv X pins (σ6.set i none) H1 s7 := J7.pins_of fun p hp => J7.pin p (List.mem_append_right _ (List.mem_cons_of_mem _ hp))
  have J9 := inv_track (o := ExV C a) J8 old na neL (fun y c e z => by
    obtain ⟨v, oc, hoc, hdc⟩ := J8.cell y c e
    rw [z, p7.1] at hoc
    cases hoc
    rw [d4] at hdc; cases hdc) apart (excV_ok p7.1 z4.1 z4.2.1 d4)
  exact ⟨.ref a, σ6.set i none, _, J9, rfl, wish a na⟩
/-- try: .. except X as e: return e -/
theorem ps_try_keep {body : List Stmt} {tb : WX → TS} (hs : X.stack = X.env :: X.outer) (hf : X.env.frame = some X.env.locals) (hex : X.ex = []) (hN : X.N.Nodup) (hi : X.N[i]? = some n) (hln : X.env.kindOf n = some .local)
    (hv : Vis X.env.scope n) (hd : (n == ("__debug__" : Str)) = false) (hcd : (n == ("__classdict__" : Str)) = false) (hg : Gl X x) (hm : X.mg x = some (.ref CS)) (hdx : (x == ("__debug__" : Str)) = false)
    (hb : ∀ (W : WX) (pn : List (Addr × Obj)) (xe : Value → Shared → Prop), L2N.Takes (X.tr pn xe) W → PassesOwn (model X.prog X.w) X.A X.env xe → PSs (X.tr pn xe) body (tb W)) :
    PS X (.Try body [.ExceptHandler (some (.Name x np)) (some n) [.Return (some (.Name n q)) rp] pos'] [] [] pos) (fun D σ H => tb (KeepW X.K (.ref CS) D) D σ H) := by
  refine ⟨fun pins s σ H D I h => wpAny_Try_except ?_⟩
  have run := (hb (KeepW X.K (.ref CS) D) (X.pn ++ pins) _ (fun u s' air => catch_keep (np := np) (q := q) (rp := rp) (pos' := pos') I hs hf hex hN hi hln hv hd hcd hg hm hdx air) PassesOwn.looking).run [] s σ H D (I.toTry _) h
  refine wpAny_mono run (fun f s1 z => ?_) (fun _ _ z => z)
  cases f with
  | next =>
    obtain ⟨σ1, H1, J, w⟩ := z
    exact wpAny_execs_nil ⟨σ1, H1, J.ofTry I.ok, w⟩
  | brk =>
    obtain ⟨σ1, H1, J, w⟩ := z
    exact ⟨σ1, H1, J.ofTry I.ok, w⟩
  | cont =>
    obtain ⟨σ1, H1, J, w⟩ := z
    exact ⟨σ1, H1, J.ofTry I.ok, w⟩
  | ret u =>
    obtain ⟨v, σ1, H1, J, r, w⟩ := z
    exact ⟨v, σ1, H1, J.ofTry I.ok, r, w⟩
end
end DL

set_option maxHeartbeats 4000000
/-! exceptions as data: met, asked for their class, walked in a list -/
namespace DL
open PySem PySem.Spec PyProof.Rows L2 LamX
def metE (K : PySem.W.Frag) (Q : VK) : XK := fun cls d H' => ∃ c : Exn, cls = .ref (He.ga K c.name) ∧ d = none ∧ ∀ a, H' a = none → Q (.ref a) (upd H' a (ExV (He.ga K c.name) a))
def TMet (K : PySem.W.Frag) : (XK → Hp → VK → Prop) → Hp → VK → Prop := fun tl H Q => tl (metE K Q) H fun _ H' => Q .non H'
theorem met_givesN {X : Cx} {Ng : List Str} {x a e n q : Str} {sg : Scope} {g CS : Addr} {cdg : Value} {k j : Nat} {p1 p2 p3 p4 p6 p7 p8 p9 p10 q2 : Pos} (hNd : Ng.Nodup) (hge : sg.names.lookup e = some .globalImplicit) (hme : X.mg e = some (.ref CS)) (hde : (e == ("__debug__" : Str)) = false) (h0 : ∀ f : Addr, (L2.start Ng [V.ref f])[0]? = some (some (V.ref f)))
    (hn : Ng[1]? = some n) (hln : sg.names.lookup n = some .local) (hdn : (n == ("__debug__" : Str)) = false) (hcn : (n == ("__classdict__" : Str)) = false)
    (hexm : ∀ c : Exn, PySem.W.exmOne X.K (.ref (He.ga X.K c.name)) (.ref CS) = some true) :
    GivesN X Ng x sg g cdg [.Try [.Expr (.Call (.Name a p1) [] [] p2) p3] [.ExceptHandler (some (.Name e p4)) (some n) [.Return (some (.Name n q2)) p6] p7] [] [] p8, .Return (some (.Constant .none j p9)) p10] a q k (TMet X.K) := by
  intro f c' s H Q tl hr act hc h
  have hgl : Gl (cxOf C8.CX0 X.prog X.w X.K X.mg X.base Ng x sg g cdg X.A X.stack s H C8.E0).nox e := hge
  refine ⟨_, pss_cons (ps_try_keep (X := (cxOf C8.CX0 X.prog X.w X.K X.mg X.base Ng x sg g cdg X.A X.stack s H C8.E0).nox) (CS := CS) (i := 1) (n := n) (q := q2) (rp := p6)
      (tb := fun W D σ H => ∃ Ech : XK, (∀ cls d σ' H', Ech cls d H' → W cls d σ' H') ∧ σ[0]? = some (some (.ref f)) ∧ H c' = some (CodeO c' q) ∧ tl Ech H fun _ H' => D.nx σ H')
      rfl rfl rfl hNd hn hln (.inl hln) hdn hcn hgl hme hde (fun W pn xe tk _ => ?_)) (pss_one (ps_ret (pos := p10) pe_non)), ?_⟩
  · refine ⟨fun pins s' σ H' D I ⟨Ech, hW, h1, h2, h3⟩ => ?_⟩
    exact (pss_one (ps_expr (pos := p3) (act W pn xe Ech p1 p2 tk hW))).run pins s' σ H' D I ⟨h1, h2, h3⟩
  · exact ⟨metE X.K Q, fun cls d σ' H' ⟨c, e1, e2, hq⟩ => ⟨_, e1, e2, by rw [e1]; exact hexm c, hq⟩, h0 f, hc, h⟩
/-- the def that meets, as it may be called -/
def TMok (P : Program) (w : World) (K : PySem.W.Frag) (mg : Str → Option Value) (base : Heap) (k : Nat) (x a q : Str) : Prop :=
  ∃ (g : Addr) (pg : Arguments) (bg : List Stmt) (sg : Scope) (dV kV doc pm cdv ct oc : Value) (an od : Option Addr) (osl : Array (Option Value)) (Ng : List Str),
    mg x = some (.ref g) ∧ PySem.W.keepIn K (.ref g) = true ∧ K.lookup g = some ⟨oc, od, .func (PySem.W.fnOf x x pg bg sg dV kV doc pm an cdv ct), osl⟩ ∧ PySem.W.codeIn K cdv x = true ∧ L2.Binds K (PySem.W.fnOf x x pg bg sg dV kV doc pm an cdv ct) [a] [] ∧ FnScope Ng [a] sg ∧ Ng[0]? = some a ∧ Vis sg a ∧
    ∀ X : Cx, X.prog = P → X.w = w → X.K = K → X.mg = mg → X.base = base → GivesN X Ng x sg g cdv bg a q (k + 1) (TMet K)
theorem mk_met {P : Program} {w : World} {K : PySem.W.Frag} {mg : Str → Option Value} {base : Heap} {k j : Nat} {x a e n q : Str} {params : Arguments} {scope : Scope} {g CS : Addr} {fd : FuncData} {p1 p2 p3 p4 p6 p7 p8 p9 p10 q2 : Pos} {Ng : List Str} {body : List Stmt}
    (F : FunD K x x params body scope [] [] g fd) (hbody : body = [.Try [.Expr (.Call (.Name a p1) [] [] p2) p3] [.ExceptHandler (some (.Name e p4)) (some n) [.Return (some (.Name n q2)) p6] p7] [] [] p8, .Return (some (.Constant .none j p9)) p10]) (gm : mg x = some (.ref g)) (S : FnScope Ng [a] scope) (b : Binds K fd [a] [])
    (h0 : Ng[0]? = some a) (hva : Vis scope a) (hge : scope.names.lookup e = some .globalImplicit) (hme : mg e = some (.ref CS)) (hde : (e == ("__debug__" : Str)) = false) (hn : Ng[1]? = some n) (hln : scope.names.lookup n = some .local) (hdn : (n == ("__debug__" : Str)) = false) (hcn : (n == ("__classdict__" : Str)) = false)
    (hexm : ∀ c : Exn, PySem.W.exmOne K (.ref (He.ga K c.name)) (.ref CS) = some true) : TMok P w K mg base k x a q := by
  obtain ⟨oc, od, dV, kV, doc, pm, an, cdv, ct, osl, rfl, lk, hcd, _, _⟩ := F.ex
  subst hbody
  refine ⟨g, _, _, scope, dV, kV, doc, pm, cdv, ct, oc, an, od, osl, Ng, gm, F.kp, lk, hcd, b, S, h0, hva, fun X e1 e2 e3 e4 e5 => ?_⟩
  subst e1 e2 e3 e4 e5
  exact met_givesN S.nd hge hme hde (fun f => by
    unfold L2.start
    have : 0 < Ng.length := (List.getElem?_eq_some_iff.mp h0).1
    simp) hn hln hdn hcn hexm
/-- the classes' addresses -/
def KA (K : PySem.W.Frag) : Exn → Addr := fun c => He.ga K c.name
def fMet (Ka : Exn → Addr) (f : F) : F := fun ev st => match f ev st with
  | .ok (.dat _) st' => .ok (.dat .none) st'
  | .exc c st' => .ok (.dat (excX (Ka c))) st'
  | _ => .stuck
section
variable {X : Cx} {T : Tb} {δ : Dl} {E : XK} {G0 H0 : Hp} {fa : F} {e : Expr} {pos : Pos}
theorem met_read {K : PySem.W.Frag} {f : F} : ∀ σ H Q, tD K T δ E (fMet (KA K) f) σ H Q → tLam T (TMet K) (fun E' => tD K T δ E' f) σ H Q := fun σ H Q ⟨lk, G, ev, st, r, h⟩ => by
  refine ⟨r.tb, fun H1 eN T1 => ?_⟩
  have f1 : Fr T δ G H G H1 := ext_fr r.sub r.nt eN T1
  have d1 : DiceAt δ G H1 st := r.di.keep (Sub.rf G) fun a o ha e => eN a o e fun ps z => by
    obtain ⟨u, hu, n⟩ := (r.di.alv ha).1
    rw [e] at hu
    exact n ps (by rw [← Option.some.inj hu]; exact z)
  have r1 := r.fr f1 d1
  refine ⟨lk, G, ev, st, r1, ?_⟩
  unfold fMet at h
  cases q : f ev st with
  | stuck => rw [q] at h; exact h.elim
  | ok sv st' =>
    rw [q] at h
    cases sv with
    | dat d => exact fun v G' H' f' d' x => h .non G' H' (f1.tr f') d' .non
    | own d => exact h.elim
    | dice => exact h.elim
    | bench => exact h.elim
    | exc _ => exact h.elim
  | exc c st' =>
    rw [q] at h
    have h : EndE K lk T δ E G H Q (.ok (.dat (excX (KA K c))) st') := h
    intro G' H' f' d'
    refine ⟨c, rfl, rfl, fun a ha => ?_⟩
    have f2 : Fr T δ G' H' (upd G' a (ExV (KA K c) a)) (upd H' a (ExV (KA K c) a)) := .new f'.gh f'.nt ha fun _ z => by cases z
    have nd : ¬ δ.has a := fun z => (d'.alv z).1.ne ha
    exact h (.ref a) _ _ ((f1.tr f').tr f2) (f2.kpD d' nd) (.exc upd_same)
theorem de_met {k k' : Nat} {x a : Str} {params : Arguments} {body : Expr} {scope : Scope} {c P : Addr} {p lpos pos : Pos} {f : F} {q : Str} (hq : X.env.qual ++ "<lambda>" = q) (TL : TMok X.prog X.w X.K X.mg X.base k x a q) (hr : Room k' X.A) (hk : k + 2 ≤ k') (hg : Gl X x) (TB : TabB X.base X.mg c P) (hcode : X.env.code = .ref c) (hmT : (P, q) ∈ T)
    (hu : ∀ p ∈ T, p.1 = P → p.2 = q) (L : lamSB X.env.scope scope = true) (hdef : defaultsOf params X.env = ([], []))
    (hbind : ∀ (q : Str) (cl : List (Str × Addr)) (pm cv ctv : Value), bindArgs (PySem.W.kla_fn "<lambda>" q params body scope cl pm cv ctv) ⟨[], []⟩ = pure [])
    (hbody : ∀ (A : Around) (outer : List Env) (s : Shared) (H : Hp) (E' : XK) (f' c' : Addr), Room k (A.deeper (lamEnv X scope s.heap.objs.size f' c')) → DE (lamN X A outer s H E' scope f' c') T δ E' body f)
    (hdb : (x == ("__debug__" : Str)) = false := by decide) (hd : (a == ("__debug__" : Str)) = false := by decide) (hcd : (a == ("__classdict__" : Str)) = false := by decide) :
    DE X T δ E (.Call (.Name x p) [.Lambda params body scope lpos] [] pos) (fMet (KA X.K) f) := by
  subst hq
  obtain ⟨g, pg, bg, sg, dV, kV, doc, pm, cdv, ct, oc, an, od, osl, Ng, h1, h2, h3, h4, h5, h6, h7, h8, h9⟩ := TL
  exact PE.imp (pe_lamN (t := fun E' => tD X.K T δ E' f) hg h1 h2 h3 h4 h5 h6 h7 h8 (h9 X rfl rfl rfl rfl rfl) TB hcode hmT hu (hr.mono hk) (lamS_by L) hdef hbind hbody hdb hd hcd) met_read
/-! ### isinstance of such a datum -/
def rIsX (K : PySem.W.Frag) : List V → Hp → VK → Prop := fun xs H Q => ∃ (a C : Addr) (c : V) (cv : Value) (b : Bool), xs = [.ref a, c] ∧ H a = some (ExV C a) ∧ ExcC K C ∧ (∀ u, RelV c u → u = cv) ∧ PySem.W.kitOne K (.ref C) cv = some b ∧ Q (.bl b) H
theorem call_isX : CallR X (.builtin "isinstance") (rIsX X.K) := by
  intro pins s σ H xs us Q I r h
  obtain ⟨a, C, cV, cv, b, rfl, ha, c, hcv, e, q⟩ := h
  obtain ⟨u, w, rfl, ru, rw_⟩ := r.two
  cases ru
  have ec := hcv _ rw_
  subst ec
  obtain ⟨⟨oe, vs, g, h1, h2, h3⟩, _, _⟩ := I.hok a _ ha
  have J : PySem.W.InstAt s.heap a oe C none := by
    obtain ⟨oc, od, oda, osl⟩ := oe
    dsimp only at h1 h2 h3
    subst h1 h2 h3
    exact ⟨g, rfl, rfl, trivial⟩
  exact PySem.W.kia_one (PySem.W.handS_kitx_exc c.hg c.hk c.hs c.hd c.ha c.hn c.ht c.hm) I.kIn J e (fun z => nomatch z) fun tk => ⟨.bl b, H, I.kept (t' := tk) fun _ _ z => z, rfl, q⟩
/-- the exception whose class stands at z -/
def exnAt (Ka : Exn → Addr) (z : Int) : Option Exn := exns.find? fun c => decide (((Ka c : Nat) : Int) = z)
theorem exnAt_some {Ka : Exn → Addr} {z : Int} {c : Exn} (h : exnAt Ka z = some c) : ((Ka c : Nat) : Int) = z := by
  have := List.find?_some h
  exact of_decide_eq_true this
def fIsX (Ka : Exn → Addr) (c : Exn) (fa : F) : F := fun ev st => (fa ev st).bind fun sv st1 => match sv with
  | .dat (.dict [(.none, .int z)]) => (match exnAt Ka z with
    | some c' => .ok (.dat (.bool (decide (c' = c)))) st1
    | none => .stuck)
  | _ => .stuck
def fIsXV (Ka : Exn → Addr) (fa : F) : F := fun ev st => (fa ev st).bind fun sv st1 => match sv with
  | .dat (.dict [(.none, .int z)]) => (match exnAt Ka z with
    | some _ => .ok (.dat (.bool true)) st1
    | none => .stuck)
  | _ => .stuck
theorem Rp.excV {G : Hp} {v : V} {z : Int} (h : Rp G v (.dict [(.none, .int z)])) : ∃ a C : Addr, v = .ref a ∧ z = (C : Nat) ∧ G a = some (ExV C a) := by
  generalize hd : (PyData.dict [(.none, .int z)]) = d at h
  cases h with
  | exc h => cases hd; exact ⟨_, _, rfl, rfl, h⟩
  | dct h r =>
    injection hd with hd
    rw [← hd] at r
    generalize hk : ([(PyData.none, PyData.int z)] : List (D × D)) = kk at r
    cases r with
    | nil => cases hk
    | cons _ _ => cases hk
  | dcn h n r =>
    injection hd with hd
    rw [← hd] at r
    generalize hk : ([(PyData.none, PyData.int z)] : List (D × D)) = kk at r
    cases r with
    | nil => cases hk
    | cons _ _ _ => cases hk
  | _ => cases hd
theorem de_isX {c : Exn} {y : Str} {p1 p3 pos : Pos} (tab : ExTab X.K) (hg : Gl X "isinstance") (hm : X.mg "isinstance" = none) (hg2 : Gl X y) (hm2 : X.mg y = some (.ref (He.ga X.K c.name))) (ha : DE X T δ E e fa) (hd2 : (y == ("__debug__" : Str)) = false := by decide)
    (he : starEach (e :: [.Name y p3]) X.env = (false, eval e X.env) :: starEach [.Name y p3] X.env := by rfl) (he2 : starEach [.Name y p3] X.env = (false, eval (.Name y p3) X.env) :: starEach [] X.env := by rfl) (hpl : (backTo pos (starEach [.Name y p3] X.env)).any (·.1) = false := by rfl) :
    DE X T δ E (.Call (.Name "isinstance" p1) [e, .Name y p3] [] pos) (fIsX (KA X.K) c fa) :=
  PE.imp (pe_callB call_isX hg hm (by decide +kernel) (pa_cons ha (pa_cons (pe_glob (v := .ref (He.ga X.K c.name)) hg2 hm2 rfl hd2) pa_nil he2) he) (by decide) (by decide) he hpl) fun σ H Q ⟨lk, G, ev, st, r, h⟩ =>
    goE (e := fun G H r => EndE X.K lk T δ E G H Q r) r h fun sa st1 v G1 H1 e1 f1 r1 x1 h1 => by
      split at h1
      · rename_i z
        split at h1
        · rename_i c' ec
          obtain ⟨a, C, rfl, ez, hG⟩ := Rp.excV x1
          have eC : C = He.ga X.K c'.name := by
            have := exnAt_some ec
            rw [ez] at this
            exact (Int.ofNat.inj this).symm
          refine ⟨a, C, _, .ref (He.ga X.K c.name), decide (c' = c), rfl, r1.sub _ _ hG, by rw [eC]; exact tab.C c', fun u w => w, by rw [eC]; exact tab.T c' c, EndE.here r1 h1 (.bl _)⟩
        · exact h1.elim
      · exact h1.elim
theorem de_isXV {y : Str} {p1 p3 pos : Pos} (tab : ExTab X.K) (hg : Gl X "isinstance") (hm : X.mg "isinstance" = none) (hg2 : Gl X y) (hm2 : X.mg y = none) (hv2 : bootBuiltins y = some (.type "ValueError")) (ha : DE X T δ E e fa) (hn2 : y ≠ "__name__" := by decide) (hd2 : (y == ("__debug__" : Str)) = false := by decide)
    (he : starEach (e :: [.Name y p3]) X.env = (false, eval e X.env) :: starEach [.Name y p3] X.env := by rfl) (he2 : starEach [.Name y p3] X.env = (false, eval (.Name y p3) X.env) :: starEach [] X.env := by rfl) (hpl : (backTo pos (starEach [.Name y p3] X.env)).any (·.1) = false := by rfl) :
    DE X T δ E (.Call (.Name "isinstance" p1) [e, .Name y p3] [] pos) (fIsXV (KA X.K) fa) :=
  PE.imp (pe_callB call_isX hg hm (by decide +kernel) (pa_cons ha (pa_cons (pe_bltn (v := .ty "ValueError") hg2 hm2 hv2 rfl hn2 hd2) pa_nil he2) he) (by decide) (by decide) he hpl) fun σ H Q ⟨lk, G, ev, st, r, h⟩ =>
    goE (e := fun G H r => EndE X.K lk T δ E G H Q r) r h fun sa st1 v G1 H1 e1 f1 r1 x1 h1 => by
      split at h1
      · rename_i z
        split at h1
        · rename_i c' ec
          obtain ⟨a, C, rfl, ez, hG⟩ := Rp.excV x1
          have eC : C = He.ga X.K c'.name := by
            have := exnAt_some ec
            rw [ez] at this
            exact (Int.ofNat.inj this).symm
          exact ⟨a, C, _, .type "ValueError", true, rfl, r1.sub _ _ hG, by rw [eC]; exact tab.C c', fun u w => w, by rw [eC]; exact tab.V c', EndE.here r1 h1 (.bl _)⟩
        · exact h1.elim
      · exact h1.elim
/-! ### an own list seen as data from here on -/
def fFrz (i : Nat) (f : FS) : FS := fun ev st => match ev[i]? with
  | some (some (.own (.list ds))) => f (ev.set i (some (.dat (.list ds)))) st
  | _ => .stuck
theorem RelS.frz {G H : Hp} {σ : L2.St} {ev : Ev} {st : DSt} (r : RelS T δ G0 H0 G H σ ev st) {i : Nat} {ds : List D} (e : ev[i]? = some (some (.own (.list ds)))) : ∃ G', Sub G G' ∧ RelS T δ G0 H0 G' H σ (ev.set i (some (.dat (.list ds)))) st := by
  obtain ⟨v, e1, a, rfl, g, nd, vs, h1, h2⟩ := r.sl i _ e
  have h0 := r.fo i _ a e e1
  have up : Sub G (upd G a (.lst vs)) := sub_upd g
  have fr := r.fr.frz h0 g h1 (fun _ z => by cases z)
  have key : ∀ (j : Nat) (sv : SV), (ev.set i (some (.dat (.list ds))))[j]? = some (some sv) → (i = j ∧ sv = .dat (.list ds)) ∨ (i ≠ j ∧ ev[j]? = some (some sv)) := fun j sv w => by
    by_cases hj : i = j
    · subst hj
      rw [List.getElem?_set_self (List.getElem?_eq_some_iff.mp e).1] at w
      cases w
      exact .inl ⟨rfl, rfl⟩
    · rw [List.getElem?_set_ne hj] at w
      exact .inr ⟨hj, w⟩
  refine ⟨upd G a (.lst vs), up, ⟨⟨⟨fr.gh, fr.nt, fun b hb => ?_, r.di.gup up, r.tb⟩, by rw [List.length_set]; exact r.len, fun j sv w => ?_, fun j l d d' b w1 w2 w3 w4 => ?_⟩, fr, fun j d b w1 w2 => ?_⟩⟩
  · rw [upd_ne (fun z => nd (by rw [← z]; exact hb))]
    exact r.dg b hb
  · rcases key j sv w with ⟨rfl, rfl⟩ | ⟨hj, w⟩
    · exact ⟨_, e1, .lst upd_same (h2.mono up)⟩
    · obtain ⟨v, w1, w2⟩ := r.sl j sv w
      refine ⟨v, w1, ?_⟩
      cases sv with
      | dat d => exact Rp.mono up w2
      | own d =>
        obtain ⟨b, rfl, g2, nd2, ok⟩ := w2
        have hba : b ≠ a := fun z => hj (r.ds i j _ d a e w e1 (by rw [← z]; exact w1))
        refine ⟨b, rfl, by rw [upd_ne hba]; exact g2, nd2, ?_⟩
        cases d with
        | list es => obtain ⟨ws, k1, k2⟩ := ok; exact ⟨ws, k1, k2.mono up⟩
        | dict es => obtain ⟨u, k1, k2⟩ := ok; exact ⟨u, k1, k2.mono up⟩
        | _ => exact ok.elim
      | dice => exact w2
      | bench => exact w2
      | exc _ => exact w2
  · rcases key j _ w1 with ⟨_, z⟩ | ⟨_, w1⟩
    · cases z
    · rcases key l _ w2 with ⟨_, z⟩ | ⟨_, w2⟩
      · cases z
      · exact r.ds j l d d' b w1 w2 w3 w4
  · rcases key j _ w1 with ⟨_, z⟩ | ⟨_, w1⟩
    · cases z
    · exact r.fo j d b w1 w2
theorem ds_frz (i : Nat) {s : Stmt} {f : FS} (h : DS X T δ E G0 H0 s f) : DS X T δ E G0 H0 s (fFrz i f) :=
  PS.imp h fun D' σ H ⟨G, ev, st, r, q⟩ => by
    unfold fFrz at q
    split at q
    · rename_i ds e
      obtain ⟨G', up, r'⟩ := r.frz e
      exact ⟨G', _, st, r', EndS.sub up q⟩
    · exact q.elim
/-! ### enumerate of a list -/
theorem walk_eL {K : PySem.W.Frag} {G : Hp} {a : Addr} {vs : List V} {ds : List D} (h : G a = some (.lst vs)) (ra : RpA G vs ds) : WalkD T (Ite K a) G [] (enumD ds) where
  stop := fun G1 H1 s1 s2 _ => ⟨vs, SqL.of (s2 _ _ (s1 _ _ h)), by rw [ra.length]; unfold enumD; simp⟩
  go := fun i G1 H1 d e s1 s2 nt _ => by
    obtain ⟨x, e0, rfl⟩ := enumD_get e
    obtain ⟨v, e1, e2⟩ := ra.get e0
    have hs : SqL K H1 a vs := SqL.of (s2 _ _ (s1 _ _ h))
    refine ⟨⟨vs, v, hs, e1⟩, fun y H' ⟨q, z, ey, hq, eH, hx⟩ => ?_⟩
    subst ey eH
    have e3 := hx vs hs
    rw [e1] at e3
    cases e3
    have f : Fr T .nil G1 H1 (upd G1 q (.tup [.int (i : Nat), v])) (upd H1 q (.tup [.int (i : Nat), v])) := .new s2 nt hq (fun _ z => by cases z)
    exact ⟨_, f, .tup upd_same (.cons (.int _) (.cons ((e2.mono s1).mono f.gg) .nil))⟩
def fiEL (fs : Fs) : Fi := fun ev st => (fs ev st).bind fun svs st1 => match svs with
  | [.dat (.list ds)] => .ok (enumD ds) st1
  | _ => .stuck
theorem di_eL {a : Expr} {fs : Fs} {p pos tpos : Pos} {elts : List Expr} {kk : Nat} (hg : Gl X "enumerate") (hm : X.mg "enumerate" = none) (ha : DA X T δ E [a] fs) (hs : starEach [a] X.env = [(false, eval a X.env)] := by rfl) : DI X T δ E (.Tuple elts kk tpos) (.Call (.Name "enumerate" p) [a] [] pos) (fiEL fs) :=
  PI.imp (pi_enum hg hm ha hs) fun σ H R ⟨lk, G, ev, st, r, h⟩ => goA (e := fun G H r => EndI X.K T δ E G H R r) r h fun svs st1 vs G1 H1 e1 f1 r1 x1 h1 => by
    split at h1
    · cases x1 with
      | cons h x =>
        cases x
        cases h with
        | lst hp ra => exact ⟨_, _, rfl, SqL.of (r1.sub _ _ hp), h1 _ G1 H1 (.rf r1.sub r1.nt) r1.di (walk_eL hp ra)⟩
    · exact h1.elim
end
end DL

set_option maxHeartbeats 4000000
/-! the law's outer loop, no bench in its rounds -/
namespace DL
open PySem PySem.Spec PyProof.Rows L2
def tbN (K : PySem.W.Frag) (T : Tb) (f : FS) : TS := fun D' σ H => ∃ δ G0 H0, δ.bc = none ∧ tS K T δ noE G0 H0 f D' σ H
theorem pss_tbN {X : Cx} {T : Tb} {f : FS} {ss : List Stmt} (h : ∀ δ G0 H0, δ.bc = none → DSs X T δ noE G0 H0 ss f) : PSs X ss (tbN X.K T f) := ⟨fun pins s σ H D' I ⟨δ, G0, H0, bo, t⟩ => (h δ G0 H0 bo).run pins s σ H D' I t⟩
def t_lawN (K : PySem.W.Frag) (T : Tb) (most : Int) (f : FS) : TS := tSeq (tFor (iList K (tCall (spRounds K T) [] noE (tCons (tVar 0) (tCons (tC (.int most)) tNil)))) (gName 1) (tbN K T f)) (tRet (tC (.bl true)))
theorem law_okN {K : PySem.W.Frag} {T : Tb} {most : Int} {f : FS} {N : List Str} (h0 : 1 ≤ most) (h1 : most ≤ 1000) (hN : 2 ≤ N.length)
    (good : ∀ c : Int, ∃ ev' st', f (evL N.length) ⟨c, 0, []⟩ = .ok (.nx ev') st' ∧ ev'.length = N.length) (vs : List V) (H : Hp) (Q : VK) (E : XK) (h : spLaw K T vs H Q E) : t_lawN K T most f { nx := fun _ H' => Q .non H', rt := Q } (start N vs) H := by
  obtain ⟨a, ns, rfl, hs, hl, tb, q⟩ := h
  have hlen : (start N [V.ref a]).length = N.length := by
    unfold L2.start
    simp
    omega
  have h00 : (start N [V.ref a])[0]? = some (some (.ref a)) := by unfold L2.start; rfl
  refine ⟨_, h00, a, ns, most, rfl, hs, hl, h0, h1, fun r G' H' as f1 hr hna hra hda => ⟨r, rfl, ⟨_, SqL.of hr⟩, ?_⟩⟩
  refine ⟨fun i m σ Hc => m = as.length - i ∧ i ≤ as.length ∧ σ.length = N.length ∧ Hc r = some (.lst (as.map V.ref)) ∧ LamX.Tabs T Hc ∧ ∀ j d, i ≤ j → as[j]? = some d → DiceL Hc d,
    ⟨as.length, by simp, Nat.zero_le _, hlen, hr, f1.tb tb, fun j d _ e => hda d (List.mem_of_getElem? e)⟩, ?_⟩
  rintro i m σ Hc ⟨rfl, hi, hσ, hrc, tbc, hdc⟩
  by_cases hlt : i < as.length
  · have e0 : as[i]? = some as[i] := List.getElem?_eq_getElem hlt
    refine .inr ⟨⟨_, .ref as[i], SqL.of hrc, by rw [List.getElem?_map, e0]; rfl⟩, fun σ' Hn => i + 1 ≤ as.length ∧ σ'.length = N.length ∧ Hn r = some (.lst (as.map V.ref)) ∧ LamX.Tabs T Hn ∧ ∀ j d, i + 1 ≤ j → as[j]? = some d → DiceL Hn d,
      fun σ' Hn z => ⟨as.length - (i + 1), by omega, rfl, z.1, z.2⟩, fun x Hx ⟨ex, ey⟩ => ?_⟩
    subst ex
    have hx : x = .ref as[i] := by
      have := ey _ (SqL.of hrc)
      rw [List.getElem?_map, e0] at this
      exact (Option.some.inj this).symm
    subst hx
    generalize hd : as[i] = d at e0
    obtain ⟨c, hc⟩ := hdc i d (Nat.le_refl _) e0
    obtain ⟨ev', st', ef, el⟩ := good c
    refine ⟨Dl.mk (some d) none 0, hp0, Hx, rfl, hp0, evL N.length, ⟨c, 0, []⟩, ?_, ?_⟩
    · have own_no : ∀ {j : Nat} {dd : D}, (evL N.length)[j]? = some (some (.own dd)) → False := fun {j dd} e => by
        unfold evL at e
        rw [List.getElem?_set] at e
        split at e
        · split at e <;> cases e
        · rw [List.getElem?_replicate] at e
          split at e <;> cases e
      refine ⟨⟨⟨sub0 _, nt0, fun _ _ => rfl, ⟨fun b e => by cases e; exact hc, fun b e => by cases e⟩, tbc⟩, ?_, fun j sv e => ?_, fun j k dd e b h1 _ _ _ => (own_no h1).elim⟩, .rf (sub0 _) nt0, fun j dd b e _ => (own_no e).elim⟩
      · unfold evL; simp [hσ]
      · unfold evL at e
        rw [List.getElem?_set] at e
        split at e
        · rename_i e1
          subst e1
          split at e
          · cases e
            exact ⟨.ref d, by rw [List.getElem?_set]; simp; omega, d, rfl, rfl⟩
          · cases e
        · rw [List.getElem?_replicate] at e
          split at e <;> cases e
    · rw [ef]
      intro σ' G2 H2 rr _
      refine ⟨hlt, by rw [← rr.len, el], ?_, rr.tb, fun j d' hj e => ?_⟩
      · refine rr.fr.kp _ _ hrc (fun z => ?_) fun _ z => by cases z
        have z : some d = some r := z.resolve_right nofun
        cases z
        exact hra (List.mem_of_getElem? e0)
      · obtain ⟨c', hc'⟩ := hdc j d' (by omega) e
        refine ⟨c', rr.fr.kp _ _ hc' (fun z => ?_) fun _ z => by cases z⟩
        have z : some d = some d' := z.resolve_right nofun
        cases z
        have := (List.getElem?_inj hlt hna).mp (e0.trans e.symm)
        omega
  · have : i = as.length := by omega
    subst this
    exact .inl ⟨⟨_, SqL.of hrc, by rw [List.length_map]; exact Nat.le_refl _⟩, q Hc⟩
end DL
namespace DL
theorem exTab_inj {K : PySem.W.Frag} (tab : ExTab K) : ∀ c c' : Exn, KA K c = KA K c' → c = c' := fun c c' e => by
  have h1 := tab.T c c'
  have h2 := tab.T c c
  have e' : He.ga K c.name = He.ga K c'.name := e
  rw [← e', h2] at h1
  have h3 := Option.some.inj h1
  rw [decide_eq_true rfl] at h3
  exact of_decide_eq_true h3.symm
end DL

set_option maxHeartbeats 4000000
/-! printed by mk.py -/
namespace DL
open PySem PySem.Spec PyProof.Rows L2
def fs__law_alone (Ka : Exn → Addr) : FS :=
  (fSeq (fSet 2 (fLst (fK (fIsX Ka .InvalidPart (fVar 0)) (fK (fIsX Ka .InvalidStore (fVar 0)) (fK (fIsX Ka .InvalidState (fVar 0)) fN)))))
  (fSeq (fSet 2 (fOp2 gAdd (fVar 2) (fLst (fK (fIsX Ka .InvalidIndex (fVar 0)) (fK (fIsX Ka .InvalidRule (fVar 0)) (fK (fIsX Ka .InvalidTicks (fVar 0)) fN))))))
  (fSeq (fSet 2 (fOp2 gAdd (fVar 2) (fLst (fK (fIsX Ka .InvalidDemand (fVar 0)) (fK (fIsX Ka .InvalidText (fVar 0)) (fK (fIsX Ka .Worn (fVar 0)) fN))))))
  (fSeq (fSet 2 (fOp2 gAdd (fVar 2) (fLst (fK (fIsX Ka .ForEver (fVar 0)) (fK (fIsX Ka .Ends (fVar 0)) (fK (fIsX Ka .TooMany (fVar 0)) fN))))))
  (fSeq (fSet 2 (fOp2 gAdd (fVar 2) (fLst (fK (fIsX Ka .NothingToUndo (fVar 0)) fN))))
  (fRet (fAnd (fIsXV Ka (fVar 0)) (fOp2 gEq (fVar 2) (fLc (fiR (fK (fC (.int 13)) fN)) (gN 3) none (fOp2 gEq (fVar 3) (fVar 1)) [3])))))))))
def g__law_alone (Ka : Exn → Addr) : Fn := runF 4 (fs__law_alone Ka)
end DL

set_option maxHeartbeats 4000000
/-! the law's own defs: rolls, parts, stores, states -/
namespace DL
open PySem PySem.Spec PyProof.Rows L2
@[simp] theorem gAdd_int (i j : Int) : gAdd (.int i) (.int j) = some (.int (i + j)) := rfl
@[simp] theorem gSub_int (i j : Int) : gSub (.int i) (.int j) = some (.int (i - j)) := rfl
theorem lt1000 {n : Nat} (h : n < 2 ^ 200) : n < 2 ^ 1000 := Nat.lt_of_lt_of_le h (Nat.pow_le_pow_right (by decide) (by decide))
theorem mulOk_r {i j : Int} (h : j.natAbs < 2 ^ 64) : mulOk i j = true := by
  unfold mulOk
  rw [Bool.or_eq_true, Bool.or_eq_true]
  exact .inl (.inr (decide_eq_true h))
theorem mulOk_2 {i j : Int} (h : i.natAbs < 2 ^ 200) (h2 : j.natAbs < 2 ^ 200) : mulOk i j = true := by
  unfold mulOk
  rw [Bool.or_eq_true, Bool.and_eq_true]
  exact .inr ⟨decide_eq_true (lt1000 h), decide_eq_true (lt1000 h2)⟩
theorem gMul_int {i j : Int} (h : mulOk i j = true) : gMul (.int i) (.int j) = some (.int (i * j)) := if_pos h
theorem gMod_int {i j : Int} (h : 0 < j) : gMod (.int i) (.int j) = some (.int (i % j)) := if_pos h
theorem gFdiv_int {i j : Int} (h : 0 < j) (h2 : j.natAbs < 2 ^ 200) : gFdiv (.int i) (.int j) = some (.int (i / j)) := if_pos ⟨h, lt1000 h2⟩
theorem drawn_eq (c n : Int) (st : DSt) : ∃ z : Int, g__law_drawn [.dat (.int c), .dat (.int n)] st = .ok (.int z) st := by
  obtain ⟨x, hx⟩ : ∃ x : Int, x = (c * 6364136223846793005 + (n + 1) * 1442695040888963407) % 340282366920938463463374607431768211507 := ⟨_, rfl⟩
  have x0 : 0 ≤ x := by rw [hx]; exact Int.emod_nonneg _ (by decide)
  have x1 : x < 340282366920938463463374607431768211507 := by rw [hx]; exact Int.emod_lt_of_pos _ (by decide)
  obtain ⟨y, hy⟩ : ∃ y : Int, y = (x * x) % 340282366920938463463374607431768211297 := ⟨_, rfl⟩
  have y0 : 0 ≤ y := by rw [hy]; exact Int.emod_nonneg _ (by decide)
  have y1 : y < 340282366920938463463374607431768211297 := by rw [hy]; exact Int.emod_lt_of_pos _ (by decide)
  obtain ⟨a, ha⟩ : ∃ a : Int, a = y % 18446744073709551557 + 1 := ⟨_, rfl⟩
  obtain ⟨b, hb⟩ : ∃ b : Int, b = y / 18446744073709551557 + 1 := ⟨_, rfl⟩
  have a0 : 0 ≤ y % 18446744073709551557 := Int.emod_nonneg _ (by decide)
  have a1 : y % 18446744073709551557 < 18446744073709551557 := Int.emod_lt_of_pos _ (by decide)
  have b0 : 0 ≤ y / 18446744073709551557 := Int.ediv_nonneg y0 (by decide)
  have b1 : y / 18446744073709551557 < 36893488147419103232 := by
    rw [Int.ediv_lt_iff_lt_mul (by decide)]; omega
  have ab0 : 0 ≤ a * b := Int.mul_nonneg (by omega) (by omega)
  have ab1 : a * b ≤ 18446744073709551557 * 36893488147419103232 := Int.mul_le_mul (by omega) (by omega) (by omega) (by decide)
  have p200 : (2 : Nat) ^ 200 = 1606938044258990275541962092341162602522202993782792835301376 := by decide
  have p64 : (2 : Nat) ^ 64 = 18446744073709551616 := by decide
  have m1 : mulOk c 6364136223846793005 = true := mulOk_r (by decide)
  have m2 : mulOk (n + 1) 1442695040888963407 = true := mulOk_r (by decide)
  have m3 : mulOk x x = true := mulOk_2 (by rw [p200]; omega) (by rw [p200]; omega)
  have m4 : mulOk (y % 18446744073709551557 + 1) (y / 18446744073709551557 + 1) = true := mulOk_2 (by rw [p200]; omega) (by rw [p200]; omega)
  have m5 : mulOk ((y % 18446744073709551557 + 1) * (y / 18446744073709551557 + 1)) y = true := by
    rw [← ha, ← hb]
    refine mulOk_2 ?_ (by rw [p200]; omega)
    rw [p200]
    omega
  have p1 : gMod (.int (c * 6364136223846793005 + (n + 1) * 1442695040888963407)) (.int 340282366920938463463374607431768211507) = some (.int x) := by rw [gMod_int (by decide), ← hx]
  have p2 : gMod (.int (x * x)) (.int 340282366920938463463374607431768211297) = some (.int y) := by rw [gMod_int (by decide), ← hy]
  have p3 := gMod_int (i := y) (j := 18446744073709551557) (by decide)
  have p4 := gFdiv_int (i := y) (j := 18446744073709551557) (by decide) (by decide)
  have p5 := fun i : Int => gMod_int (i := i) (j := 340282366920938463463374607431768211507) (by decide)
  refine ⟨(y % 18446744073709551557 + 1) * (y / 18446744073709551557 + 1) * y % 340282366920938463463374607431768211507, ?_⟩
  simp [g__law_drawn, fs__law_drawn, runF, ev0, fSeq, fSet, fOp2, fVar, fC, of2, gMul_int m1, gMul_int m2, p1, gMul_int m3, p2, p3, p4, gMul_int m4, gMul_int m5, p5, fRet]
theorem roll_eq {m : Int} (h0 : 1 ≤ m) (h1 : m ≤ 1000000) (st : DSt) : ∃ (r : Int) (st' : DSt), g__law_roll [.dice, .dat (.int m)] st = .ok (.int r) st' ∧ 0 ≤ r ∧ r < m := by
  have p200 : (2 : Nat) ^ 200 = 1606938044258990275541962092341162602522202993782792835301376 := by decide
  have q1 := fun i : Int => gMod_int (i := i) (j := m) (by omega)
  have q2 := fun i : Int => gFdiv_int (i := i) (j := m) (by omega) (by rw [p200]; omega)
  have q3 := fun i : Int => gFdiv_int (i := i) (j := 8) (by decide) (by decide)
  have q4 : gPow (.int 10) (.int 18) = some (.int 1000000000000000000) := by kernel_rfl
  by_cases hc : (1000000000000000000 : Int) ≤ st.c
  · refine ⟨st.c % m, { st with c := st.c / m }, ?_, Int.emod_nonneg _ (by omega), Int.emod_lt_of_pos _ (by omega)⟩
    simp [g__law_roll, fs__law_roll, runF, ev0, fSeq, fIfS, fOp2, fDiceAt, fC, of2, q4, gOrd, hc, fSet, fVar, q1, fDiceSet, q2, fRet]
  · obtain ⟨z, hz⟩ := drawn_eq st.c (st.n + 1) { st with n := st.n + 1 }
    refine ⟨z / 8 % m, { st with n := st.n + 1 }, ?_, Int.emod_nonneg _ (by omega), Int.emod_lt_of_pos _ (by omega)⟩
    simp [g__law_roll, fs__law_roll, runF, ev0, fSeq, fIfS, fOp2, fDiceAt, fC, of2, q4, gOrd, hc, fNil, fVar, q1, fDiceSet, q3, fRet, fCall, fK, fN, SV.argOk, hz]
end DL

set_option maxHeartbeats 4000000
namespace SW
open PySem PySem.Spec PyProof.Rows L2 DL
def fs_law (Ka : Exn → Addr) : FS :=
  (fSeq (fPar [2, 3, 4] (fNK (fOp2 gAdd (fC (.int 101)) (fCall g__law_roll (fK (fVar 1) (fK (fC (.int 90)) fN)))) (fNK (fTup (fK (fTup (fK (fC (.int 1)) (fK (fC (.int 1)) (fK (fC (.int 0)) fN)))) fN)) (fNK (fOp2 gMul (fTup (fK (fTup (fK (fC (.int 1)) (fK (fC (.int 1)) (fK (fC (.int 1)) fN)))) fN)) (fC (.int 2))) fNN))))
  (fSeq (fNewL 5 (fK (fMet Ka (fCall g_with_part (fK (fVar 3) (fK (fTup (fK (fVar 2) (fK (fC (.int 1)) (fK (fC (.int 0)) fN)))) fN)))) fN))
  (fSeq (fApp 5 (fMet Ka (fCall g_new (fK (fTup (fK (fTup (fK (fVar 2) (fK (fC (.int 1)) (fK (fC (.int 0)) fN)))) fN)) fN))))
  (fSeq (fApp 5 (fMet Ka (fCall g_usable (fK (fVar 3) (fK (fTup (fK (fVar 2) fN)) fN)))))
  (fSeq (fApp 5 (fMet Ka (fCall g_used (fK (fVar 3) (fK (fTup (fK (fC (.int 0)) fN)) (fK (fVar 2) fN))))))
  (fSeq (fApp 5 (fMet Ka (fCall g_choice (fK (fVar 3) (fK (fTup (fK (fC (.int 0)) fN)) (fK (fCB gStr (fK (fVar 2) fN)) fN))))))
  (fSeq (fApp 5 (fMet Ka (fCall g_run (fK (fVar 3) (fK (fTup (fK (fC (.int 0)) fN)) (fK (fC (.str "first")) (fK (fVar 2) fN)))))))
  (fSeq (fApp 5 (fMet Ka (fCall g_lasts_with (fK (fVar 3) (fK (fTup (fK (fC (.int 0)) fN)) (fK (fTup (fK (fVar 2) fN)) fN))))))
  (fSeq (fApp 5 (fMet Ka (fCall g_parse_store (fK (fCB gStr (fK (fVar 2) fN)) fN))))
  (fSeq (fApp 5 (fMet Ka (fCall g_used (fK (fVar 3) (fK (fTup (fK (fC (.int 1)) fN)) (fK (fC (.int 0)) fN))))))
  (fSeq (fApp 5 (fMet Ka (fCall g_longest (fK (fVar 4) (fK (fTup (fK (fC (.int 0)) (fK (fC (.int 0)) fN))) fN)))))
  (fSeq (fApp 5 (fMet Ka (fCall g_course (fK (fVar 3) (fK (fTup (fK (fC (.int 0)) fN)) fN)))))
  (fSeq (fApp 5 (fMet Ka (fCall g_with_part (fK (fOp2 gMul (fVar 3) (fC (.int 4))) (fK (fTup (fK (fC (.int 1)) (fK (fC (.int 1)) (fK (fC (.int 0)) fN)))) fN)))))
  (fSeq (fApp 5 (fMet Ka (fMkM g_Bench___init__ g_Bench_redo "redo" (fK (fVar 3) fN))))
  (fFrz 5 (fIfS (fNot (fCB gAll (fK (fLc (fiEL (fK (fVar 5) fN)) (gTp 2 (gCs (gN 6) (gCs (gN 7) gNs))) none (fCall (g__law_alone Ka) (fK (fVar 7) (fK (fVar 6) fN))) [6, 7]) fN))) (fRet (fC (.bool false))) fNil))))))))))))))))
def nLaw : Nat := 8
/-! ### each call raises its own -/
def oneD : D := .tuple [.tuple [.int 1, .int 1, .int 0]]
def safeD : D := .tuple [.tuple [.int 1, .int 1, .int 1], .tuple [.int 1, .int 1, .int 1]]
def evM (m : Int) (x5 : Option SV) : Ev := [none, some .dice, some (.dat (.int m)), some (.dat oneD), some (.dat safeD), x5, none, none]
def isExc (c : Exn) : Rs SV → Bool
  | .exc c' _ => decide (c' = c)
  | _ => false
theorem isExc_ex {c : Exn} {r : Rs SV} (h : isExc c r = true) : ∃ st', r = .exc c st' := by
  unfold isExc at h
  split at h
  · exact ⟨_, by rw [of_decide_eq_true h]⟩
  · cases h
theorem upTo {p : Nat → Bool} {N : Nat} (h : (List.range N).all p = true) {n : Nat} (hn : n < N) : p n = true := List.all_eq_true.mp h n (List.mem_range.mpr hn)
abbrev f0 : F := (fCall g_with_part (fK (fVar 3) (fK (fTup (fK (fVar 2) (fK (fC (.int 1)) (fK (fC (.int 0)) fN)))) fN)))
theorem r0 (x5 : Option SV) (st : DSt) : ((List.range 90).all fun n => isExc .InvalidPart (f0 (evM (101 + (n : Nat)) x5) st)) = true := by kernel_rfl
abbrev f1 : F := (fCall g_new (fK (fTup (fK (fTup (fK (fVar 2) (fK (fC (.int 1)) (fK (fC (.int 0)) fN)))) fN)) fN))
theorem r1 (x5 : Option SV) (st : DSt) : ((List.range 90).all fun n => isExc .InvalidStore (f1 (evM (101 + (n : Nat)) x5) st)) = true := by kernel_rfl
abbrev f2 : F := (fCall g_usable (fK (fVar 3) (fK (fTup (fK (fVar 2) fN)) fN)))
theorem r2 (x5 : Option SV) (st : DSt) : ((List.range 90).all fun n => isExc .InvalidState (f2 (evM (101 + (n : Nat)) x5) st)) = true := by kernel_rfl
abbrev f3 : F := (fCall g_used (fK (fVar 3) (fK (fTup (fK (fC (.int 0)) fN)) (fK (fVar 2) fN))))
theorem r3 (x5 : Option SV) (st : DSt) : ((List.range 90).all fun n => isExc .InvalidIndex (f3 (evM (101 + (n : Nat)) x5) st)) = true := by kernel_rfl
abbrev f4 : F := (fCall g_choice (fK (fVar 3) (fK (fTup (fK (fC (.int 0)) fN)) (fK (fCB gStr (fK (fVar 2) fN)) fN))))
theorem r4 (x5 : Option SV) (st : DSt) : ((List.range 90).all fun n => isExc .InvalidRule (f4 (evM (101 + (n : Nat)) x5) st)) = true := by kernel_rfl
abbrev f5 : F := (fCall g_run (fK (fVar 3) (fK (fTup (fK (fC (.int 0)) fN)) (fK (fC (.str "first")) (fK (fVar 2) fN)))))
theorem r5 (x5 : Option SV) (st : DSt) : ((List.range 90).all fun n => isExc .InvalidTicks (f5 (evM (101 + (n : Nat)) x5) st)) = true := by kernel_rfl
abbrev f6 : F := (fCall g_lasts_with (fK (fVar 3) (fK (fTup (fK (fC (.int 0)) fN)) (fK (fTup (fK (fVar 2) fN)) fN))))
theorem r6 (x5 : Option SV) (st : DSt) : ((List.range 90).all fun n => isExc .InvalidDemand (f6 (evM (101 + (n : Nat)) x5) st)) = true := by kernel_rfl
abbrev f7 : F := (fCall g_parse_store (fK (fCB gStr (fK (fVar 2) fN)) fN))
theorem r7 (x5 : Option SV) (st : DSt) : ((List.range 90).all fun n => isExc .InvalidText (f7 (evM (101 + (n : Nat)) x5) st)) = true := by kernel_rfl
abbrev f8 : F := (fCall g_used (fK (fVar 3) (fK (fTup (fK (fC (.int 1)) fN)) (fK (fC (.int 0)) fN))))
theorem r8 (x5 : Option SV) (st : DSt) : ((List.range 90).all fun n => isExc .Worn (f8 (evM (101 + (n : Nat)) x5) st)) = true := by kernel_rfl
abbrev f9 : F := (fCall g_longest (fK (fVar 4) (fK (fTup (fK (fC (.int 0)) (fK (fC (.int 0)) fN))) fN)))
theorem r9 (x5 : Option SV) (st : DSt) : ((List.range 90).all fun n => isExc .ForEver (f9 (evM (101 + (n : Nat)) x5) st)) = true := by kernel_rfl
abbrev f10 : F := (fCall g_course (fK (fVar 3) (fK (fTup (fK (fC (.int 0)) fN)) fN)))
theorem r10 (x5 : Option SV) (st : DSt) : ((List.range 90).all fun n => isExc .Ends (f10 (evM (101 + (n : Nat)) x5) st)) = true := by kernel_rfl
abbrev f11 : F := (fCall g_with_part (fK (fOp2 gMul (fVar 3) (fC (.int 4))) (fK (fTup (fK (fC (.int 1)) (fK (fC (.int 1)) (fK (fC (.int 0)) fN)))) fN)))
theorem r11 (x5 : Option SV) (st : DSt) : ((List.range 90).all fun n => isExc .TooMany (f11 (evM (101 + (n : Nat)) x5) st)) = true := by kernel_rfl
abbrev f12 : F := (fMkM g_Bench___init__ g_Bench_redo "redo" (fK (fVar 3) fN))
theorem r12 (x5 : Option SV) (st : DSt) : ((List.range 90).all fun n => isExc .NothingToUndo (f12 (evM (101 + (n : Nat)) x5) st)) = true := by kernel_rfl
end SW

set_option maxHeartbeats 4000000
namespace SW
open PySem PySem.Spec PyProof.Rows L2 DL
def idx : Exn → Nat
  | .InvalidPart => 0
  | .InvalidStore => 1
  | .InvalidState => 2
  | .InvalidIndex => 3
  | .InvalidRule => 4
  | .InvalidTicks => 5
  | .InvalidDemand => 6
  | .InvalidText => 7
  | .Worn => 8
  | .ForEver => 9
  | .Ends => 10
  | .TooMany => 11
  | .NothingToUndo => 12
section
variable {Ka : Exn → Addr} (inj : ∀ c c' : Exn, Ka c = Ka c' → c = c')
include inj
theorem exnAt_eq (c : Exn) : exnAt Ka ((Ka c : Nat) : Int) = some c := by
  have h : (fun c' => decide (((Ka c' : Nat) : Int) = ((Ka c : Nat) : Int))) = fun c' => decide (c' = c) := by
    funext c'
    by_cases e : c' = c
    · rw [e]; simp
    · rw [decide_eq_false e, decide_eq_false]
      intro z
      exact e (inj _ _ (Int.ofNat.inj z))
  unfold exnAt
  rw [h]
  cases c <;> rfl
theorem isX_ok {c c0 : Exn} {ev : Ev} {st : DSt} (h : ev[0]? = some (some (.dat (excX (Ka c))))) : fIsX Ka c0 (fVar 0) ev st = .ok (.dat (.bool (decide (c = c0)))) st := by
  unfold fIsX fVar
  rw [h]
  show (match exnAt Ka ((Ka c : Nat) : Int) with
    | some c' => Rs.ok (SV.dat (.bool (decide (c' = c0)))) st
    | none => .stuck) = _
  rw [exnAt_eq inj]
theorem isXV_ok {c : Exn} {ev : Ev} {st : DSt} (h : ev[0]? = some (some (.dat (excX (Ka c))))) : fIsXV Ka (fVar 0) ev st = .ok (.dat (.bool true)) st := by
  unfold fIsXV fVar
  rw [h]
  show (match exnAt Ka ((Ka c : Nat) : Int) with
    | some c' => Rs.ok (SV.dat (.bool true)) st
    | none => .stuck) = _
  rw [exnAt_eq inj]
theorem flagsX3 {c a1 a2 a3 : Exn} {ev : Ev} {st : DSt} (h : ev[0]? = some (some (.dat (excX (Ka c))))) : fLst (fK (fIsX Ka a1 (fVar 0)) (fK (fIsX Ka a2 (fVar 0)) (fK (fIsX Ka a3 (fVar 0)) fN))) ev st = .ok (.dat (.list [.bool (decide (c = a1)), .bool (decide (c = a2)), .bool (decide (c = a3))])) st := by
  unfold fLst fK
  rw [isX_ok inj h]; simp only [bind_ok]
  rw [isX_ok inj h]; simp only [bind_ok]
  rw [isX_ok inj h]; rfl
theorem flagsX1 {c a1 : Exn} {ev : Ev} {st : DSt} (h : ev[0]? = some (some (.dat (excX (Ka c))))) : fLst (fK (fIsX Ka a1 (fVar 0)) fN) ev st = .ok (.dat (.list [.bool (decide (c = a1))])) st := by
  unfold fLst fK
  rw [isX_ok inj h]; rfl
theorem alone_ok (c : Exn) (st : DSt) : g__law_alone Ka [.dat (excX (Ka c)), .dat (.int (idx c : Nat))] st = .ok (.bool true) st := by
  have e0 : ev0 4 [SV.dat (excX (Ka c)), .dat (.int (idx c : Nat))] = [some (.dat (excX (Ka c))), some (.dat (.int (idx c : Nat))), none, none] := rfl
  unfold g__law_alone runF fs__law_alone
  rw [e0]
  rw [seq_set (flagsX3 inj rfl) rfl, seq_set (add_flags (flagsX3 inj rfl) rfl rfl) rfl, seq_set (add_flags (flagsX3 inj rfl) rfl rfl) rfl, seq_set (add_flags (flagsX3 inj rfl) rfl rfl) rfl, seq_set (add_flags (flagsX1 inj rfl) rfl rfl) rfl]
  have q : ∀ {f : F} {ev : Ev} {st : DSt}, ev[0]? = some (some (.dat (excX (Ka c)))) → f ev st = .ok (.dat (.bool true)) st → fRet (fAnd (fIsXV Ka (fVar 0)) f) ev st = .ok (.ret (.bool true)) st := fun {f ev st} h1 h2 => by
    unfold fRet fAnd
    rw [isXV_ok inj h1]
    show (f ev st).bind (fun sv st1 => match sv with
      | .dat d => Rs.ok (Fl.ret d) st1
      | _ => .stuck) = _
    rw [h2]
    rfl
  rw [q rfl (by cases c <;> kernel_rfl)]
  rfl
end
theorem meth_exc {Ka : Exn → Addr} {c : Exn} {f : F} {ev : Ev} {st : DSt} (h : isExc c (f ev st) = true) : ∃ st', fMet Ka f ev st = .ok (.dat (excX (Ka c))) st' := by
  obtain ⟨st', e⟩ := isExc_ex h
  exact ⟨st', by unfold fMet; rw [e]⟩
theorem seq_nx {f g : FS} {ev ev1 : Ev} {st st1 : DSt} {r : Rs Fl} (h : f ev st = .ok (.nx ev1) st1) (k : g ev1 st1 = r) : fSeq f g ev st = r := by
  unfold fSeq; rw [h]; exact k
theorem app_step {Ka : Exn → Addr} {c : Exn} {f : F} {m : Int} {ds : List D} {st : DSt} (h : isExc c (f (evM m (some (.own (.list ds)))) st) = true) (hl : ds.length < lim) :
    ∃ st', fApp 5 (fMet Ka f) (evM m (some (.own (.list ds)))) st = .ok (.nx (evM m (some (.own (.list (ds ++ [excX (Ka c)])))))) st' := by
  obtain ⟨st', e⟩ := meth_exc (Ka := Ka) h
  refine ⟨st', ?_⟩
  unfold fApp
  show (match (some (some (SV.own (.list ds))) : Option (Option SV)) with
    | some (some (.own (.list ds))) => (fMet Ka f (evM m (some (.own (.list ds)))) st).bind fun sv st1 => match sv with
      | .dat d => if ds.length < lim then Rs.ok (Fl.nx ((evM m (some (.own (.list ds)))).set 5 (some (.own (.list (ds ++ [d])))))) st1 else Rs.stuck
      | _ => Rs.stuck
    | _ => Rs.stuck) = _
  simp only [e, bind_ok, if_pos hl]
  rfl
theorem new_step {Ka : Exn → Addr} {c : Exn} {f : F} {m : Int} {st : DSt} (h : isExc c (f (evM m none) st) = true) : ∃ st', fNewL 5 (fK (fMet Ka f) fN) (evM m none) st = .ok (.nx (evM m (some (.own (.list [excX (Ka c)]))))) st' := by
  obtain ⟨st', e⟩ := meth_exc (Ka := Ka) h
  refine ⟨st', ?_⟩
  unfold fNewL fK
  rw [e]
  rfl
def madeD (Ka : Exn → Addr) : List D := exns.map fun c => excX (Ka c)
theorem fK_okC {f : F} {fs : Fs} {ev : Ev} {st st1 st2 : DSt} {sv : SV} {svs : List SV} (h : f ev st = .ok sv st1) (h2 : fs ev st1 = .ok svs st2) : fK f fs ev st = .ok (sv :: svs) st2 := by
  unfold fK; rw [h]; simp only [bind_ok]; rw [h2]; rfl
theorem all_step {Ka : Exn → Addr} (inj : ∀ c c' : Exn, Ka c = Ka c' → c = c') {m : Int} (st : DSt) :
    fFrz 5 (fIfS (fNot (fCB gAll (fK (fLc (fiEL (fK (fVar 5) fN)) (gTp 2 (gCs (gN 6) (gCs (gN 7) gNs))) none (fCall (g__law_alone Ka) (fK (fVar 7) (fK (fVar 6) fN))) [6, 7]) fN))) (fRet (fC (.bool false))) fNil) (evM m (some (.own (.list (madeD Ka))))) st = .ok (.nx (evM m (some (.dat (.list (madeD Ka)))))) st := by
  show fIfS _ _ _ (evM m (some (.dat (.list (madeD Ka))))) st = _
  have hi : fiEL (fK (fVar 5) fN) (evM m (some (.dat (.list (madeD Ka))))) st = .ok (exns.map fun c => .tuple [.int (idx c : Nat), excX (Ka c)]) st := rfl
  have hlc : fLc (fiEL (fK (fVar 5) fN)) (gTp 2 (gCs (gN 6) (gCs (gN 7) gNs))) none (fCall (g__law_alone Ka) (fK (fVar 7) (fK (fVar 6) fN))) [6, 7] (evM m (some (.dat (.list (madeD Ka))))) st = .ok (.dat (.list ((exns.map fun c => PyData.tuple [.int (idx c : Nat), excX (Ka c)]).map fun _ => .bool true))) st := by
    unfold fLc
    rw [hi]
    simp only [bind_ok]
    rw [if_pos (by rw [List.length_map]; show 13 ≤ lim; unfold lim; decide), lcGo_map (fun _ => .bool true) fun d hd => ?_]
    · rfl
    · obtain ⟨c, _, rfl⟩ := List.mem_map.mp hd
      refine ⟨[none, some .dice, some (.dat (.int m)), some (.dat oneD), some (.dat safeD), some (.dat (.list (madeD Ka))), some (.dat (.int (idx c : Nat))), some (.dat (excX (Ka c)))], rfl, ?_⟩
      unfold fCall
      show (Rs.ok [SV.dat (excX (Ka c)), .dat (.int (idx c : Nat))] st).bind _ = _
      simp only [bind_ok]
      rw [if_pos (show ([SV.dat (excX (Ka c)), .dat (.int (idx c : Nat))]).all SV.argOk = true from rfl), alone_ok inj]
      rfl
  have hk := fK_okC (fs := fN) (st2 := st) (svs := []) hlc rfl
  unfold fIfS fNot fCB
  rw [hk]
  rfl
theorem good (Ka : Exn → Addr) (inj : ∀ c c' : Exn, Ka c = Ka c' → c = c') (c : Int) : ∃ ev' st', fs_law Ka (evL nLaw) ⟨c, 0, []⟩ = .ok (.nx ev') st' ∧ ev'.length = nLaw := by
  obtain ⟨r, s1, e1, h0, h1⟩ := roll_eq (m := 90) (by decide) (by decide) ⟨c, 0, []⟩
  obtain ⟨n, rfl⟩ := Int.eq_ofNat_of_zero_le h0
  have hn : n < 90 := by omega
  have hp : fPar [2, 3, 4] (fNK (fOp2 gAdd (fC (.int 101)) (fCall g__law_roll (fK (fVar 1) (fK (fC (.int 90)) fN)))) (fNK (fTup (fK (fTup (fK (fC (.int 1)) (fK (fC (.int 1)) (fK (fC (.int 0)) fN)))) fN)) (fNK (fOp2 gMul (fTup (fK (fTup (fK (fC (.int 1)) (fK (fC (.int 1)) (fK (fC (.int 1)) fN)))) fN)) (fC (.int 2))) fNN))) (evL nLaw) ⟨c, 0, []⟩ = .ok (.nx (evM (101 + (n : Nat)) none)) s1 := by
    have q : fOp2 gAdd (fC (.int 101)) (fCall g__law_roll (fK (fVar 1) (fK (fC (.int 90)) fN))) (evL nLaw) ⟨c, 0, []⟩ = .ok (.dat (.int (101 + (n : Nat)))) s1 := by
      have q1 : fCall g__law_roll (fK (fVar 1) (fK (fC (.int 90)) fN)) (evL nLaw) ⟨c, 0, []⟩ = .ok (.dat (.int (n : Nat))) s1 := by
        unfold fCall
        show (Rs.ok [SV.dice, .dat (.int 90)] (⟨c, 0, []⟩ : DSt)).bind _ = _
        simp only [bind_ok]
        rw [if_pos (show ([SV.dice, .dat (.int 90)]).all SV.argOk = true from rfl), e1]
        rfl
      unfold fOp2
      show ((fCall g__law_roll (fK (fVar 1) (fK (fC (.int 90)) fN)) (evL nLaw) ⟨c, 0, []⟩).bind fun sb st2 => of2 gAdd (.dat (.int 101)) sb st2) = _
      rw [q1]
      rfl
    unfold fPar
    have q2 : ∀ g : Fn', fNK (fOp2 gAdd (fC (.int 101)) (fCall g__law_roll (fK (fVar 1) (fK (fC (.int 90)) fN)))) g (evL nLaw) ⟨c, 0, []⟩ = (g (evL nLaw) s1).bind fun avs st2 => .ok (.dat (.int (101 + (n : Nat))) :: avs) st2 := fun g => by
      unfold fNK
      rw [q]; rfl
    rw [q2]
    rfl
  obtain ⟨t0, a0⟩ := new_step (Ka := Ka) (upTo (r0 none s1) hn)
  obtain ⟨t1, a1⟩ := app_step (Ka := Ka) (ds := [excX (Ka .InvalidPart)]) (upTo (r1 _ t0) hn) (by show 1 < lim; unfold lim; decide)
  obtain ⟨t2, a2⟩ := app_step (Ka := Ka) (ds := [excX (Ka .InvalidPart), excX (Ka .InvalidStore)]) (upTo (r2 _ t1) hn) (by show 2 < lim; unfold lim; decide)
  obtain ⟨t3, a3⟩ := app_step (Ka := Ka) (ds := [excX (Ka .InvalidPart), excX (Ka .InvalidStore), excX (Ka .InvalidState)]) (upTo (r3 _ t2) hn) (by show 3 < lim; unfold lim; decide)
  obtain ⟨t4, a4⟩ := app_step (Ka := Ka) (ds := [excX (Ka .InvalidPart), excX (Ka .InvalidStore), excX (Ka .InvalidState), excX (Ka .InvalidIndex)]) (upTo (r4 _ t3) hn) (by show 4 < lim; unfold lim; decide)
  obtain ⟨t5, a5⟩ := app_step (Ka := Ka) (ds := [excX (Ka .InvalidPart), excX (Ka .InvalidStore), excX (Ka .InvalidState), excX (Ka .InvalidIndex), excX (Ka .InvalidRule)]) (upTo (r5 _ t4) hn) (by show 5 < lim; unfold lim; decide)
  obtain ⟨t6, a6⟩ := app_step (Ka := Ka) (ds := [excX (Ka .InvalidPart), excX (Ka .InvalidStore), excX (Ka .InvalidState), excX (Ka .InvalidIndex), excX (Ka .InvalidRule), excX (Ka .InvalidTicks)]) (upTo (r6 _ t5) hn) (by show 6 < lim; unfold lim; decide)
  obtain ⟨t7, a7⟩ := app_step (Ka := Ka) (ds := [excX (Ka .InvalidPart), excX (Ka .InvalidStore), excX (Ka .InvalidState), excX (Ka .InvalidIndex), excX (Ka .InvalidRule), excX (Ka .InvalidTicks), excX (Ka .InvalidDemand)]) (upTo (r7 _ t6) hn) (by show 7 < lim; unfold lim; decide)
  obtain ⟨t8, a8⟩ := app_step (Ka := Ka) (ds := [excX (Ka .InvalidPart), excX (Ka .InvalidStore), excX (Ka .InvalidState), excX (Ka .InvalidIndex), excX (Ka .InvalidRule), excX (Ka .InvalidTicks), excX (Ka .InvalidDemand), excX (Ka .InvalidText)]) (upTo (r8 _ t7) hn) (by show 8 < lim; unfold lim; decide)
  obtain ⟨t9, a9⟩ := app_step (Ka := Ka) (ds := [excX (Ka .InvalidPart), excX (Ka .InvalidStore), excX (Ka .InvalidState), excX (Ka .InvalidIndex), excX (Ka .InvalidRule), excX (Ka .InvalidTicks), excX (Ka .InvalidDemand), excX (Ka .InvalidText), excX (Ka .Worn)]) (upTo (r9 _ t8) hn) (by show 9 < lim; unfold lim; decide)
  obtain ⟨t10, a10⟩ := app_step (Ka := Ka) (ds := [excX (Ka .InvalidPart), excX (Ka .InvalidStore), excX (Ka .InvalidState), excX (Ka .InvalidIndex), excX (Ka .InvalidRule), excX (Ka .InvalidTicks), excX (Ka .InvalidDemand), excX (Ka .InvalidText), excX (Ka .Worn), excX (Ka .ForEver)]) (upTo (r10 _ t9) hn) (by show 10 < lim; unfold lim; decide)
  obtain ⟨t11, a11⟩ := app_step (Ka := Ka) (ds := [excX (Ka .InvalidPart), excX (Ka .InvalidStore), excX (Ka .InvalidState), excX (Ka .InvalidIndex), excX (Ka .InvalidRule), excX (Ka .InvalidTicks), excX (Ka .InvalidDemand), excX (Ka .InvalidText), excX (Ka .Worn), excX (Ka .ForEver), excX (Ka .Ends)]) (upTo (r11 _ t10) hn) (by show 11 < lim; unfold lim; decide)
  obtain ⟨t12, a12⟩ := app_step (Ka := Ka) (ds := [excX (Ka .InvalidPart), excX (Ka .InvalidStore), excX (Ka .InvalidState), excX (Ka .InvalidIndex), excX (Ka .InvalidRule), excX (Ka .InvalidTicks), excX (Ka .InvalidDemand), excX (Ka .InvalidText), excX (Ka .Worn), excX (Ka .ForEver), excX (Ka .Ends), excX (Ka .TooMany)]) (upTo (r12 _ t11) hn) (by show 12 < lim; unfold lim; decide)
  refine ⟨evM (101 + (n : Nat)) (some (.dat (.list (madeD Ka)))), t12, ?_, rfl⟩
  · unfold fs_law
    exact seq_nx hp (seq_nx a0 (seq_nx a1 (seq_nx a2 (seq_nx a3 (seq_nx a4 (seq_nx a5 (seq_nx a6 (seq_nx a7 (seq_nx a8 (seq_nx a9 (seq_nx a10 (seq_nx a11 (seq_nx a12 (all_step inj t12))))))))))))))
end SW

set_option maxHeartbeats 0
namespace SW
open PySem PySem.Spec PyProof.Rows L2 DL
def top (i : Nat) : Stmt := PySem.Challenge.pw_sparewear_k21_errors_apart.main.body.getD i (.Pass ⟨0, 0, 0, 0⟩)
abbrev s__wall : Stmt := top 0
def d__wall : He.DefD := ⟨("_wall", none), "_wall", "_wall", defArgs s__wall, defBody s__wall, defScope s__wall, [], []⟩
abbrev s_is_whole : Stmt := top 17
def d_is_whole : He.DefD := ⟨("is_whole", none), "is_whole", "is_whole", defArgs s_is_whole, defBody s_is_whole, defScope s_is_whole, [], []⟩
abbrev s_is_part : Stmt := top 18
def d_is_part : He.DefD := ⟨("is_part", none), "is_part", "is_part", defArgs s_is_part, defBody s_is_part, defScope s_is_part, [], []⟩
abbrev s_need_part : Stmt := top 19
def d_need_part : He.DefD := ⟨("need_part", none), "need_part", "need_part", defArgs s_need_part, defBody s_need_part, defScope s_need_part, [], []⟩
abbrev s_is_store : Stmt := top 20
def d_is_store : He.DefD := ⟨("is_store", none), "is_store", "is_store", defArgs s_is_store, defBody s_is_store, defScope s_is_store, [], []⟩
abbrev s_need_store : Stmt := top 21
def d_need_store : He.DefD := ⟨("need_store", none), "need_store", "need_store", defArgs s_need_store, defBody s_need_store, defScope s_need_store, [], []⟩
abbrev s_good_state : Stmt := top 22
def d_good_state : He.DefD := ⟨("good_state", none), "good_state", "good_state", defArgs s_good_state, defBody s_good_state, defScope s_good_state, [], []⟩
abbrev s_need_state : Stmt := top 23
def d_need_state : He.DefD := ⟨("need_state", none), "need_state", "need_state", defArgs s_need_state, defBody s_need_state, defScope s_need_state, [], []⟩
abbrev s_need_index : Stmt := top 24
def d_need_index : He.DefD := ⟨("need_index", none), "need_index", "need_index", defArgs s_need_index, defBody s_need_index, defScope s_need_index, [], []⟩
abbrev s_fresh : Stmt := top 25
def d_fresh : He.DefD := ⟨("fresh", none), "fresh", "fresh", defArgs s_fresh, defBody s_fresh, defScope s_fresh, [], []⟩
abbrev s_new : Stmt := top 26
def d_new : He.DefD := ⟨("new", none), "new", "new", defArgs s_new, defBody s_new, defScope s_new, [], []⟩
abbrev s_can_use : Stmt := top 27
def d_can_use : He.DefD := ⟨("can_use", none), "can_use", "can_use", defArgs s_can_use, defBody s_can_use, defScope s_can_use, [], []⟩
abbrev s_usable_in : Stmt := top 28
def d_usable_in : He.DefD := ⟨("usable_in", none), "usable_in", "usable_in", defArgs s_usable_in, defBody s_usable_in, defScope s_usable_in, [], []⟩
abbrev s_usable : Stmt := top 29
def d_usable : He.DefD := ⟨("usable", none), "usable", "usable", defArgs s_usable, defBody s_usable, defScope s_usable, [], []⟩
abbrev s_ticked : Stmt := top 30
def d_ticked : He.DefD := ⟨("ticked", none), "ticked", "ticked", defArgs s_ticked, defBody s_ticked, defScope s_ticked, [], []⟩
abbrev s_used : Stmt := top 31
def d_used : He.DefD := ⟨("used", none), "used", "used", defArgs s_used, defBody s_used, defScope s_used, [], []⟩
abbrev s_all_states : Stmt := top 33
def d_all_states : He.DefD := ⟨("all_states", none), "all_states", "all_states", defArgs s_all_states, defBody s_all_states, defScope s_all_states, [], []⟩
abbrev s_ranks : Stmt := top 34
def d_ranks : He.DefD := ⟨("ranks", none), "ranks", "ranks", defArgs s_ranks, defBody s_ranks, defScope s_ranks, [], []⟩
abbrev s_longest : Stmt := top 35
def d_longest : He.DefD := ⟨("longest", none), "longest", "longest", defArgs s_longest, defBody s_longest, defScope s_longest, [], []⟩
abbrev s_course : Stmt := top 36
def d_course : He.DefD := ⟨("course", none), "course", "course", defArgs s_course, defBody s_course, defScope s_course, [], []⟩
abbrev s_need_rule : Stmt := top 38
def d_need_rule : He.DefD := ⟨("need_rule", none), "need_rule", "need_rule", defArgs s_need_rule, defBody s_need_rule, defScope s_need_rule, [], []⟩
abbrev s_chosen : Stmt := top 39
def d_chosen : He.DefD := ⟨("chosen", none), "chosen", "chosen", defArgs s_chosen, defBody s_chosen, defScope s_chosen, [], []⟩
abbrev s_choice : Stmt := top 40
def d_choice : He.DefD := ⟨("choice", none), "choice", "choice", defArgs s_choice, defBody s_choice, defScope s_choice, [], []⟩
abbrev s_run : Stmt := top 41
def d_run : He.DefD := ⟨("run", none), "run", "run", defArgs s_run, defBody s_run, defScope s_run, [], []⟩
abbrev s_with_part : Stmt := top 45
def d_with_part : He.DefD := ⟨("with_part", none), "with_part", "with_part", defArgs s_with_part, defBody s_with_part, defScope s_with_part, [], []⟩
abbrev s_is_demand : Stmt := top 47
def d_is_demand : He.DefD := ⟨("is_demand", none), "is_demand", "is_demand", defArgs s_is_demand, defBody s_is_demand, defScope s_is_demand, [], []⟩
abbrev s_need_demand : Stmt := top 48
def d_need_demand : He.DefD := ⟨("need_demand", none), "need_demand", "need_demand", defArgs s_need_demand, defBody s_need_demand, defScope s_need_demand, [], []⟩
abbrev s_served : Stmt := top 49
def d_served : He.DefD := ⟨("served", none), "served", "served", defArgs s_served, defBody s_served, defScope s_served, [], []⟩
abbrev s_need_both : Stmt := top 50
def d_need_both : He.DefD := ⟨("need_both", none), "need_both", "need_both", defArgs s_need_both, defBody s_need_both, defScope s_need_both, [], []⟩
abbrev s_lasts_with : Stmt := top 51
def d_lasts_with : He.DefD := ⟨("lasts_with", none), "lasts_with", "lasts_with", defArgs s_lasts_with, defBody s_lasts_with, defScope s_lasts_with, [], []⟩
abbrev s_digit : Stmt := top 53
def d_digit : He.DefD := ⟨("digit", none), "digit", "digit", defArgs s_digit, defBody s_digit, defScope s_digit, [], []⟩
abbrev s_parse_store : Stmt := top 54
def d_parse_store : He.DefD := ⟨("parse_store", none), "parse_store", "parse_store", defArgs s_parse_store, defBody s_parse_store, defScope s_parse_store, [], []⟩
abbrev s__law_cell : Stmt := top 56
def d__law_cell : He.DefD := ⟨("_law_cell", none), "_law_cell", "_law_cell", defArgs s__law_cell, defBody s__law_cell, defScope s__law_cell, [], []⟩
abbrev s__law_drawn : Stmt := top 57
def d__law_drawn : He.DefD := ⟨("_law_drawn", none), "_law_drawn", "_law_drawn", defArgs s__law_drawn, defBody s__law_drawn, defScope s__law_drawn, [], []⟩
abbrev s__law_roll : Stmt := top 58
def d__law_roll : He.DefD := ⟨("_law_roll", none), "_law_roll", "_law_roll", defArgs s__law_roll, defBody s__law_roll, defScope s__law_roll, [], []⟩
abbrev s__law_rounds : Stmt := top 59
def d__law_rounds : He.DefD := ⟨("_law_rounds", none), "_law_rounds", "_law_rounds", defArgs s__law_rounds, defBody s__law_rounds, defScope s__law_rounds, [], []⟩
abbrev s__law_met : Stmt := top 60
def d__law_met : He.DefD := ⟨("_law_met", none), "_law_met", "_law_met", defArgs s__law_met, defBody s__law_met, defScope s__law_met, [], []⟩
abbrev s__law_alone : Stmt := top 61
def d__law_alone : He.DefD := ⟨("_law_alone", none), "_law_alone", "_law_alone", defArgs s__law_alone, defBody s__law_alone, defScope s__law_alone, [], []⟩
abbrev s_law : Stmt := top 62
def d_law : He.DefD := ⟨("law", none), "law", "law", defArgs s_law, defBody s_law, defScope s_law, [], []⟩
abbrev s_Bench___init__ : Stmt := inClass (top 43) 0
def d_Bench___init__ : He.DefD := ⟨("Bench", some "__init__"), "__init__", "Bench.__init__", defArgs s_Bench___init__, defBody s_Bench___init__, defScope s_Bench___init__, [], []⟩
abbrev s_Bench_change : Stmt := inClass (top 43) 1
def d_Bench_change : He.DefD := ⟨("Bench", some "change"), "change", "Bench.change", defArgs s_Bench_change, defBody s_Bench_change, defScope s_Bench_change, [], []⟩
abbrev s_Bench_use : Stmt := inClass (top 43) 2
def d_Bench_use : He.DefD := ⟨("Bench", some "use"), "use", "Bench.use", defArgs s_Bench_use, defBody s_Bench_use, defScope s_Bench_use, [], []⟩
abbrev s_Bench_state : Stmt := inClass (top 43) 4
def d_Bench_state : He.DefD := ⟨("Bench", some "state"), "state", "Bench.state", defArgs s_Bench_state, defBody s_Bench_state, defScope s_Bench_state, [], []⟩
abbrev s_Bench_undo : Stmt := inClass (top 43) 6
def d_Bench_undo : He.DefD := ⟨("Bench", some "undo"), "undo", "Bench.undo", defArgs s_Bench_undo, defBody s_Bench_undo, defScope s_Bench_undo, [], []⟩
abbrev s_Bench_redo : Stmt := inClass (top 43) 7
def d_Bench_redo : He.DefD := ⟨("Bench", some "redo"), "redo", "Bench.redo", defArgs s_Bench_redo, defBody s_Bench_redo, defScope s_Bench_redo, [], []⟩
abbrev s_Bench___len__ : Stmt := inClass (top 43) 8
def d_Bench___len__ : He.DefD := ⟨("Bench", some "__len__"), "__len__", "Bench.__len__", defArgs s_Bench___len__, defBody s_Bench___len__, defScope s_Bench___len__, [], []⟩
def fn : List He.DefD := [d__wall, d_is_whole, d_is_part, d_need_part, d_is_store, d_need_store, d_good_state, d_need_state, d_need_index, d_fresh, d_new, d_can_use, d_usable_in, d_usable, d_ticked, d_used, d_all_states, d_ranks, d_longest, d_course, d_need_rule, d_chosen, d_choice, d_run, d_with_part, d_is_demand, d_need_demand, d_served, d_need_both, d_lasts_with, d_digit, d_parse_store, d__law_cell, d__law_drawn, d__law_roll, d__law_rounds, d__law_met, d__law_alone, d_law, d_Bench___init__, d_Bench_change, d_Bench_use, d_Bench_state, d_Bench_undo, d_Bench_redo, d_Bench___len__]
def fa : List He.Fa := [.glo "_wall", .glo "is_whole", .glo "is_part", .glo "need_part", .glo "is_store", .glo "need_store", .glo "good_state", .glo "need_state", .glo "need_index", .glo "fresh", .glo "new", .glo "can_use", .glo "usable_in", .glo "usable", .glo "ticked", .glo "used", .glo "all_states", .glo "ranks", .glo "longest", .glo "course", .glo "need_rule", .glo "chosen", .glo "choice", .glo "run", .glo "with_part", .glo "is_demand", .glo "need_demand", .glo "served", .glo "need_both", .glo "lasts_with", .glo "digit", .glo "parse_store", .glo "_law_cell", .glo "_law_drawn", .glo "_law_roll", .glo "_law_rounds", .glo "_law_met", .glo "_law_alone", .glo "law", .free "isinstance", .free "len", .free "int", .free "bool", .free "tuple", .free "range", .free "enumerate", .free "max", .free "min", .free "all", .free "str", .free "ValueError", .glo "WearError", .exc "WearError", .glo "InvalidPart", .exc "InvalidPart", .glo "InvalidStore", .exc "InvalidStore", .glo "InvalidState", .exc "InvalidState", .glo "InvalidIndex", .exc "InvalidIndex", .glo "InvalidRule", .exc "InvalidRule", .glo "InvalidTicks", .exc "InvalidTicks", .glo "InvalidDemand", .exc "InvalidDemand", .glo "InvalidText", .exc "InvalidText", .glo "Worn", .exc "Worn", .glo "ForEver", .exc "ForEver", .glo "Ends", .exc "Ends", .glo "TooMany", .exc "TooMany", .glo "NothingToUndo", .exc "NothingToUndo", .glo "Bench", .cls "Bench", .mkr "Bench", .noat "Bench" "store", .noat "Bench" "now", .noat "Bench" "earlier", .noat "Bench" "undone", .meth "Bench" "__init__", .meth "Bench" "change", .meth "Bench" "use", .meth "Bench" "state", .meth "Bench" "undo", .meth "Bench" "redo", .meth "Bench" "__len__"]
abbrev R : PySem.W.OpenRow := PySem.W.OpenLaw.row PySem.Challenge.rw_sparewear_k21_errors_apart
def tf : List He.Defn := [("law", none)]
def exB : PySem.W.Frag → Bool := DL.exB
abbrev hk : PySem.W.Hook := He.hookX 4 fa fn [] tf exB
def ob (s : PySem.W.SharedT) : He.AlX := He.obsX 4 fa fn [] tf exB (HandSHeadRun.getT s)
theorem ob_eq (s : PySem.W.SharedT) : ob s = hk.obs s.abs := He.obsX_eq (HandSHeadRun.getT_eq s)
def nm0 : List PySem.Str := ["_wall", "WearError", "InvalidPart", "InvalidStore", "InvalidState", "InvalidIndex", "InvalidRule", "InvalidTicks", "InvalidDemand", "InvalidText", "Worn", "ForEver", "Ends", "TooMany", "NothingToUndo"]
def nm1 : List PySem.Str := ["is_whole", "is_part", "need_part", "is_store", "need_store", "good_state", "need_state", "need_index", "fresh", "new", "can_use", "usable_in", "usable", "ticked", "used"]
def nm2 : List PySem.Str := ["all_states", "ranks", "longest", "course", "need_rule", "chosen", "choice", "run", "Bench", "with_part", "is_demand", "need_demand", "served", "need_both", "lasts_with"]
def nm3 : List PySem.Str := ["digit", "parse_store", "_law_cell", "_law_drawn", "_law_roll", "_law_rounds", "_law_met", "_law_alone"]
def names : List PySem.Str := nm0 ++ nm1 ++ nm2 ++ nm3
theorem run (w : World) : HandSHeadRun.RunEq R (PySem.W.view R.prog [62]) hk ob 20000 names w := by
  intro os
  kernel_rfl
section
variable {P : Program} {w : World} {K : PySem.W.Frag} {mg : Str → Option Value} {base : Heap} {T : Tb}
theorem cal_is_whole {f : Addr} {fd : FuncData} (F : FunD K "is_whole" "is_whole" (defArgs s_is_whole) (defBody s_is_whole) (defScope s_is_whole) [] [] f fd) (gm : mg "is_whole" = some (.ref f)) (n_isinstance : mg "isinstance" = none) (n_int : mg "int" = none) (n_bool : mg "bool" = none) :
    Cal P w K mg base T "is_whole" 1 ["value", "low", "high"] g_is_whole := by
  have sc : FnScope ["value", "low", "high"] ["value", "low", "high"] (defScope s_is_whole) := ⟨rfl, rfl, rfl, by decide +kernel, rfl, by decide +kernel, by decide +kernel⟩
  refine mk_cal F gm sc (by decide) (F.bindsN fun _ _ _ _ _ _ us hl => match us, hl with | [_, _, _], _ => rfl) fun cdv A outer s H0 E δ G0 bo hr => ?_
  exact (dss_one (ds_ret (de_and (de_ist (t := "int") (by rfl) n_isinstance (by rfl) n_int bt_int (de_var 0)) (de_and (de_not (de_ist (t := "bool") (by rfl) n_isinstance (by rfl) n_bool bt_bool (de_var 0))) (de_one (de_chain od_le od_le (de_var 1) (de_var 0) (de_var 2)))))))
theorem cal_is_part {f : Addr} {fd : FuncData} (F : FunD K "is_part" "is_part" (defArgs s_is_part) (defBody s_is_part) (defScope s_is_part) [] [] f fd) (gm : mg "is_part" = some (.ref f)) (n_isinstance : mg "isinstance" = none) (n_tuple : mg "tuple" = none) (n_len : mg "len" = none) (C_is_whole : Cal P w K mg base T "is_whole" 1 ["value", "low", "high"] g_is_whole) :
    Cal P w K mg base T "is_part" 2 ["value"] g_is_part := by
  have sc : FnScope ["value"] ["value"] (defScope s_is_part) := ⟨rfl, rfl, rfl, by decide +kernel, rfl, by decide +kernel, by decide +kernel⟩
  refine mk_cal F gm sc (by decide) (F.bindsN fun _ _ _ _ _ _ us hl => match us, hl with | [_], _ => rfl) fun cdv A outer s H0 E δ G0 bo hr => ?_
  exact (dss_cons (ds_if (dt_w (dw_or (dt_not (dt_val (de_ist (t := "tuple") (by rfl) n_isinstance (by rfl) n_tuple bt_tuple (de_var 0)))) (dw_or1 (dt_cmp (od_ne (u64 hr)) (de_callB cd_len (by rfl) n_len bb_len (da_cons (de_var 0) da_nil)) de_int)))) (dss_one (ds_ret de_bool)) dss_nil)
  (dss_one (ds_ret (de_and (de_callC bo C_is_whole hr (by decide) (by rfl) (L2N.passes_call (L2N.takes_of rfl rfl rfl rfl) fun _ _ _ _ h => h) (by rfl) (da_cons (de_ix (de_var 0) de_int) (da_cons de_int (da_cons de_int da_nil))) (len_cons (len_cons (len_cons len_nil)))) (de_and (de_callC bo C_is_whole hr (by decide) (by rfl) (L2N.passes_call (L2N.takes_of rfl rfl rfl rfl) fun _ _ _ _ h => h) (by rfl) (da_cons (de_ix (de_var 0) de_int) (da_cons de_int (da_cons de_int da_nil))) (len_cons (len_cons (len_cons len_nil)))) (de_one (de_callC bo C_is_whole hr (by decide) (by rfl) (L2N.passes_call (L2N.takes_of rfl rfl rfl rfl) fun _ _ _ _ h => h) (by rfl) (da_cons (de_ix (de_var 0) de_int) (da_cons de_int (da_cons de_int da_nil))) (len_cons (len_cons (len_cons len_nil))))))))))
theorem cal_need_part {f : Addr} {fd : FuncData} (F : FunD K "need_part" "need_part" (defArgs s_need_part) (defBody s_need_part) (defScope s_need_part) [] [] f fd) (gm : mg "need_part" = some (.ref f)) (C_is_part : Cal P w K mg base T "is_part" 2 ["value"] g_is_part) (X_InvalidPart : ExOk K mg .InvalidPart) :
    Cal P w K mg base T "need_part" 3 ["part"] g_need_part := by
  have sc : FnScope ["part"] ["part"] (defScope s_need_part) := ⟨rfl, rfl, rfl, by decide +kernel, rfl, by decide +kernel, by decide +kernel⟩
  refine mk_cal F gm sc (by decide) (F.bindsN fun _ _ _ _ _ _ us hl => match us, hl with | [_], _ => rfl) fun cdv A outer s H0 E δ G0 bo hr => ?_
  exact (dss_one (ds_if (dt_not (dt_val (de_callC bo C_is_part hr (by decide) (by rfl) (L2N.passes_call (L2N.takes_of rfl rfl rfl rfl) fun _ _ _ _ h => h) (by rfl) (da_cons (de_var 0) da_nil) (len_cons len_nil)))) (dss_one (ds_raiseX (c := .InvalidPart) rfl rfl (L2N.takes_of rfl rfl rfl rfl) X_InvalidPart rfl)) dss_nil))
theorem cal_is_store {f : Addr} {fd : FuncData} (F : FunD K "is_store" "is_store" (defArgs s_is_store) (defBody s_is_store) (defScope s_is_store) [] [] f fd) (gm : mg "is_store" = some (.ref f)) (n_isinstance : mg "isinstance" = none) (n_tuple : mg "tuple" = none) (n_len : mg "len" = none) (n_all : mg "all" = none) (C_is_part : Cal P w K mg base T "is_part" 2 ["value"] g_is_part) :
    Cal P w K mg base T "is_store" 3 ["value"] g_is_store := by
  have sc : FnScope ["value", "one"] ["value"] (defScope s_is_store) := ⟨rfl, rfl, rfl, by decide +kernel, rfl, by decide +kernel, by decide +kernel⟩
  refine mk_cal F gm sc (by decide) (F.bindsN fun _ _ _ _ _ _ us hl => match us, hl with | [_], _ => rfl) fun cdv A outer s H0 E δ G0 bo hr => ?_
  exact (dss_one (ds_ret (de_and (de_ist (t := "tuple") (by rfl) n_isinstance (by rfl) n_tuple bt_tuple (de_var 0)) (de_and (de_chain od_le od_le de_int (de_callB cd_len (by rfl) n_len bb_len (da_cons (de_var 0) da_nil)) de_int) (de_one (de_callB (cd_all rfl) (by rfl) n_all bb_all (da_cons (de_lc rfl sc.nd (di_t (de_var 0)) (blk_of (own := [("one", 1)]) (by kernel_rfl)) (fun _ _ _ _ _ => (dg_name 1 sc.nd)) (fun _ _ _ _ _ => dpt_none) (fun _ _ _ _ _ => (de_callC bo C_is_part hr (by decide) (by rfl) passN (by rfl) (da_cons (de_var 1) da_nil) (len_cons len_nil)))) da_nil)))))))
theorem cal_need_store {f : Addr} {fd : FuncData} (F : FunD K "need_store" "need_store" (defArgs s_need_store) (defBody s_need_store) (defScope s_need_store) [] [] f fd) (gm : mg "need_store" = some (.ref f)) (C_is_store : Cal P w K mg base T "is_store" 3 ["value"] g_is_store) (X_InvalidStore : ExOk K mg .InvalidStore) :
    Cal P w K mg base T "need_store" 4 ["store"] g_need_store := by
  have sc : FnScope ["store"] ["store"] (defScope s_need_store) := ⟨rfl, rfl, rfl, by decide +kernel, rfl, by decide +kernel, by decide +kernel⟩
  refine mk_cal F gm sc (by decide) (F.bindsN fun _ _ _ _ _ _ us hl => match us, hl with | [_], _ => rfl) fun cdv A outer s H0 E δ G0 bo hr => ?_
  exact (dss_one (ds_if (dt_not (dt_val (de_callC bo C_is_store hr (by decide) (by rfl) (L2N.passes_call (L2N.takes_of rfl rfl rfl rfl) fun _ _ _ _ h => h) (by rfl) (da_cons (de_var 0) da_nil) (len_cons len_nil)))) (dss_one (ds_raiseX (c := .InvalidStore) rfl rfl (L2N.takes_of rfl rfl rfl rfl) X_InvalidStore rfl)) dss_nil))
theorem cal_good_state {f : Addr} {fd : FuncData} (F : FunD K "good_state" "good_state" (defArgs s_good_state) (defBody s_good_state) (defScope s_good_state) [] [] f fd) (gm : mg "good_state" = some (.ref f)) (n_isinstance : mg "isinstance" = none) (n_tuple : mg "tuple" = none) (n_len : mg "len" = none) (n_enumerate : mg "enumerate" = none) (n_all : mg "all" = none) (C_is_whole : Cal P w K mg base T "is_whole" 1 ["value", "low", "high"] g_is_whole) :
    Cal P w K mg base T "good_state" 2 ["store", "value"] g_good_state := by
  have sc : FnScope ["store", "value", "index", "wear"] ["store", "value"] (defScope s_good_state) := ⟨rfl, rfl, rfl, by decide +kernel, rfl, by decide +kernel, by decide +kernel⟩
  refine mk_cal F gm sc (by decide) (F.bindsN fun _ _ _ _ _ _ us hl => match us, hl with | [_, _], _ => rfl) fun cdv A outer s H0 E δ G0 bo hr => ?_
  exact (dss_cons (ds_if (dt_w (dw_or (dt_not (dt_val (de_ist (t := "tuple") (by rfl) n_isinstance (by rfl) n_tuple bt_tuple (de_var 1)))) (dw_or1 (dt_cmp (od_ne (u64 hr)) (de_callB cd_len (by rfl) n_len bb_len (da_cons (de_var 1) da_nil)) (de_callB cd_len (by rfl) n_len bb_len (da_cons (de_var 0) da_nil)))))) (dss_one (ds_ret de_bool)) dss_nil)
  (dss_one (ds_ret (de_callB (cd_all rfl) (by rfl) n_all bb_all (da_cons (de_lc rfl sc.nd (di_e (by rfl) n_enumerate (da_cons (de_var 1) da_nil)) (blk_of (own := [("index", 2), ("wear", 3)]) (by kernel_rfl)) (fun _ _ _ _ _ => (dg_tup rfl (dgs_cons (dg_name 2 sc.nd) (dgs_cons (dg_name 3 sc.nd) dgs_nil)))) (fun _ _ _ _ _ => dpt_none) (fun _ _ _ _ _ => (de_callC bo C_is_whole hr (by decide) (by rfl) passN (by rfl) (da_cons (de_var 3) (da_cons de_int (da_cons (de_ix (de_ix (de_var 0) (de_var 2)) de_int) da_nil))) (len_cons (len_cons (len_cons len_nil)))))) da_nil)))))
theorem cal_need_state {f : Addr} {fd : FuncData} (F : FunD K "need_state" "need_state" (defArgs s_need_state) (defBody s_need_state) (defScope s_need_state) [] [] f fd) (gm : mg "need_state" = some (.ref f)) (C_need_store : Cal P w K mg base T "need_store" 4 ["store"] g_need_store) (C_good_state : Cal P w K mg base T "good_state" 2 ["store", "value"] g_good_state) (X_InvalidState : ExOk K mg .InvalidState) :
    Cal P w K mg base T "need_state" 5 ["store", "state"] g_need_state := by
  have sc : FnScope ["store", "state"] ["store", "state"] (defScope s_need_state) := ⟨rfl, rfl, rfl, by decide +kernel, rfl, by decide +kernel, by decide +kernel⟩
  refine mk_cal F gm sc (by decide) (F.bindsN fun _ _ _ _ _ _ us hl => match us, hl with | [_, _], _ => rfl) fun cdv A outer s H0 E δ G0 bo hr => ?_
  exact (dss_cons (ds_expr (de_callC bo C_need_store hr (by decide) (by rfl) (L2N.passes_call (L2N.takes_of rfl rfl rfl rfl) fun _ _ _ _ h => h) (by rfl) (da_cons (de_var 0) da_nil) (len_cons len_nil)))
  (dss_one (ds_if (dt_not (dt_val (de_callC bo C_good_state hr (by decide) (by rfl) (L2N.passes_call (L2N.takes_of rfl rfl rfl rfl) fun _ _ _ _ h => h) (by rfl) (da_cons (de_var 0) (da_cons (de_var 1) da_nil)) (len_cons (len_cons len_nil))))) (dss_one (ds_raiseX (c := .InvalidState) rfl rfl (L2N.takes_of rfl rfl rfl rfl) X_InvalidState rfl)) dss_nil)))
theorem cal_need_index {f : Addr} {fd : FuncData} (F : FunD K "need_index" "need_index" (defArgs s_need_index) (defBody s_need_index) (defScope s_need_index) [] [] f fd) (gm : mg "need_index" = some (.ref f)) (n_len : mg "len" = none) (C_is_whole : Cal P w K mg base T "is_whole" 1 ["value", "low", "high"] g_is_whole) (X_InvalidIndex : ExOk K mg .InvalidIndex) :
    Cal P w K mg base T "need_index" 2 ["store", "index"] g_need_index := by
  have sc : FnScope ["store", "index"] ["store", "index"] (defScope s_need_index) := ⟨rfl, rfl, rfl, by decide +kernel, rfl, by decide +kernel, by decide +kernel⟩
  refine mk_cal F gm sc (by decide) (F.bindsN fun _ _ _ _ _ _ us hl => match us, hl with | [_, _], _ => rfl) fun cdv A outer s H0 E δ G0 bo hr => ?_
  exact (dss_one (ds_if (dt_not (dt_val (de_callC bo C_is_whole hr (by decide) (by rfl) (L2N.passes_call (L2N.takes_of rfl rfl rfl rfl) fun _ _ _ _ h => h) (by rfl) (da_cons (de_var 1) (da_cons de_int (da_cons (de_op od_sub (de_callB cd_len (by rfl) n_len bb_len (da_cons (de_var 0) da_nil)) de_int) da_nil))) (len_cons (len_cons (len_cons len_nil)))))) (dss_one (ds_raiseX (c := .InvalidIndex) rfl rfl (L2N.takes_of rfl rfl rfl rfl) X_InvalidIndex rfl)) dss_nil))
theorem cal_fresh {f : Addr} {fd : FuncData} (F : FunD K "fresh" "fresh" (defArgs s_fresh) (defBody s_fresh) (defScope s_fresh) [] [] f fd) (gm : mg "fresh" = some (.ref f)) (n_len : mg "len" = none) :
    Cal P w K mg base T "fresh" 1 ["store"] g_fresh := by
  have sc : FnScope ["store"] ["store"] (defScope s_fresh) := ⟨rfl, rfl, rfl, by decide +kernel, rfl, by decide +kernel, by decide +kernel⟩
  refine mk_cal F gm sc (by decide) (F.bindsN fun _ _ _ _ _ _ us hl => match us, hl with | [_], _ => rfl) fun cdv A outer s H0 E δ G0 bo hr => ?_
  exact (dss_one (ds_ret (de_op od_mul (de_tup (da_cons de_int da_nil)) (de_callB cd_len (by rfl) n_len bb_len (da_cons (de_var 0) da_nil)))))
theorem cal_new {f : Addr} {fd : FuncData} (F : FunD K "new" "new" (defArgs s_new) (defBody s_new) (defScope s_new) [] [] f fd) (gm : mg "new" = some (.ref f)) (C_need_store : Cal P w K mg base T "need_store" 4 ["store"] g_need_store) (C_fresh : Cal P w K mg base T "fresh" 1 ["store"] g_fresh) :
    Cal P w K mg base T "new" 5 ["store"] g_new := by
  have sc : FnScope ["store"] ["store"] (defScope s_new) := ⟨rfl, rfl, rfl, by decide +kernel, rfl, by decide +kernel, by decide +kernel⟩
  refine mk_cal F gm sc (by decide) (F.bindsN fun _ _ _ _ _ _ us hl => match us, hl with | [_], _ => rfl) fun cdv A outer s H0 E δ G0 bo hr => ?_
  exact (dss_cons (ds_expr (de_callC bo C_need_store hr (by decide) (by rfl) (L2N.passes_call (L2N.takes_of rfl rfl rfl rfl) fun _ _ _ _ h => h) (by rfl) (da_cons (de_var 0) da_nil) (len_cons len_nil)))
  (dss_one (ds_ret (de_callC bo C_fresh hr (by decide) (by rfl) (L2N.passes_call (L2N.takes_of rfl rfl rfl rfl) fun _ _ _ _ h => h) (by rfl) (da_cons (de_var 0) da_nil) (len_cons len_nil)))))
theorem cal_can_use {f : Addr} {fd : FuncData} (F : FunD K "can_use" "can_use" (defArgs s_can_use) (defBody s_can_use) (defScope s_can_use) [] [] f fd) (gm : mg "can_use" = some (.ref f))  :
    Cal P w K mg base T "can_use" 1 ["store", "state", "index"] g_can_use := by
  have sc : FnScope ["store", "state", "index", "limit", "rate", "mend"] ["store", "state", "index"] (defScope s_can_use) := ⟨rfl, rfl, rfl, by decide +kernel, rfl, by decide +kernel, by decide +kernel⟩
  refine mk_cal F gm sc (by decide) (F.bindsN fun _ _ _ _ _ _ us hl => match us, hl with | [_, _, _], _ => rfl) fun cdv A outer s H0 E δ G0 bo hr => ?_
  exact (dss_cons (ds_asg (de_ix (de_var 0) (de_var 2)) (dg_tup rfl (dgs_cons (dg_name 3 sc.nd) (dgs_cons (dg_name 4 sc.nd) (dgs_cons (dg_name 5 sc.nd) dgs_nil)))) (tgOk_tp (tgsOk_cons (tgOk_n 3) (tgsOk_cons (tgOk_n 4) (tgsOk_cons (tgOk_n 5) tgsOk_nil)))))
  (dss_one (ds_ret (de_cmp od_le (de_op od_add (de_ix (de_var 1) (de_var 2)) (de_var 4)) (de_var 3)))))
theorem cal_usable_in {f : Addr} {fd : FuncData} (F : FunD K "usable_in" "usable_in" (defArgs s_usable_in) (defBody s_usable_in) (defScope s_usable_in) [] [] f fd) (gm : mg "usable_in" = some (.ref f)) (n_range : mg "range" = none) (n_len : mg "len" = none) (C_can_use : Cal P w K mg base T "can_use" 1 ["store", "state", "index"] g_can_use) :
    Cal P w K mg base T "usable_in" 2 ["store", "state"] g_usable_in := by
  have sc : FnScope ["store", "state", "index"] ["store", "state"] (defScope s_usable_in) := ⟨rfl, rfl, rfl, by decide +kernel, rfl, by decide +kernel, by decide +kernel⟩
  refine mk_cal F gm sc (by decide) (F.bindsN fun _ _ _ _ _ _ us hl => match us, hl with | [_, _], _ => rfl) fun cdv A outer s H0 E δ G0 bo hr => ?_
  exact (dss_one (ds_ret (de_lc rfl sc.nd (di_r1 (by rfl) n_range (da_cons (de_callB cd_len (by rfl) n_len bb_len (da_cons (de_var 0) da_nil)) da_nil) (hlen := (len_cons len_nil))) (blk_of (own := [("index", 2)]) (by kernel_rfl)) (fun _ _ _ _ _ => (dg_name 2 sc.nd)) (fun _ _ _ _ _ => (dpt_some (dt_val (de_callC bo C_can_use hr (by decide) (by rfl) passN (by rfl) (da_cons (de_var 0) (da_cons (de_var 1) (da_cons (de_var 2) da_nil))) (len_cons (len_cons (len_cons len_nil))))))) (fun _ _ _ _ _ => (de_var 2)))))
theorem cal_usable {f : Addr} {fd : FuncData} (F : FunD K "usable" "usable" (defArgs s_usable) (defBody s_usable) (defScope s_usable) [] [] f fd) (gm : mg "usable" = some (.ref f)) (n_tuple : mg "tuple" = none) (C_need_state : Cal P w K mg base T "need_state" 5 ["store", "state"] g_need_state) (C_usable_in : Cal P w K mg base T "usable_in" 2 ["store", "state"] g_usable_in) :
    Cal P w K mg base T "usable" 6 ["store", "state"] g_usable := by
  have sc : FnScope ["store", "state"] ["store", "state"] (defScope s_usable) := ⟨rfl, rfl, rfl, by decide +kernel, rfl, by decide +kernel, by decide +kernel⟩
  refine mk_cal F gm sc (by decide) (F.bindsN fun _ _ _ _ _ _ us hl => match us, hl with | [_, _], _ => rfl) fun cdv A outer s H0 E δ G0 bo hr => ?_
  exact (dss_cons (ds_expr (de_callC bo C_need_state hr (by decide) (by rfl) (L2N.passes_call (L2N.takes_of rfl rfl rfl rfl) fun _ _ _ _ h => h) (by rfl) (da_cons (de_var 0) (da_cons (de_var 1) da_nil)) (len_cons (len_cons len_nil))))
  (dss_one (ds_ret (de_callT cd_tuple (by rfl) n_tuple bt_tuple (da_cons (de_callC bo C_usable_in hr (by decide) (by rfl) (L2N.passes_call (L2N.takes_of rfl rfl rfl rfl) fun _ _ _ _ h => h) (by rfl) (da_cons (de_var 0) (da_cons (de_var 1) da_nil)) (len_cons (len_cons len_nil))) da_nil)))))
theorem cal_ticked {f : Addr} {fd : FuncData} (F : FunD K "ticked" "ticked" (defArgs s_ticked) (defBody s_ticked) (defScope s_ticked) [] [] f fd) (gm : mg "ticked" = some (.ref f)) (n_enumerate : mg "enumerate" = none) (n_max : mg "max" = none) (n_tuple : mg "tuple" = none) :
    Cal P w K mg base T "ticked" 1 ["store", "state", "used_one"] g_ticked := by
  have sc : FnScope ["store", "state", "used_one", "found", "index", "wear", "limit", "rate", "mend"] ["store", "state", "used_one"] (defScope s_ticked) := ⟨rfl, rfl, rfl, by decide +kernel, rfl, by decide +kernel, by decide +kernel⟩
  refine mk_cal F gm sc (by decide) (F.bindsN fun _ _ _ _ _ _ us hl => match us, hl with | [_, _, _], _ => rfl) fun cdv A outer s H0 E δ G0 bo hr => ?_
  exact (dss_cons (ds_newL 3 sc.nd da_nil)
  (dss_cons (ds_for rfl (di_e (by rfl) n_enumerate (da_cons (de_var 1) da_nil)) (dg_tup rfl (dgs_cons (dg_name 4 sc.nd) (dgs_cons (dg_name 5 sc.nd) dgs_nil))) (tgOk_tp (tgsOk_cons (tgOk_n 4) (tgsOk_cons (tgOk_n 5) tgsOk_nil))) (dss_cons (ds_asg (de_ix (de_var 0) (de_var 4)) (dg_tup rfl (dgs_cons (dg_name 6 sc.nd) (dgs_cons (dg_name 7 sc.nd) (dgs_cons (dg_name 8 sc.nd) dgs_nil)))) (tgOk_tp (tgsOk_cons (tgOk_n 6) (tgsOk_cons (tgOk_n 7) (tgsOk_cons (tgOk_n 8) tgsOk_nil)))))
  (dss_one (ds_app 3 (de_if (dt_cmp (od_eq (u64 hr)) (de_var 4) (de_var 2)) (de_op od_add (de_var 5) (de_var 7)) (de_callB (cd_max rfl) (by rfl) n_max bb_max (da_cons de_int (da_cons (de_op od_sub (de_var 5) (de_var 8)) da_nil))))))))
  (dss_one (ds_ret (de_callT cd_tuple (by rfl) n_tuple bt_tuple (da_cons (de_var 3) da_nil))))))
theorem cal_used {f : Addr} {fd : FuncData} (F : FunD K "used" "used" (defArgs s_used) (defBody s_used) (defScope s_used) [] [] f fd) (gm : mg "used" = some (.ref f)) (C_need_state : Cal P w K mg base T "need_state" 5 ["store", "state"] g_need_state) (C_need_index : Cal P w K mg base T "need_index" 2 ["store", "index"] g_need_index) (C_can_use : Cal P w K mg base T "can_use" 1 ["store", "state", "index"] g_can_use) (C_ticked : Cal P w K mg base T "ticked" 1 ["store", "state", "used_one"] g_ticked) (X_Worn : ExOk K mg .Worn) :
    Cal P w K mg base T "used" 6 ["store", "state", "index"] g_used := by
  have sc : FnScope ["store", "state", "index"] ["store", "state", "index"] (defScope s_used) := ⟨rfl, rfl, rfl, by decide +kernel, rfl, by decide +kernel, by decide +kernel⟩
  refine mk_cal F gm sc (by decide) (F.bindsN fun _ _ _ _ _ _ us hl => match us, hl with | [_, _, _], _ => rfl) fun cdv A outer s H0 E δ G0 bo hr => ?_
  exact (dss_cons (ds_expr (de_callC bo C_need_state hr (by decide) (by rfl) (L2N.passes_call (L2N.takes_of rfl rfl rfl rfl) fun _ _ _ _ h => h) (by rfl) (da_cons (de_var 0) (da_cons (de_var 1) da_nil)) (len_cons (len_cons len_nil))))
  (dss_cons (ds_expr (de_callC bo C_need_index hr (by decide) (by rfl) (L2N.passes_call (L2N.takes_of rfl rfl rfl rfl) fun _ _ _ _ h => h) (by rfl) (da_cons (de_var 0) (da_cons (de_var 2) da_nil)) (len_cons (len_cons len_nil))))
  (dss_cons (ds_if (dt_not (dt_val (de_callC bo C_can_use hr (by decide) (by rfl) (L2N.passes_call (L2N.takes_of rfl rfl rfl rfl) fun _ _ _ _ h => h) (by rfl) (da_cons (de_var 0) (da_cons (de_var 1) (da_cons (de_var 2) da_nil))) (len_cons (len_cons (len_cons len_nil)))))) (dss_one (ds_raiseX (c := .Worn) rfl rfl (L2N.takes_of rfl rfl rfl rfl) X_Worn rfl)) dss_nil)
  (dss_one (ds_ret (de_callC bo C_ticked hr (by decide) (by rfl) (L2N.passes_call (L2N.takes_of rfl rfl rfl rfl) fun _ _ _ _ h => h) (by rfl) (da_cons (de_var 0) (da_cons (de_var 1) (da_cons (de_var 2) da_nil))) (len_cons (len_cons (len_cons len_nil)))))))))
theorem cal_all_states {f : Addr} {fd : FuncData} (F : FunD K "all_states" "all_states" (defArgs s_all_states) (defBody s_all_states) (defScope s_all_states) [] [] f fd) (gm : mg "all_states" = some (.ref f)) (n_range : mg "range" = none) :
    Cal P w K mg base T "all_states" 1 ["store"] g_all_states := by
  have sc : FnScope ["store", "found", "limit", "rate", "mend", "longer", "state", "wear"] ["store"] (defScope s_all_states) := ⟨rfl, rfl, rfl, by decide +kernel, rfl, by decide +kernel, by decide +kernel⟩
  refine mk_cal F gm sc (by decide) (F.bindsN fun _ _ _ _ _ _ us hl => match us, hl with | [_], _ => rfl) fun cdv A outer s H0 E δ G0 bo hr => ?_
  exact (dss_cons (ds_set 1 sc.nd rfl (by first | exact Or.inl rfl | exact Or.inr rfl) (de_lst (da_cons (de_tup da_nil) da_nil)))
  (dss_cons (ds_for rfl (di_t (de_var 0)) (dg_tup rfl (dgs_cons (dg_name 2 sc.nd) (dgs_cons (dg_name 3 sc.nd) (dgs_cons (dg_name 4 sc.nd) dgs_nil)))) (tgOk_tp (tgsOk_cons (tgOk_n 2) (tgsOk_cons (tgOk_n 3) (tgsOk_cons (tgOk_n 4) tgsOk_nil)))) (dss_cons (ds_set 5 sc.nd rfl (by first | exact Or.inl rfl | exact Or.inr rfl) (de_lst da_nil))
  (dss_cons (ds_for rfl (di_l (de_var 1)) (dg_name 6 sc.nd) (tgOk_n 6) (dss_one (ds_set 5 sc.nd rfl (by first | exact Or.inl rfl | exact Or.inr rfl) (de_op od_add (de_var 5) (de_lc rfl sc.nd (di_r1 (by rfl) n_range (da_cons (de_op od_add (de_var 2) de_int) da_nil) (hlen := (len_cons len_nil))) (blk_of (own := [("wear", 7)]) (by kernel_rfl)) (fun _ _ _ _ _ => (dg_name 7 sc.nd)) (fun _ _ _ _ _ => dpt_none) (fun _ _ _ _ _ => (de_op od_add (de_var 6) (de_tup (da_cons (de_var 7) da_nil)))))))))
  (dss_one (ds_set 1 sc.nd rfl (by first | exact Or.inl rfl | exact Or.inr rfl) (de_var 5))))))
  (dss_one (ds_ret (de_var 1)))))
theorem cal_ranks {f : Addr} {fd : FuncData} (F : FunD K "ranks" "ranks" (defArgs s_ranks) (defBody s_ranks) (defScope s_ranks) [] [] f fd) (gm : mg "ranks" = some (.ref f)) (n_all : mg "all" = none) (C_all_states : Cal P w K mg base T "all_states" 1 ["store"] g_all_states) (C_usable_in : Cal P w K mg base T "usable_in" 2 ["store", "state"] g_usable_in) (C_ticked : Cal P w K mg base T "ticked" 1 ["store", "state", "used_one"] g_ticked) :
    Cal P w K mg base T "ranks" 3 ["store"] g_ranks := by
  have sc : FnScope ["store", "after", "state", "found", "is_new", "ticks", "ended", "index", "one"] ["store"] (defScope s_ranks) := ⟨rfl, rfl, rfl, by decide +kernel, rfl, by decide +kernel, by decide +kernel⟩
  refine mk_cal F gm sc (by decide) (F.bindsN fun _ _ _ _ _ _ us hl => match us, hl with | [_], _ => rfl) fun cdv A outer s H0 E δ G0 bo hr => ?_
  exact (dss_cons (ds_newD 1 sc.nd)
  (dss_cons (ds_for rfl (di_l (de_callC bo C_all_states hr (by decide) (by rfl) passN (by rfl) (da_cons (de_var 0) da_nil) (len_cons len_nil))) (dg_name 2 sc.nd) (tgOk_n 2) (dss_one (ds_put 1 (u2 hr) (de_var 2) (de_lc rfl sc.nd (di_l (de_callC bo C_usable_in hr (by decide) (by rfl) passN (by rfl) (da_cons (de_var 0) (da_cons (de_var 2) da_nil)) (len_cons (len_cons len_nil)))) (blk_of (own := [("index", 7)]) (by kernel_rfl)) (fun _ _ _ _ _ => (dg_name 7 sc.nd)) (fun _ _ _ _ _ => dpt_none) (fun _ _ _ _ _ => (de_callC bo C_ticked hr (by decide) (by rfl) passN (by rfl) (da_cons (de_var 0) (da_cons (de_var 2) (da_cons (de_var 7) da_nil))) (len_cons (len_cons (len_cons len_nil)))))))))
  (dss_cons (ds_parT (is := [3, 4, 5]) rfl (dn_newD (dn_dat de_bool (dn_dat de_int dn_nil))) (pgs_cons (pg_name (i := 3) sc.nd rfl (by first | exact Or.inl rfl | exact Or.inr rfl) (by first | exact .inl rfl | exact .inr rfl)) (pgs_cons (pg_name (i := 4) sc.nd rfl (by first | exact Or.inl rfl | exact Or.inr rfl) (by first | exact .inl rfl | exact .inr rfl)) (pgs_cons (pg_name (i := 5) sc.nd rfl (by first | exact Or.inl rfl | exact Or.inr rfl) (by first | exact .inl rfl | exact .inr rfl)) pgs_nil rfl) rfl) rfl))
  (dss_cons (ds_while fuel (dt_val (de_var 4)) (dss_cons (ds_lcK 6 1 rfl sc.nd rfl rfl rfl rfl (.inr (.inl rfl)) (blk_of (own := [("state", 2)]) (by kernel_rfl)) (fun _ _ _ _ _ => (dg_name 2 sc.nd)) (fun _ _ _ _ _ => dpt_some (dt_w (dw_and (dt_cmp (od_notin (u65 hr)) (de_var 2) (de_var 3)) (dw_and1 (dt_val (de_callB (cd_all rfl) (by rfl) n_all bb_all (da_cons (de_lc rfl sc.nd (di_l (de_dget (u2 hr) (de_var 1) (de_var 2))) (blk_of (own := [("one", 8)]) (by kernel_rfl)) (fun _ _ _ _ _ => (dg_name 8 sc.nd)) (fun _ _ _ _ _ => dpt_none) (fun _ _ _ _ _ => (de_cmp (od_in (u65 hr)) (de_var 8) (de_var 3)))) da_nil))))))) (fun _ _ _ _ _ => (de_var 2)))
  (dss_cons (ds_for rfl (di_l (de_var 6)) (dg_name 2 sc.nd) (tgOk_n 2) (dss_one (ds_put 3 (u2 hr) (de_var 2) (de_var 5))))
  (dss_one (ds_par2 rfl sc.nd (i := 4) (j := 5) rfl rfl (by decide) rfl rfl (dn_dat (de_cmp (od_ne (u64 hr)) (de_var 6) (de_lst da_nil)) (dn_dat (de_op od_add (de_var 5) de_int) dn_nil)) rfl)))))
  (dss_one (ds_retV 3))))))
theorem cal_longest {f : Addr} {fd : FuncData} (F : FunD K "longest" "longest" (defArgs s_longest) (defBody s_longest) (defScope s_longest) [] [] f fd) (gm : mg "longest" = some (.ref f)) (n_tuple : mg "tuple" = none) (C_need_state : Cal P w K mg base T "need_state" 5 ["store", "state"] g_need_state) (C_ranks : Cal P w K mg base T "ranks" 3 ["store"] g_ranks) (C_usable_in : Cal P w K mg base T "usable_in" 2 ["store", "state"] g_usable_in) (C_ticked : Cal P w K mg base T "ticked" 1 ["store", "state", "used_one"] g_ticked) (X_ForEver : ExOk K mg .ForEver) :
    Cal P w K mg base T "longest" 6 ["store", "state"] g_longest := by
  have sc : FnScope ["store", "state", "known", "found", "some", "index"] ["store", "state"] (defScope s_longest) := ⟨rfl, rfl, rfl, by decide +kernel, rfl, by decide +kernel, by decide +kernel⟩
  refine mk_cal F gm sc (by decide) (F.bindsN fun _ _ _ _ _ _ us hl => match us, hl with | [_, _], _ => rfl) fun cdv A outer s H0 E δ G0 bo hr => ?_
  exact (dss_cons (ds_expr (de_callC bo C_need_state hr (by decide) (by rfl) (L2N.passes_call (L2N.takes_of rfl rfl rfl rfl) fun _ _ _ _ h => h) (by rfl) (da_cons (de_var 0) (da_cons (de_var 1) da_nil)) (len_cons (len_cons len_nil))))
  (dss_cons (ds_set 2 sc.nd rfl (by first | exact Or.inl rfl | exact Or.inr rfl) (de_callC bo C_ranks hr (by decide) (by rfl) (L2N.passes_call (L2N.takes_of rfl rfl rfl rfl) fun _ _ _ _ h => h) (by rfl) (da_cons (de_var 0) da_nil) (len_cons len_nil)))
  (dss_cons (ds_if (dt_cmp (od_notin (u65 hr)) (de_var 1) (de_var 2)) (dss_one (ds_raiseX (c := .ForEver) rfl rfl (L2N.takes_of rfl rfl rfl rfl) X_ForEver rfl)) dss_nil)
  (dss_cons (ds_newL 3 sc.nd da_nil)
  (dss_cons (ds_while fuel (dt_cmp od_gt (de_dget (u2 hr) (de_var 2) (de_var 1)) de_int) (dss_cons (ds_setLc 4 rfl sc.nd rfl rfl rfl (di_l (de_callC bo C_usable_in hr (by decide) (by rfl) passN (by rfl) (da_cons (de_var 0) (da_cons (de_var 1) da_nil)) (len_cons (len_cons len_nil)))) (blk_of (own := [("index", 5)]) (by kernel_rfl)) (fun _ _ _ _ _ => (dg_name 5 sc.nd)) (fun _ _ _ _ _ => (dpt_some (dt_cmp (od_eq (u64 hr)) (de_dget (u2 hr) (de_var 2) (de_callC bo C_ticked hr (by decide) (by rfl) passN (by rfl) (da_cons (de_var 0) (da_cons (de_var 1) (da_cons (de_var 5) da_nil))) (len_cons (len_cons (len_cons len_nil))))) (de_op od_sub (de_dget (u2 hr) (de_var 2) (de_var 1)) de_int)))) (fun _ _ _ _ _ => (de_var 5)))
  (dss_cons (ds_app 3 (de_ix (de_var 4) de_int))
  (dss_one (ds_set 1 sc.nd rfl (by first | exact Or.inl rfl | exact Or.inr rfl) (de_callC bo C_ticked hr (by decide) (by rfl) passN (by rfl) (da_cons (de_var 0) (da_cons (de_var 1) (da_cons (de_ix (de_var 4) de_int) da_nil))) (len_cons (len_cons (len_cons len_nil)))))))))
  (dss_one (ds_ret (de_callT cd_tuple (by rfl) n_tuple bt_tuple (da_cons (de_var 3) da_nil)))))))))
theorem cal_course {f : Addr} {fd : FuncData} (F : FunD K "course" "course" (defArgs s_course) (defBody s_course) (defScope s_course) [] [] f fd) (gm : mg "course" = some (.ref f)) (n_len : mg "len" = none) (C_need_state : Cal P w K mg base T "need_state" 5 ["store", "state"] g_need_state) (C_ranks : Cal P w K mg base T "ranks" 3 ["store"] g_ranks) (C_usable_in : Cal P w K mg base T "usable_in" 2 ["store", "state"] g_usable_in) (C_ticked : Cal P w K mg base T "ticked" 1 ["store", "state", "used_one"] g_ticked) (X_Ends : ExOk K mg .Ends) :
    Cal P w K mg base T "course" 6 ["store", "state"] g_course := by
  have sc : FnScope ["store", "state", "known", "places", "uses", "some", "index"] ["store", "state"] (defScope s_course) := ⟨rfl, rfl, rfl, by decide +kernel, rfl, by decide +kernel, by decide +kernel⟩
  refine mk_cal F gm sc (by decide) (F.bindsN fun _ _ _ _ _ _ us hl => match us, hl with | [_, _], _ => rfl) fun cdv A outer s H0 E δ G0 bo hr => ?_
  exact (dss_cons (ds_expr (de_callC bo C_need_state hr (by decide) (by rfl) (L2N.passes_call (L2N.takes_of rfl rfl rfl rfl) fun _ _ _ _ h => h) (by rfl) (da_cons (de_var 0) (da_cons (de_var 1) da_nil)) (len_cons (len_cons len_nil))))
  (dss_cons (ds_set 2 sc.nd rfl (by first | exact Or.inl rfl | exact Or.inr rfl) (de_callC bo C_ranks hr (by decide) (by rfl) (L2N.passes_call (L2N.takes_of rfl rfl rfl rfl) fun _ _ _ _ h => h) (by rfl) (da_cons (de_var 0) da_nil) (len_cons len_nil)))
  (dss_cons (ds_if (dt_cmp (od_in (u65 hr)) (de_var 1) (de_var 2)) (dss_one (ds_raiseX (c := .Ends) rfl rfl (L2N.takes_of rfl rfl rfl rfl) X_Ends rfl)) dss_nil)
  (dss_cons (ds_par2 rfl sc.nd (i := 3) (j := 4) rfl rfl (by decide) rfl rfl (dn_newD (dn_dat (de_tup da_nil) dn_nil)) rfl)
  (dss_cons (ds_while fuel (dt_cmp (od_notin (u65 hr)) (de_var 1) (de_var 3)) (dss_cons (ds_put 3 (u2 hr) (de_var 1) (de_callB cd_len (by rfl) n_len bb_len (da_cons (de_var 4) da_nil)))
  (dss_cons (ds_setLc 5 rfl sc.nd rfl rfl rfl (di_l (de_callC bo C_usable_in hr (by decide) (by rfl) passN (by rfl) (da_cons (de_var 0) (da_cons (de_var 1) da_nil)) (len_cons (len_cons len_nil)))) (blk_of (own := [("index", 6)]) (by kernel_rfl)) (fun _ _ _ _ _ => (dg_name 6 sc.nd)) (fun _ _ _ _ _ => (dpt_some (dt_cmp (od_notin (u65 hr)) (de_callC bo C_ticked hr (by decide) (by rfl) passN (by rfl) (da_cons (de_var 0) (da_cons (de_var 1) (da_cons (de_var 6) da_nil))) (len_cons (len_cons (len_cons len_nil)))) (de_var 2)))) (fun _ _ _ _ _ => (de_var 6)))
  (dss_cons (ds_set 4 sc.nd rfl (by first | exact Or.inl rfl | exact Or.inr rfl) (de_op od_add (de_var 4) (de_tup (da_cons (de_ix (de_var 5) de_int) da_nil))))
  (dss_one (ds_set 1 sc.nd rfl (by first | exact Or.inl rfl | exact Or.inr rfl) (de_callC bo C_ticked hr (by decide) (by rfl) passN (by rfl) (da_cons (de_var 0) (da_cons (de_var 1) (da_cons (de_ix (de_var 5) de_int) da_nil))) (len_cons (len_cons (len_cons len_nil))))))))))
  (dss_one (ds_ret (de_tup (da_cons (de_sl (de_var 4) trivial (de_dget (u2 hr) (de_var 3) (de_var 1))) (da_cons (de_sl (de_var 4) (de_dget (u2 hr) (de_var 3) (de_var 1)) trivial) da_nil))))))))))
theorem cal_need_rule {f : Addr} {fd : FuncData} (F : FunD K "need_rule" "need_rule" (defArgs s_need_rule) (defBody s_need_rule) (defScope s_need_rule) [] [] f fd) (gm : mg "need_rule" = some (.ref f)) (n_isinstance : mg "isinstance" = none) (n_str : mg "str" = none) (X_InvalidRule : ExOk K mg .InvalidRule) :
    Cal P w K mg base T "need_rule" 1 ["rule"] g_need_rule := by
  have sc : FnScope ["rule"] ["rule"] (defScope s_need_rule) := ⟨rfl, rfl, rfl, by decide +kernel, rfl, by decide +kernel, by decide +kernel⟩
  refine mk_cal F gm sc (by decide) (F.bindsN fun _ _ _ _ _ _ us hl => match us, hl with | [_], _ => rfl) fun cdv A outer s H0 E δ G0 bo hr => ?_
  exact (dss_one (ds_if (dt_w (dw_or (dt_not (dt_val (de_ist (t := "str") (by rfl) n_isinstance (by rfl) n_str bt_str (de_var 0)))) (dw_or1 (dt_cmp (od_notin (u65 hr)) (de_var 0) (de_tup (da_cons de_str (da_cons de_str (da_cons de_str da_nil)))))))) (dss_one (ds_raiseX (c := .InvalidRule) rfl rfl (L2N.takes_of rfl rfl rfl rfl) X_InvalidRule rfl)) dss_nil))
theorem cal_chosen {f : Addr} {fd : FuncData} (F : FunD K "chosen" "chosen" (defArgs s_chosen) (defBody s_chosen) (defScope s_chosen) [] [] f fd) (gm : mg "chosen" = some (.ref f)) (n_min : mg "min" = none) (C_usable_in : Cal P w K mg base T "usable_in" 2 ["store", "state"] g_usable_in) :
    Cal P w K mg base T "chosen" 3 ["store", "state", "rule"] g_chosen := by
  have sc : FnScope ["store", "state", "rule", "some", "index"] ["store", "state", "rule"] (defScope s_chosen) := ⟨rfl, rfl, rfl, by decide +kernel, rfl, by decide +kernel, by decide +kernel⟩
  refine mk_cal F gm sc (by decide) (F.bindsN fun _ _ _ _ _ _ us hl => match us, hl with | [_, _, _], _ => rfl) fun cdv A outer s H0 E δ G0 bo hr => ?_
  exact (dss_cons (ds_set 3 sc.nd rfl (by first | exact Or.inl rfl | exact Or.inr rfl) (de_callC bo C_usable_in hr (by decide) (by rfl) (L2N.passes_call (L2N.takes_of rfl rfl rfl rfl) fun _ _ _ _ h => h) (by rfl) (da_cons (de_var 0) (da_cons (de_var 1) da_nil)) (len_cons (len_cons len_nil))))
  (dss_cons (ds_if (dt_cmp (od_eq (u64 hr)) (de_var 3) (de_lst da_nil)) (dss_one (ds_ret de_none)) dss_nil)
  (dss_cons (ds_if (dt_cmp (od_eq (u64 hr)) (de_var 2) de_str) (dss_one (ds_ret (de_ix (de_callB (cd_minP rfl (u16 hr)) (by rfl) n_min bb_min (da_cons (de_lc rfl sc.nd (di_l (de_var 3)) (blk_of (own := [("index", 4)]) (by kernel_rfl)) (fun _ _ _ _ _ => (dg_name 4 sc.nd)) (fun _ _ _ _ _ => dpt_none) (fun _ _ _ _ _ => (de_tup (da_cons (de_ix (de_var 1) (de_var 4)) (da_cons (de_var 4) da_nil))))) da_nil)) de_int))) dss_nil)
  (dss_cons (ds_if (dt_cmp (od_eq (u64 hr)) (de_var 2) de_str) (dss_one (ds_ret (de_ix (de_callB (cd_minP rfl (u16 hr)) (by rfl) n_min bb_min (da_cons (de_lc rfl sc.nd (di_l (de_var 3)) (blk_of (own := [("index", 4)]) (by kernel_rfl)) (fun _ _ _ _ _ => (dg_name 4 sc.nd)) (fun _ _ _ _ _ => dpt_none) (fun _ _ _ _ _ => (de_tup (da_cons (de_op od_sub (de_ix (de_var 1) (de_var 4)) (de_ix (de_ix (de_var 0) (de_var 4)) de_int)) (da_cons (de_var 4) da_nil))))) da_nil)) de_int))) dss_nil)
  (dss_one (ds_ret (de_ix (de_var 3) de_int)))))))
theorem cal_choice {f : Addr} {fd : FuncData} (F : FunD K "choice" "choice" (defArgs s_choice) (defBody s_choice) (defScope s_choice) [] [] f fd) (gm : mg "choice" = some (.ref f)) (C_need_state : Cal P w K mg base T "need_state" 5 ["store", "state"] g_need_state) (C_need_rule : Cal P w K mg base T "need_rule" 1 ["rule"] g_need_rule) (C_chosen : Cal P w K mg base T "chosen" 3 ["store", "state", "rule"] g_chosen) :
    Cal P w K mg base T "choice" 6 ["store", "state", "rule"] g_choice := by
  have sc : FnScope ["store", "state", "rule"] ["store", "state", "rule"] (defScope s_choice) := ⟨rfl, rfl, rfl, by decide +kernel, rfl, by decide +kernel, by decide +kernel⟩
  refine mk_cal F gm sc (by decide) (F.bindsN fun _ _ _ _ _ _ us hl => match us, hl with | [_, _, _], _ => rfl) fun cdv A outer s H0 E δ G0 bo hr => ?_
  exact (dss_cons (ds_expr (de_callC bo C_need_state hr (by decide) (by rfl) (L2N.passes_call (L2N.takes_of rfl rfl rfl rfl) fun _ _ _ _ h => h) (by rfl) (da_cons (de_var 0) (da_cons (de_var 1) da_nil)) (len_cons (len_cons len_nil))))
  (dss_cons (ds_expr (de_callC bo C_need_rule hr (by decide) (by rfl) (L2N.passes_call (L2N.takes_of rfl rfl rfl rfl) fun _ _ _ _ h => h) (by rfl) (da_cons (de_var 2) da_nil) (len_cons len_nil)))
  (dss_one (ds_ret (de_callC bo C_chosen hr (by decide) (by rfl) (L2N.passes_call (L2N.takes_of rfl rfl rfl rfl) fun _ _ _ _ h => h) (by rfl) (da_cons (de_var 0) (da_cons (de_var 1) (da_cons (de_var 2) da_nil))) (len_cons (len_cons (len_cons len_nil))))))))
theorem cal_run {f : Addr} {fd : FuncData} (F : FunD K "run" "run" (defArgs s_run) (defBody s_run) (defScope s_run) [] [] f fd) (gm : mg "run" = some (.ref f)) (n_range : mg "range" = none) (C_need_state : Cal P w K mg base T "need_state" 5 ["store", "state"] g_need_state) (C_need_rule : Cal P w K mg base T "need_rule" 1 ["rule"] g_need_rule) (C_is_whole : Cal P w K mg base T "is_whole" 1 ["value", "low", "high"] g_is_whole) (C_chosen : Cal P w K mg base T "chosen" 3 ["store", "state", "rule"] g_chosen) (C_ticked : Cal P w K mg base T "ticked" 1 ["store", "state", "used_one"] g_ticked) (X_InvalidTicks : ExOk K mg .InvalidTicks) :
    Cal P w K mg base T "run" 6 ["store", "state", "rule", "ticks"] g_run := by
  have sc : FnScope ["store", "state", "rule", "ticks", "found", "turn", "index"] ["store", "state", "rule", "ticks"] (defScope s_run) := ⟨rfl, rfl, rfl, by decide +kernel, rfl, by decide +kernel, by decide +kernel⟩
  refine mk_cal F gm sc (by decide) (F.bindsN fun _ _ _ _ _ _ us hl => match us, hl with | [_, _, _, _], _ => rfl) fun cdv A outer s H0 E δ G0 bo hr => ?_
  exact (dss_cons (ds_expr (de_callC bo C_need_state hr (by decide) (by rfl) (L2N.passes_call (L2N.takes_of rfl rfl rfl rfl) fun _ _ _ _ h => h) (by rfl) (da_cons (de_var 0) (da_cons (de_var 1) da_nil)) (len_cons (len_cons len_nil))))
  (dss_cons (ds_expr (de_callC bo C_need_rule hr (by decide) (by rfl) (L2N.passes_call (L2N.takes_of rfl rfl rfl rfl) fun _ _ _ _ h => h) (by rfl) (da_cons (de_var 2) da_nil) (len_cons len_nil)))
  (dss_cons (ds_if (dt_not (dt_val (de_callC bo C_is_whole hr (by decide) (by rfl) (L2N.passes_call (L2N.takes_of rfl rfl rfl rfl) fun _ _ _ _ h => h) (by rfl) (da_cons (de_var 3) (da_cons de_int (da_cons de_int da_nil))) (len_cons (len_cons (len_cons len_nil)))))) (dss_one (ds_raiseX (c := .InvalidTicks) rfl rfl (L2N.takes_of rfl rfl rfl rfl) X_InvalidTicks rfl)) dss_nil)
  (dss_cons (ds_set 4 sc.nd rfl (by first | exact Or.inl rfl | exact Or.inr rfl) (de_tup da_nil))
  (dss_cons (ds_for rfl (di_r1 (by rfl) n_range (da_cons (de_var 3) da_nil) (hlen := (len_cons len_nil))) (dg_name 5 sc.nd) (tgOk_n 5) (dss_cons (ds_set 6 sc.nd rfl (by first | exact Or.inl rfl | exact Or.inr rfl) (de_callC bo C_chosen hr (by decide) (by rfl) passN (by rfl) (da_cons (de_var 0) (da_cons (de_var 1) (da_cons (de_var 2) da_nil))) (len_cons (len_cons (len_cons len_nil)))))
  (dss_cons (ds_if (dt_cmp od_is (de_var 6) de_none) (dss_one (ds_ret (de_var 4))) dss_nil)
  (dss_one (ds_par2 rfl sc.nd (i := 4) (j := 1) rfl rfl (by decide) rfl rfl (dn_dat (de_op od_add (de_var 4) (de_tup (da_cons (de_var 6) da_nil))) (dn_dat (de_callC bo C_ticked hr (by decide) (by rfl) passN (by rfl) (da_cons (de_var 0) (da_cons (de_var 1) (da_cons (de_var 6) da_nil))) (len_cons (len_cons (len_cons len_nil)))) dn_nil)) rfl)))))
  (dss_one (ds_ret (de_var 4))))))))
theorem cal_Bench___init__ {f : Addr} {fd : FuncData} (F : FunD K "__init__" "Bench.__init__" (defArgs s_Bench___init__) (defBody s_Bench___init__) (defScope s_Bench___init__) [] [] f fd) (mk : Mk K (He.ga K "Bench") f) (gC : mg "Bench" = some (.ref (He.ga K "Bench"))) (C_need_store : Cal P w K mg base T "need_store" 4 ["store"] g_need_store) (C_fresh : Cal P w K mg base T "fresh" 1 ["store"] g_fresh) (bc : Cls K (He.ga K "Bench")) (A_store : NoAttr K (He.ga K "Bench") "store") (A_now : NoAttr K (He.ga K "Bench") "now") (A_earlier : NoAttr K (He.ga K "Bench") "earlier") (A_undone : NoAttr K (He.ga K "Bench") "undone") :
    CalI P w K mg base T 5 ["self", "store"] g_Bench___init__ := by
  have sc : FnScope ["self", "store"] ["self", "store"] (defScope s_Bench___init__) := ⟨rfl, rfl, rfl, by decide +kernel, rfl, by decide +kernel, by decide +kernel⟩
  refine mk_calI F mk gC sc (by decide) (F.bindsN fun _ _ _ _ _ _ us hl => match us, hl with | [_, _], _ => rfl) fun cdv A outer s H0 E δ G0 bo hr => ?_
  exact (dss_cons (ds_expr (de_callC bo C_need_store hr (by decide) (by rfl) (L2N.passes_call (L2N.takes_of rfl rfl rfl rfl) fun _ _ _ _ h => h) (by rfl) (da_cons (de_var 1) da_nil) (len_cons len_nil)))
  (dss_cons (ds_fld 0 bo bc A_store (de_var 1))
  (dss_cons (ds_fld 0 bo bc A_now (de_callC bo C_fresh hr (by decide) (by rfl) (L2N.passes_call (L2N.takes_of rfl rfl rfl rfl) fun _ _ _ _ h => h) (by rfl) (da_cons (de_var 1) da_nil) (len_cons len_nil)))
  (dss_cons (ds_fld 0 bo bc A_earlier (de_lst da_nil))
  (dss_one (ds_fld 0 bo bc A_undone (de_lst da_nil)))))))
theorem cal_Bench_redo {f : Addr} {fd : FuncData} (F : FunD K "redo" "Bench.redo" (defArgs s_Bench_redo) (defBody s_Bench_redo) (defScope s_Bench_redo) [] [] f fd) (gm : Meth K (He.ga K "Bench") "redo" f) (X_NothingToUndo : ExOk K mg .NothingToUndo) (bc : Cls K (He.ga K "Bench")) (A_undone : NoAttr K (He.ga K "Bench") "undone") (A_earlier : NoAttr K (He.ga K "Bench") "earlier") (A_now : NoAttr K (He.ga K "Bench") "now") :
    CalM P w K mg base T "redo" 1 ["self"] g_Bench_redo := by
  have sc : FnScope ["self"] ["self"] (defScope s_Bench_redo) := ⟨rfl, rfl, rfl, by decide +kernel, rfl, by decide +kernel, by decide +kernel⟩
  refine mk_calM F gm sc (by decide) (F.bindsN fun _ _ _ _ _ _ us hl => match us, hl with | [_], _ => rfl) fun cdv A outer s H0 E δ G0 bo hr => ?_
  exact (dss_cons (ds_if (dt_cmp (od_eq (u64 hr)) (de_fld 0 bo bc A_undone) (de_lst da_nil)) (dss_one (ds_raiseX (c := .NothingToUndo) rfl rfl (L2N.takes_of rfl rfl rfl rfl) X_NothingToUndo rfl)) dss_nil)
  (dss_cons (ds_fld 0 bo bc A_earlier (de_op od_add (de_fld 0 bo bc A_earlier) (de_lst (da_cons (de_fld 0 bo bc A_now) da_nil))))
  (dss_cons (ds_fld 0 bo bc A_now (de_ix (de_fld 0 bo bc A_undone) (de_neg de_int)))
  (dss_cons (ds_fld 0 bo bc A_undone (de_sl (de_fld 0 bo bc A_undone) trivial (de_neg de_int)))
  (dss_one (ds_ret (de_fld 0 bo bc A_now)))))))
theorem cal_with_part {f : Addr} {fd : FuncData} (F : FunD K "with_part" "with_part" (defArgs s_with_part) (defBody s_with_part) (defScope s_with_part) [] [] f fd) (gm : mg "with_part" = some (.ref f)) (n_len : mg "len" = none) (C_need_store : Cal P w K mg base T "need_store" 4 ["store"] g_need_store) (C_need_part : Cal P w K mg base T "need_part" 3 ["part"] g_need_part) (X_TooMany : ExOk K mg .TooMany) :
    Cal P w K mg base T "with_part" 5 ["store", "part"] g_with_part := by
  have sc : FnScope ["store", "part"] ["store", "part"] (defScope s_with_part) := ⟨rfl, rfl, rfl, by decide +kernel, rfl, by decide +kernel, by decide +kernel⟩
  refine mk_cal F gm sc (by decide) (F.bindsN fun _ _ _ _ _ _ us hl => match us, hl with | [_, _], _ => rfl) fun cdv A outer s H0 E δ G0 bo hr => ?_
  exact (dss_cons (ds_expr (de_callC bo C_need_store hr (by decide) (by rfl) (L2N.passes_call (L2N.takes_of rfl rfl rfl rfl) fun _ _ _ _ h => h) (by rfl) (da_cons (de_var 0) da_nil) (len_cons len_nil)))
  (dss_cons (ds_expr (de_callC bo C_need_part hr (by decide) (by rfl) (L2N.passes_call (L2N.takes_of rfl rfl rfl rfl) fun _ _ _ _ h => h) (by rfl) (da_cons (de_var 1) da_nil) (len_cons len_nil)))
  (dss_cons (ds_if (dt_cmp (od_eq (u64 hr)) (de_callB cd_len (by rfl) n_len bb_len (da_cons (de_var 0) da_nil)) de_int) (dss_one (ds_raiseX (c := .TooMany) rfl rfl (L2N.takes_of rfl rfl rfl rfl) X_TooMany rfl)) dss_nil)
  (dss_one (ds_ret (de_op od_add (de_var 0) (de_tup (da_cons (de_var 1) da_nil))))))))
theorem cal_is_demand {f : Addr} {fd : FuncData} (F : FunD K "is_demand" "is_demand" (defArgs s_is_demand) (defBody s_is_demand) (defScope s_is_demand) [] [] f fd) (gm : mg "is_demand" = some (.ref f)) (n_isinstance : mg "isinstance" = none) (n_tuple : mg "tuple" = none) (n_len : mg "len" = none) (n_all : mg "all" = none) (C_is_whole : Cal P w K mg base T "is_whole" 1 ["value", "low", "high"] g_is_whole) :
    Cal P w K mg base T "is_demand" 2 ["value"] g_is_demand := by
  have sc : FnScope ["value", "one"] ["value"] (defScope s_is_demand) := ⟨rfl, rfl, rfl, by decide +kernel, rfl, by decide +kernel, by decide +kernel⟩
  refine mk_cal F gm sc (by decide) (F.bindsN fun _ _ _ _ _ _ us hl => match us, hl with | [_], _ => rfl) fun cdv A outer s H0 E δ G0 bo hr => ?_
  exact (dss_cons (ds_if (dt_w (dw_or (dt_not (dt_val (de_ist (t := "tuple") (by rfl) n_isinstance (by rfl) n_tuple bt_tuple (de_var 0)))) (dw_or (dt_not (dt_chain od_le od_le de_int (de_callB cd_len (by rfl) n_len bb_len (da_cons (de_var 0) da_nil)) de_int)) (dw_or1 (dt_not (dt_val (de_callB (cd_all rfl) (by rfl) n_all bb_all (da_cons (de_lc rfl sc.nd (di_t (de_var 0)) (blk_of (own := [("one", 1)]) (by kernel_rfl)) (fun _ _ _ _ _ => (dg_name 1 sc.nd)) (fun _ _ _ _ _ => dpt_none) (fun _ _ _ _ _ => (de_callC bo C_is_whole hr (by decide) (by rfl) passN (by rfl) (da_cons (de_var 1) (da_cons de_int (da_cons de_int da_nil))) (len_cons (len_cons (len_cons len_nil)))))) da_nil)))))))) (dss_one (ds_ret de_bool)) dss_nil)
  (dss_one (ds_ret (de_cmp (od_in (u65 hr)) de_int (de_var 0)))))
theorem cal_need_demand {f : Addr} {fd : FuncData} (F : FunD K "need_demand" "need_demand" (defArgs s_need_demand) (defBody s_need_demand) (defScope s_need_demand) [] [] f fd) (gm : mg "need_demand" = some (.ref f)) (C_is_demand : Cal P w K mg base T "is_demand" 2 ["value"] g_is_demand) (X_InvalidDemand : ExOk K mg .InvalidDemand) :
    Cal P w K mg base T "need_demand" 3 ["demand"] g_need_demand := by
  have sc : FnScope ["demand"] ["demand"] (defScope s_need_demand) := ⟨rfl, rfl, rfl, by decide +kernel, rfl, by decide +kernel, by decide +kernel⟩
  refine mk_cal F gm sc (by decide) (F.bindsN fun _ _ _ _ _ _ us hl => match us, hl with | [_], _ => rfl) fun cdv A outer s H0 E δ G0 bo hr => ?_
  exact (dss_one (ds_if (dt_not (dt_val (de_callC bo C_is_demand hr (by decide) (by rfl) (L2N.passes_call (L2N.takes_of rfl rfl rfl rfl) fun _ _ _ _ h => h) (by rfl) (da_cons (de_var 0) da_nil) (len_cons len_nil)))) (dss_one (ds_raiseX (c := .InvalidDemand) rfl rfl (L2N.takes_of rfl rfl rfl rfl) X_InvalidDemand rfl)) dss_nil))
theorem cal_served {f : Addr} {fd : FuncData} (F : FunD K "served" "served" (defArgs s_served) (defBody s_served) (defScope s_served) [] [] f fd) (gm : mg "served" = some (.ref f)) (n_len : mg "len" = none) (n_range : mg "range" = none) (n_all : mg "all" = none) (n_max : mg "max" = none) (C_all_states : Cal P w K mg base T "all_states" 1 ["store"] g_all_states) (C_usable_in : Cal P w K mg base T "usable_in" 2 ["store", "state"] g_usable_in) (C_ticked : Cal P w K mg base T "ticked" 1 ["store", "state", "used_one"] g_ticked) :
    Cal P w K mg base T "served" 3 ["store", "demand"] g_served := by
  have sc : FnScope ["store", "demand", "after", "size", "state", "found", "is_new", "place", "ended", "spot", "some", "index", "one"] ["store", "demand"] (defScope s_served) := ⟨rfl, rfl, rfl, by decide +kernel, rfl, by decide +kernel, by decide +kernel⟩
  refine mk_cal F gm sc (by decide) (F.bindsN fun _ _ _ _ _ _ us hl => match us, hl with | [_, _], _ => rfl) fun cdv A outer s H0 E δ G0 bo hr => ?_
  exact (dss_cons (ds_parT (is := [2, 3]) rfl (dn_newD (dn_dat (de_callB cd_len (by rfl) n_len bb_len (da_cons (de_var 1) da_nil)) dn_nil)) (pgs_cons (pg_name (i := 2) sc.nd rfl (by first | exact Or.inl rfl | exact Or.inr rfl) (by first | exact .inl rfl | exact .inr rfl)) (pgs_cons (pg_name (i := 3) sc.nd rfl (by first | exact Or.inl rfl | exact Or.inr rfl) (by first | exact .inl rfl | exact .inr rfl)) pgs_nil rfl) rfl))
  (dss_cons (ds_for rfl (di_l (de_callC bo C_all_states hr (by decide) (by rfl) passN (by rfl) (da_cons (de_var 0) da_nil) (len_cons len_nil))) (dg_name 4 sc.nd) (tgOk_n 4) (dss_one (ds_for rfl (di_r1 (by rfl) n_range (da_cons (de_var 3) da_nil) (hlen := (len_cons len_nil))) (dg_name 7 sc.nd) (tgOk_n 7) (dss_cons (ds_set 10 sc.nd rfl (by first | exact Or.inl rfl | exact Or.inr rfl) (de_if (dt_cmp (od_eq (u64 hr)) (de_ix (de_var 1) (de_var 7)) de_int) (de_callC bo C_usable_in hr (by decide) (by rfl) passN (by rfl) (da_cons (de_var 0) (da_cons (de_var 4) da_nil)) (len_cons (len_cons len_nil))) (de_lst (da_cons de_none da_nil))))
  (dss_one (ds_put 2 (u2 hr) (de_tup (da_cons (de_var 4) (da_cons (de_var 7) da_nil))) (de_lc rfl sc.nd (di_l (de_var 10)) (blk_of (own := [("index", 11)]) (by kernel_rfl)) (fun _ _ _ _ _ => (dg_name 11 sc.nd)) (fun _ _ _ _ _ => dpt_none) (fun _ _ _ _ _ => (de_tup (da_cons (de_callC bo C_ticked hr (by decide) (by rfl) passN (by rfl) (da_cons (de_var 0) (da_cons (de_var 4) (da_cons (de_var 11) da_nil))) (len_cons (len_cons (len_cons len_nil)))) (da_cons (de_op od_mod (de_op od_add (de_var 7) de_int) (de_var 3)) da_nil)))))))))))
  (dss_cons (ds_parT (is := [5, 6]) rfl (dn_newD (dn_dat de_bool dn_nil)) (pgs_cons (pg_name (i := 5) sc.nd rfl (by first | exact Or.inl rfl | exact Or.inr rfl) (by first | exact .inl rfl | exact .inr rfl)) (pgs_cons (pg_name (i := 6) sc.nd rfl (by first | exact Or.inl rfl | exact Or.inr rfl) (by first | exact .inl rfl | exact .inr rfl)) pgs_nil rfl) rfl))
  (dss_cons (ds_while fuel (dt_val (de_var 6)) (dss_cons (ds_lcK 8 2 rfl sc.nd rfl rfl rfl rfl (.inr (.inl rfl)) (blk_of (own := [("spot", 9)]) (by kernel_rfl)) (fun _ _ _ _ _ => (dg_name 9 sc.nd)) (fun _ _ _ _ _ => dpt_some (dt_w (dw_and (dt_cmp (od_notin (u65 hr)) (de_var 9) (de_var 5)) (dw_and1 (dt_val (de_callB (cd_all rfl) (by rfl) n_all bb_all (da_cons (de_lc rfl sc.nd (di_l (de_dget (u2 hr) (de_var 2) (de_var 9))) (blk_of (own := [("one", 12)]) (by kernel_rfl)) (fun _ _ _ _ _ => (dg_name 12 sc.nd)) (fun _ _ _ _ _ => dpt_none) (fun _ _ _ _ _ => (de_cmp (od_in (u65 hr)) (de_var 12) (de_var 5)))) da_nil))))))) (fun _ _ _ _ _ => (de_var 9)))
  (dss_cons (ds_for rfl (di_l (de_var 8)) (dg_name 9 sc.nd) (tgOk_n 9) (dss_one (ds_put 5 (u2 hr) (de_var 9) (de_callB (cd_max rfl) (by rfl) n_max bb_max (da_cons (de_op od_add (de_lst (da_cons de_int da_nil)) (de_lc rfl sc.nd (di_l (de_dget (u2 hr) (de_var 2) (de_var 9))) (blk_of (own := [("one", 12)]) (by kernel_rfl)) (fun _ _ _ _ _ => (dg_name 12 sc.nd)) (fun _ _ _ _ _ => dpt_none) (fun _ _ _ _ _ => (de_op od_add (de_dget (u2 hr) (de_var 5) (de_var 12)) (de_ix (de_var 1) (de_ix (de_var 9) de_int)))))) da_nil)))))
  (dss_one (ds_set 6 sc.nd rfl (by first | exact Or.inl rfl | exact Or.inr rfl) (de_cmp (od_ne (u64 hr)) (de_var 8) (de_lst da_nil)))))))
  (dss_one (ds_retV 5))))))
theorem cal_need_both {f : Addr} {fd : FuncData} (F : FunD K "need_both" "need_both" (defArgs s_need_both) (defBody s_need_both) (defScope s_need_both) [] [] f fd) (gm : mg "need_both" = some (.ref f)) (C_need_state : Cal P w K mg base T "need_state" 5 ["store", "state"] g_need_state) (C_need_demand : Cal P w K mg base T "need_demand" 3 ["demand"] g_need_demand) :
    Cal P w K mg base T "need_both" 6 ["store", "state", "demand"] g_need_both := by
  have sc : FnScope ["store", "state", "demand"] ["store", "state", "demand"] (defScope s_need_both) := ⟨rfl, rfl, rfl, by decide +kernel, rfl, by decide +kernel, by decide +kernel⟩
  refine mk_cal F gm sc (by decide) (F.bindsN fun _ _ _ _ _ _ us hl => match us, hl with | [_, _, _], _ => rfl) fun cdv A outer s H0 E δ G0 bo hr => ?_
  exact (dss_cons (ds_expr (de_callC bo C_need_state hr (by decide) (by rfl) (L2N.passes_call (L2N.takes_of rfl rfl rfl rfl) fun _ _ _ _ h => h) (by rfl) (da_cons (de_var 0) (da_cons (de_var 1) da_nil)) (len_cons (len_cons len_nil))))
  (dss_one (ds_expr (de_callC bo C_need_demand hr (by decide) (by rfl) (L2N.passes_call (L2N.takes_of rfl rfl rfl rfl) fun _ _ _ _ h => h) (by rfl) (da_cons (de_var 2) da_nil) (len_cons len_nil)))))
theorem cal_lasts_with {f : Addr} {fd : FuncData} (F : FunD K "lasts_with" "lasts_with" (defArgs s_lasts_with) (defBody s_lasts_with) (defScope s_lasts_with) [] [] f fd) (gm : mg "lasts_with" = some (.ref f)) (C_need_both : Cal P w K mg base T "need_both" 6 ["store", "state", "demand"] g_need_both) (C_served : Cal P w K mg base T "served" 3 ["store", "demand"] g_served) :
    Cal P w K mg base T "lasts_with" 7 ["store", "state", "demand"] g_lasts_with := by
  have sc : FnScope ["store", "state", "demand"] ["store", "state", "demand"] (defScope s_lasts_with) := ⟨rfl, rfl, rfl, by decide +kernel, rfl, by decide +kernel, by decide +kernel⟩
  refine mk_cal F gm sc (by decide) (F.bindsN fun _ _ _ _ _ _ us hl => match us, hl with | [_, _, _], _ => rfl) fun cdv A outer s H0 E δ G0 bo hr => ?_
  exact (dss_cons (ds_expr (de_callC bo C_need_both hr (by decide) (by rfl) (L2N.passes_call (L2N.takes_of rfl rfl rfl rfl) fun _ _ _ _ h => h) (by rfl) (da_cons (de_var 0) (da_cons (de_var 1) (da_cons (de_var 2) da_nil))) (len_cons (len_cons (len_cons len_nil)))))
  (dss_one (ds_ret (de_cmp (od_notin (u65 hr)) (de_tup (da_cons (de_var 1) (da_cons de_int da_nil))) (de_callC bo C_served hr (by decide) (by rfl) (L2N.passes_call (L2N.takes_of rfl rfl rfl rfl) fun _ _ _ _ h => h) (by rfl) (da_cons (de_var 0) (da_cons (de_var 2) da_nil)) (len_cons (len_cons len_nil)))))))
theorem cal_digit {f : Addr} {fd : FuncData} (F : FunD K "digit" "digit" (defArgs s_digit) (defBody s_digit) (defScope s_digit) [] [] f fd) (gm : mg "digit" = some (.ref f)) (n_len : mg "len" = none) (n_int : mg "int" = none) (X_InvalidText : ExOk K mg .InvalidText) :
    Cal P w K mg base T "digit" 1 ["word"] g_digit := by
  have sc : FnScope ["word"] ["word"] (defScope s_digit) := ⟨rfl, rfl, rfl, by decide +kernel, rfl, by decide +kernel, by decide +kernel⟩
  refine mk_cal F gm sc (by decide) (F.bindsN fun _ _ _ _ _ _ us hl => match us, hl with | [_], _ => rfl) fun cdv A outer s H0 E δ G0 bo hr => ?_
  exact (dss_cons (ds_if (dt_w (dw_or (dt_cmp (od_ne (u64 hr)) (de_callB cd_len (by rfl) n_len bb_len (da_cons (de_var 0) da_nil)) de_int) (dw_or1 (dt_cmp (od_notin (u65 hr)) (de_var 0) de_str)))) (dss_one (ds_raiseX (c := .InvalidText) rfl rfl (L2N.takes_of rfl rfl rfl rfl) X_InvalidText rfl)) dss_nil)
  (dss_one (ds_ret (de_callT cd_int (by rfl) n_int bt_int (da_cons (de_var 0) da_nil)))))
theorem cal_parse_store {f : Addr} {fd : FuncData} (F : FunD K "parse_store" "parse_store" (defArgs s_parse_store) (defBody s_parse_store) (defScope s_parse_store) [] [] f fd) (gm : mg "parse_store" = some (.ref f)) (n_isinstance : mg "isinstance" = none) (n_str : mg "str" = none) (n_tuple : mg "tuple" = none) (C_digit : Cal P w K mg base T "digit" 1 ["word"] g_digit) (C_is_store : Cal P w K mg base T "is_store" 3 ["value"] g_is_store) (X_InvalidText : ExOk K mg .InvalidText) :
    Cal P w K mg base T "parse_store" 4 ["text"] g_parse_store := by
  have sc : FnScope ["text", "store", "word", "one"] ["text"] (defScope s_parse_store) := ⟨rfl, rfl, rfl, by decide +kernel, rfl, by decide +kernel, by decide +kernel⟩
  refine mk_cal F gm sc (by decide) (F.bindsN fun _ _ _ _ _ _ us hl => match us, hl with | [_], _ => rfl) fun cdv A outer s H0 E δ G0 bo hr => ?_
  exact (dss_cons (ds_if (dt_not (dt_val (de_ist (t := "str") (by rfl) n_isinstance (by rfl) n_str bt_str (de_var 0)))) (dss_one (ds_raiseX (c := .InvalidText) rfl rfl (L2N.takes_of rfl rfl rfl rfl) X_InvalidText rfl)) dss_nil)
  (dss_cons (ds_set 1 sc.nd rfl (by first | exact Or.inl rfl | exact Or.inr rfl) (de_callT cd_tuple (by rfl) n_tuple bt_tuple (da_cons (de_lcX (lets_of rfl rfl (L2N.takes_of rfl rfl rfl rfl)) rfl sc.nd (di_l (de_split (de_var 0) de_str)) (blk_of (own := [("word", 2)]) (by kernel_rfl)) (fun _ _ _ _ _ => (dg_name 2 sc.nd)) (fun _ _ _ _ _ _ l1 => (de_callT cd_tuple (by rfl) n_tuple bt_tuple (da_cons (de_lcX l1 rfl sc.nd (di_l (de_split (de_var 2) de_str)) (blk_of (own := [("one", 3)]) (by kernel_rfl)) (fun _ _ _ _ _ => (dg_name 3 sc.nd)) (fun _ _ _ _ _ _ l2 => (de_callC bo C_digit hr (by decide) (by rfl) l2.passes (by rfl) (da_cons (de_var 3) da_nil) (len_cons len_nil)))) da_nil)))) da_nil)))
  (dss_cons (ds_if (dt_not (dt_val (de_callC bo C_is_store hr (by decide) (by rfl) (L2N.passes_call (L2N.takes_of rfl rfl rfl rfl) fun _ _ _ _ h => h) (by rfl) (da_cons (de_var 1) da_nil) (len_cons len_nil)))) (dss_one (ds_raiseX (c := .InvalidText) rfl rfl (L2N.takes_of rfl rfl rfl rfl) X_InvalidText rfl)) dss_nil)
  (dss_one (ds_ret (de_var 1))))))
theorem cal__law_drawn {f : Addr} {fd : FuncData} (F : FunD K "_law_drawn" "_law_drawn" (defArgs s__law_drawn) (defBody s__law_drawn) (defScope s__law_drawn) [] [] f fd) (gm : mg "_law_drawn" = some (.ref f))  :
    Cal P w K mg base T "_law_drawn" 1 ["_law_cell_here", "_law_k"] g__law_drawn := by
  have sc : FnScope ["_law_cell_here", "_law_k", "_law_more"] ["_law_cell_here", "_law_k"] (defScope s__law_drawn) := ⟨rfl, rfl, rfl, by decide +kernel, rfl, by decide +kernel, by decide +kernel⟩
  refine mk_cal F gm sc (by decide) (F.bindsN fun _ _ _ _ _ _ us hl => match us, hl with | [_, _], _ => rfl) fun cdv A outer s H0 E δ G0 bo hr => ?_
  exact (dss_cons (ds_set 2 sc.nd rfl (by first | exact Or.inl rfl | exact Or.inr rfl) (de_op od_mod (de_op od_add (de_op od_mul (de_var 0) de_int) (de_op od_mul (de_op od_add (de_var 1) de_int) de_int)) de_int))
  (dss_cons (ds_set 2 sc.nd rfl (by first | exact Or.inl rfl | exact Or.inr rfl) (de_op od_mod (de_op od_mul (de_var 2) (de_var 2)) de_int))
  (dss_cons (ds_set 2 sc.nd rfl (by first | exact Or.inl rfl | exact Or.inr rfl) (de_op od_mul (de_op od_mul (de_op od_add (de_op od_mod (de_var 2) de_int) de_int) (de_op od_add (de_op od_fdiv (de_var 2) de_int) de_int)) (de_var 2)))
  (dss_one (ds_ret (de_op od_mod (de_var 2) de_int))))))
theorem cal__law_roll {f : Addr} {fd : FuncData} (F : FunD K "_law_roll" "_law_roll" (defArgs s__law_roll) (defBody s__law_roll) (defScope s__law_roll) [] [] f fd) (gm : mg "_law_roll" = some (.ref f)) (C__law_drawn : Cal P w K mg base T "_law_drawn" 1 ["_law_cell_here", "_law_k"] g__law_drawn) :
    Cal P w K mg base T "_law_roll" 2 ["_law_dice", "_law_many"] g__law_roll := by
  have sc : FnScope ["_law_dice", "_law_many", "_law_told"] ["_law_dice", "_law_many"] (defScope s__law_roll) := ⟨rfl, rfl, rfl, by decide +kernel, rfl, by decide +kernel, by decide +kernel⟩
  refine mk_cal F gm sc (by decide) (F.bindsN fun _ _ _ _ _ _ us hl => match us, hl with | [_, _], _ => rfl) fun cdv A outer s H0 E δ G0 bo hr => ?_
  exact (dss_cons (ds_if (dt_cmp od_ge (de_dice 0) (de_op od_pow de_int de_int)) (dss_cons (ds_set 2 sc.nd rfl (by first | exact Or.inl rfl | exact Or.inr rfl) (de_op od_mod (de_dice 0) (de_var 1)))
  (dss_cons (ds_dice 0 (de_op od_fdiv (de_dice 0) (de_var 1)))
  (dss_one (ds_ret (de_var 2))))) dss_nil)
  (dss_cons (ds_dice 0 (de_op od_add (de_dice 0) de_int))
  (dss_one (ds_ret (de_op od_mod (de_op od_fdiv (de_callC bo C__law_drawn hr (by decide) (by rfl) (L2N.passes_call (L2N.takes_of rfl rfl rfl rfl) fun _ _ _ _ h => h) (by rfl) (da_cons (de_dice 0) (da_cons (de_dice 0) da_nil)) (len_cons (len_cons len_nil))) de_int) (de_var 1))))))
theorem cal__law_alone {f : Addr} {fd : FuncData} (F : FunD K "_law_alone" "_law_alone" (defArgs s__law_alone) (defBody s__law_alone) (defScope s__law_alone) [] [] f fd) (gm : mg "_law_alone" = some (.ref f)) (n_isinstance : mg "isinstance" = none) (n_ValueError : mg "ValueError" = none) (n_range : mg "range" = none) (X_InvalidPart : ExOk K mg .InvalidPart) (X_InvalidStore : ExOk K mg .InvalidStore) (X_InvalidState : ExOk K mg .InvalidState) (X_InvalidIndex : ExOk K mg .InvalidIndex) (X_InvalidRule : ExOk K mg .InvalidRule) (X_InvalidTicks : ExOk K mg .InvalidTicks) (X_InvalidDemand : ExOk K mg .InvalidDemand) (X_InvalidText : ExOk K mg .InvalidText) (X_Worn : ExOk K mg .Worn) (X_ForEver : ExOk K mg .ForEver) (X_Ends : ExOk K mg .Ends) (X_TooMany : ExOk K mg .TooMany) (X_NothingToUndo : ExOk K mg .NothingToUndo) (tab : ExTab K) :
    Cal P w K mg base T "_law_alone" 1 ["_law_e", "_law_own"] (g__law_alone (KA K)) := by
  have sc : FnScope ["_law_e", "_law_own", "_law_some", "_law_at"] ["_law_e", "_law_own"] (defScope s__law_alone) := ⟨rfl, rfl, rfl, by decide +kernel, rfl, by decide +kernel, by decide +kernel⟩
  refine mk_cal F gm sc (by decide) (F.bindsN fun _ _ _ _ _ _ us hl => match us, hl with | [_, _], _ => rfl) fun cdv A outer s H0 E δ G0 bo hr => ?_
  exact (dss_cons (ds_set 2 sc.nd rfl (by first | exact Or.inl rfl | exact Or.inr rfl) (de_lst (da_cons (de_isX (c := .InvalidPart) tab (by rfl) n_isinstance (by rfl) X_InvalidPart.gC (de_var 0)) (da_cons (de_isX (c := .InvalidStore) tab (by rfl) n_isinstance (by rfl) X_InvalidStore.gC (de_var 0)) (da_cons (de_isX (c := .InvalidState) tab (by rfl) n_isinstance (by rfl) X_InvalidState.gC (de_var 0)) da_nil)))))
  (dss_cons (ds_set 2 sc.nd rfl (by first | exact Or.inl rfl | exact Or.inr rfl) (de_op od_add (de_var 2) (de_lst (da_cons (de_isX (c := .InvalidIndex) tab (by rfl) n_isinstance (by rfl) X_InvalidIndex.gC (de_var 0)) (da_cons (de_isX (c := .InvalidRule) tab (by rfl) n_isinstance (by rfl) X_InvalidRule.gC (de_var 0)) (da_cons (de_isX (c := .InvalidTicks) tab (by rfl) n_isinstance (by rfl) X_InvalidTicks.gC (de_var 0)) da_nil))))))
  (dss_cons (ds_set 2 sc.nd rfl (by first | exact Or.inl rfl | exact Or.inr rfl) (de_op od_add (de_var 2) (de_lst (da_cons (de_isX (c := .InvalidDemand) tab (by rfl) n_isinstance (by rfl) X_InvalidDemand.gC (de_var 0)) (da_cons (de_isX (c := .InvalidText) tab (by rfl) n_isinstance (by rfl) X_InvalidText.gC (de_var 0)) (da_cons (de_isX (c := .Worn) tab (by rfl) n_isinstance (by rfl) X_Worn.gC (de_var 0)) da_nil))))))
  (dss_cons (ds_set 2 sc.nd rfl (by first | exact Or.inl rfl | exact Or.inr rfl) (de_op od_add (de_var 2) (de_lst (da_cons (de_isX (c := .ForEver) tab (by rfl) n_isinstance (by rfl) X_ForEver.gC (de_var 0)) (da_cons (de_isX (c := .Ends) tab (by rfl) n_isinstance (by rfl) X_Ends.gC (de_var 0)) (da_cons (de_isX (c := .TooMany) tab (by rfl) n_isinstance (by rfl) X_TooMany.gC (de_var 0)) da_nil))))))
  (dss_cons (ds_set 2 sc.nd rfl (by first | exact Or.inl rfl | exact Or.inr rfl) (de_op od_add (de_var 2) (de_lst (da_cons (de_isX (c := .NothingToUndo) tab (by rfl) n_isinstance (by rfl) X_NothingToUndo.gC (de_var 0)) da_nil))))
  (dss_one (ds_ret (de_and (de_isXV tab (by rfl) n_isinstance (by rfl) n_ValueError bt_ValueError (de_var 0)) (de_one (de_cmp (od_eq (u64 hr)) (de_var 2) (de_lc rfl sc.nd (di_r1 (by rfl) n_range (da_cons de_int da_nil) (hlen := (len_cons len_nil))) (blk_of (own := [("_law_at", 3)]) (by kernel_rfl)) (fun _ _ _ _ _ => (dg_name 3 sc.nd)) (fun _ _ _ _ _ => dpt_none) (fun _ _ _ _ _ => (de_cmp (od_eq (u64 hr)) (de_var 3) (de_var 1))))))))))))))
theorem ok__law_cell {f : Addr} {fd : FuncData} (F : FunD K "_law_cell" "_law_cell" (defArgs s__law_cell) (defBody s__law_cell) (defScope s__law_cell) [] [] f fd) (n_len : mg "len" = none) : FnOk P w K mg base (L2N.CX P w) 1 f fd ["_law_script", "_law_k"] (spCell K T) := by
  have sc : FnScope ["_law_script", "_law_k"] ["_law_script", "_law_k"] (defScope s__law_cell) := ⟨rfl, rfl, rfl, by decide +kernel, rfl, by decide +kernel, by decide +kernel⟩
  refine F.ok sc (fun vs H Q E h => by obtain ⟨a, ns, kk, G, rfl, _⟩ := h; rfl) (fun cdv A outer s H vs Q E hr h => ⟨t_cell K T, ?_, cell_ok vs H Q E h⟩)
  have hu : (A.deeper (envOfC "_law_cell" (defScope s__law_cell) s.heap.objs.size f cdv)).units + 64 < cLine := u64 hr
  exact pss_cons (ps_if (pt_cmpR (op_eqD hu) (pv 0) (pe_lst pa_nil) (nomark _)) (pss_one (ps_ret (pe_op od_mul (pv 1) pe_int))) pss_nil) (pss_one (ps_ret (pe_op od_add (pe_ix ix_list (pv 0) (pe_op od_mod (pv 1) (pe_callB call_len_seq (by rfl) n_len bb_len (pa_cons (pv 0) pa_nil))) (fun _ _ => rfl)) (pe_op od_mul (pe_op od_fdiv (pv 1) (pe_callB call_len_seq (by rfl) n_len bb_len (pa_cons (pv 0) pa_nil))) pe_int))))
theorem ok__law_rounds {f : Addr} {fd : FuncData} (F : FunD K "_law_rounds" "_law_rounds" (defArgs s__law_rounds) (defBody s__law_rounds) (defScope s__law_rounds) [] [] f fd) {fc : Addr} {fdc : FuncData} (C : FnOk P w K mg base (L2N.CX P w) 1 fc fdc ["_law_script", "_law_k"] (spCell K T)) (gc : mg "_law_cell" = some (.ref fc)) (kc : PySem.W.keepIn K (.ref fc) = true) (bc : Binds K fdc ["_law_script", "_law_k"] []) (n_range : mg "range" = none) (n_max : mg "max" = none) (n_min : mg "min" = none) (n_len : mg "len" = none) : FnOk P w K mg base (L2N.CX P w) 2 f fd ["_law_script", "_law_most"] (spRounds K T) := by
  have sc : FnScope ["_law_script", "_law_most", "_law_k"] ["_law_script", "_law_most"] (defScope s__law_rounds) := ⟨rfl, rfl, rfl, by decide +kernel, rfl, by decide +kernel, by decide +kernel⟩
  refine F.ok sc (fun vs H Q E h => by obtain ⟨a, ns, most, rfl, _⟩ := h; rfl) (fun cdv A outer s H vs Q E hr h => ⟨t_rounds K T, ?_, rounds_ok vs H Q E h⟩)
  have hu : (A.deeper (envOfC "_law_rounds" (defScope s__law_rounds) s.heap.objs.size f cdv)).units + 64 < cLine := u64 hr
  exact pss_one (ps_ret (pe_lc rfl sc.nd (pi_range1 (by rfl) n_range (pa_cons (pe_callB (cd_max rfl) (by rfl) n_max bb_max (pa_cons pe_int (pa_cons (pe_callB (cd_min rfl) (by rfl) n_min bb_min (pa_cons (pv 1) (pa_cons (pe_callB call_len_seq (by rfl) n_len bb_len (pa_cons (pv 0) pa_nil)) pa_nil))) pa_nil))) pa_nil)) (blk_of (own := [("_law_k", 2)]) (by kernel_rfl)) (fun _ _ _ _ _ => pg_name (i := 2) sc.nd rfl (by first | exact Or.inl rfl | exact Or.inr rfl)) (fun _ _ _ _ _ => pts_nil) (fun _ _ _ _ _ => pe_lst (pa_cons (pe_call C hr (by rfl) gc kc bc .nil passN (pa_cons (pv 0) (pa_cons (pv 2) pa_nil))) (pa_cons pe_int pa_nil)))))
theorem ok_law {fd : FuncData} (F : FunD K "law" "law" (defArgs s_law) (defBody s_law) (defScope s_law) [] [] (He.fAd K ("law", none)) fd) {fr : Addr} {fdr : FuncData} (C : FnOk P w K mg base (L2N.CX P w) 2 fr fdr ["_law_script", "_law_most"] (spRounds K T)) (gr : mg "_law_rounds" = some (.ref fr)) (kr : PySem.W.keepIn K (.ref fr) = true) (br : Binds K fdr ["_law_script", "_law_most"] []) (n_str : mg "str" = none) (n_enumerate : mg "enumerate" = none) (n_all : mg "all" = none) (C__law_roll : Cal P w K mg base T "_law_roll" 2 ["_law_dice", "_law_many"] g__law_roll) (C_with_part : Cal P w K mg base T "with_part" 5 ["store", "part"] g_with_part) (C_new : Cal P w K mg base T "new" 5 ["store"] g_new) (C_usable : Cal P w K mg base T "usable" 6 ["store", "state"] g_usable) (C_used : Cal P w K mg base T "used" 6 ["store", "state", "index"] g_used) (C_choice : Cal P w K mg base T "choice" 6 ["store", "state", "rule"] g_choice) (C_run : Cal P w K mg base T "run" 6 ["store", "state", "rule", "ticks"] g_run) (C_lasts_with : Cal P w K mg base T "lasts_with" 7 ["store", "state", "demand"] g_lasts_with) (C_parse_store : Cal P w K mg base T "parse_store" 4 ["text"] g_parse_store) (C_longest : Cal P w K mg base T "longest" 6 ["store", "state"] g_longest) (C_course : Cal P w K mg base T "course" 6 ["store", "state"] g_course) (C__law_alone : Cal P w K mg base T "_law_alone" 1 ["_law_e", "_law_own"] (g__law_alone (KA K))) (M_redo : CalM P w K mg base T "redo" 1 ["self"] g_Bench_redo) (bc : Cls K (He.ga K "Bench")) (CI : CalI P w K mg base T 5 ["self", "store"] g_Bench___init__) (TL : TMok P w K mg base 7 "_law_met" "_law_deed" (("law" : Str) ++ ".<locals>." ++ "<lambda>")) {Pt : Addr} (TB : LamX.TabB base mg (He.codeOf K ("law", none)) Pt) (hmT : (Pt, (("law" : Str) ++ ".<locals>." ++ "<lambda>")) ∈ T) (hTu : ∀ p ∈ T, p.1 = Pt → p.2 = (("law" : Str) ++ ".<locals>." ++ "<lambda>"))
    (good : ∀ c : Int, ∃ ev' st', fs_law (KA K) (evL nLaw) ⟨c, 0, []⟩ = .ok (.nx ev') st' ∧ ev'.length = nLaw) : FnOk P w K mg base (L2N.CX P w) 10 (He.fAd K ("law", none)) fd ["_law_script"] (spLaw K T) := by
  have sc : FnScope ["_law_script", "_law_dice", "_law_more", "_law_one", "_law_safe", "_law_made", "_law_at", "_law_e"] ["_law_script"] (defScope s_law) := ⟨rfl, rfl, rfl, by decide +kernel, rfl, by decide +kernel, by decide +kernel⟩
  refine FunD.okC F sc (fun vs H Q E h => by obtain ⟨a, ns, rfl, _⟩ := h; rfl) (fun A outer s H vs Q E hr h => ⟨t_lawN K T 4 (fs_law (KA K)), ?_, law_okN (by decide) (by decide) (by decide) good vs H Q E h⟩)
  exact pss_cons (PS.nox (ps_for PassesOwn.never rfl (pi_list (pe_call C (hr.mono (by decide)) (by rfl) gr kr br .nil passN (pa_cons (pv 0) (pa_cons pe_int pa_nil)))) (pg_name (i := 1) sc.nd rfl (by first | exact Or.inl rfl | exact Or.inr rfl)) (pss_tbN fun δ G0 H0 hbc => have bo : BOk K δ := .inl hbc
    (dss_cons (ds_parT (is := [2, 3, 4]) rfl (dn_dat (de_op od_add de_int (de_callC bo C__law_roll hr (by decide) (by rfl) passN (by rfl) (da_cons (de_var 1) (da_cons de_int da_nil)) (len_cons (len_cons len_nil)))) (dn_dat (de_tup (da_cons (de_tup (da_cons de_int (da_cons de_int (da_cons de_int da_nil)))) da_nil)) (dn_dat (de_op od_mul (de_tup (da_cons (de_tup (da_cons de_int (da_cons de_int (da_cons de_int da_nil)))) da_nil)) de_int) dn_nil))) (pgs_cons (pg_name (i := 2) sc.nd rfl (by first | exact Or.inl rfl | exact Or.inr rfl) (by first | exact .inl rfl | exact .inr rfl)) (pgs_cons (pg_name (i := 3) sc.nd rfl (by first | exact Or.inl rfl | exact Or.inr rfl) (by first | exact .inl rfl | exact .inr rfl)) (pgs_cons (pg_name (i := 4) sc.nd rfl (by first | exact Or.inl rfl | exact Or.inr rfl) (by first | exact .inl rfl | exact .inr rfl)) pgs_nil rfl) rfl) rfl))
  (dss_cons (ds_newL 5 sc.nd (da_cons (de_met (q := ("law" : Str) ++ ".<locals>." ++ "<lambda>") rfl TL hr (by decide) (by rfl) TB rfl hmT hTu (by kernel_rfl) (by rfl) (fun _ _ _ _ _ => rfl) (fun A outer s H E' f' c' hr => (de_callC bo C_with_part hr (by decide) (by rfl) (L2N.passes_call (L2N.takes_of rfl rfl rfl rfl) fun _ _ _ _ h => h) (by rfl) (da_cons (de_var 3) (da_cons (de_tup (da_cons (de_var 2) (da_cons de_int (da_cons de_int da_nil)))) da_nil)) (len_cons (len_cons len_nil))))) da_nil))
  (dss_cons (ds_app 5 (de_met (q := ("law" : Str) ++ ".<locals>." ++ "<lambda>") rfl TL hr (by decide) (by rfl) TB rfl hmT hTu (by kernel_rfl) (by rfl) (fun _ _ _ _ _ => rfl) (fun A outer s H E' f' c' hr => (de_callC bo C_new hr (by decide) (by rfl) (L2N.passes_call (L2N.takes_of rfl rfl rfl rfl) fun _ _ _ _ h => h) (by rfl) (da_cons (de_tup (da_cons (de_tup (da_cons (de_var 2) (da_cons de_int (da_cons de_int da_nil)))) da_nil)) da_nil) (len_cons len_nil)))))
  (dss_cons (ds_app 5 (de_met (q := ("law" : Str) ++ ".<locals>." ++ "<lambda>") rfl TL hr (by decide) (by rfl) TB rfl hmT hTu (by kernel_rfl) (by rfl) (fun _ _ _ _ _ => rfl) (fun A outer s H E' f' c' hr => (de_callC bo C_usable hr (by decide) (by rfl) (L2N.passes_call (L2N.takes_of rfl rfl rfl rfl) fun _ _ _ _ h => h) (by rfl) (da_cons (de_var 3) (da_cons (de_tup (da_cons (de_var 2) da_nil)) da_nil)) (len_cons (len_cons len_nil))))))
  (dss_cons (ds_app 5 (de_met (q := ("law" : Str) ++ ".<locals>." ++ "<lambda>") rfl TL hr (by decide) (by rfl) TB rfl hmT hTu (by kernel_rfl) (by rfl) (fun _ _ _ _ _ => rfl) (fun A outer s H E' f' c' hr => (de_callC bo C_used hr (by decide) (by rfl) (L2N.passes_call (L2N.takes_of rfl rfl rfl rfl) fun _ _ _ _ h => h) (by rfl) (da_cons (de_var 3) (da_cons (de_tup (da_cons de_int da_nil)) (da_cons (de_var 2) da_nil))) (len_cons (len_cons (len_cons len_nil)))))))
  (dss_cons (ds_app 5 (de_met (q := ("law" : Str) ++ ".<locals>." ++ "<lambda>") rfl TL hr (by decide) (by rfl) TB rfl hmT hTu (by kernel_rfl) (by rfl) (fun _ _ _ _ _ => rfl) (fun A outer s H E' f' c' hr => (de_callC bo C_choice hr (by decide) (by rfl) (L2N.passes_call (L2N.takes_of rfl rfl rfl rfl) fun _ _ _ _ h => h) (by rfl) (da_cons (de_var 3) (da_cons (de_tup (da_cons de_int da_nil)) (da_cons (de_callT cd_str (by rfl) n_str bt_str (da_cons (de_var 2) da_nil)) da_nil))) (len_cons (len_cons (len_cons len_nil)))))))
  (dss_cons (ds_app 5 (de_met (q := ("law" : Str) ++ ".<locals>." ++ "<lambda>") rfl TL hr (by decide) (by rfl) TB rfl hmT hTu (by kernel_rfl) (by rfl) (fun _ _ _ _ _ => rfl) (fun A outer s H E' f' c' hr => (de_callC bo C_run hr (by decide) (by rfl) (L2N.passes_call (L2N.takes_of rfl rfl rfl rfl) fun _ _ _ _ h => h) (by rfl) (da_cons (de_var 3) (da_cons (de_tup (da_cons de_int da_nil)) (da_cons de_str (da_cons (de_var 2) da_nil)))) (len_cons (len_cons (len_cons (len_cons len_nil))))))))
  (dss_cons (ds_app 5 (de_met (q := ("law" : Str) ++ ".<locals>." ++ "<lambda>") rfl TL hr (by decide) (by rfl) TB rfl hmT hTu (by kernel_rfl) (by rfl) (fun _ _ _ _ _ => rfl) (fun A outer s H E' f' c' hr => (de_callC bo C_lasts_with hr (by decide) (by rfl) (L2N.passes_call (L2N.takes_of rfl rfl rfl rfl) fun _ _ _ _ h => h) (by rfl) (da_cons (de_var 3) (da_cons (de_tup (da_cons de_int da_nil)) (da_cons (de_tup (da_cons (de_var 2) da_nil)) da_nil))) (len_cons (len_cons (len_cons len_nil)))))))
  (dss_cons (ds_app 5 (de_met (q := ("law" : Str) ++ ".<locals>." ++ "<lambda>") rfl TL hr (by decide) (by rfl) TB rfl hmT hTu (by kernel_rfl) (by rfl) (fun _ _ _ _ _ => rfl) (fun A outer s H E' f' c' hr => (de_callC bo C_parse_store hr (by decide) (by rfl) (L2N.passes_call (L2N.takes_of rfl rfl rfl rfl) fun _ _ _ _ h => h) (by rfl) (da_cons (de_callT cd_str (by rfl) n_str bt_str (da_cons (de_var 2) da_nil)) da_nil) (len_cons len_nil)))))
  (dss_cons (ds_app 5 (de_met (q := ("law" : Str) ++ ".<locals>." ++ "<lambda>") rfl TL hr (by decide) (by rfl) TB rfl hmT hTu (by kernel_rfl) (by rfl) (fun _ _ _ _ _ => rfl) (fun A outer s H E' f' c' hr => (de_callC bo C_used hr (by decide) (by rfl) (L2N.passes_call (L2N.takes_of rfl rfl rfl rfl) fun _ _ _ _ h => h) (by rfl) (da_cons (de_var 3) (da_cons (de_tup (da_cons de_int da_nil)) (da_cons de_int da_nil))) (len_cons (len_cons (len_cons len_nil)))))))
  (dss_cons (ds_app 5 (de_met (q := ("law" : Str) ++ ".<locals>." ++ "<lambda>") rfl TL hr (by decide) (by rfl) TB rfl hmT hTu (by kernel_rfl) (by rfl) (fun _ _ _ _ _ => rfl) (fun A outer s H E' f' c' hr => (de_callC bo C_longest hr (by decide) (by rfl) (L2N.passes_call (L2N.takes_of rfl rfl rfl rfl) fun _ _ _ _ h => h) (by rfl) (da_cons (de_var 4) (da_cons (de_tup (da_cons de_int (da_cons de_int da_nil))) da_nil)) (len_cons (len_cons len_nil))))))
  (dss_cons (ds_app 5 (de_met (q := ("law" : Str) ++ ".<locals>." ++ "<lambda>") rfl TL hr (by decide) (by rfl) TB rfl hmT hTu (by kernel_rfl) (by rfl) (fun _ _ _ _ _ => rfl) (fun A outer s H E' f' c' hr => (de_callC bo C_course hr (by decide) (by rfl) (L2N.passes_call (L2N.takes_of rfl rfl rfl rfl) fun _ _ _ _ h => h) (by rfl) (da_cons (de_var 3) (da_cons (de_tup (da_cons de_int da_nil)) da_nil)) (len_cons (len_cons len_nil))))))
  (dss_cons (ds_app 5 (de_met (q := ("law" : Str) ++ ".<locals>." ++ "<lambda>") rfl TL hr (by decide) (by rfl) TB rfl hmT hTu (by kernel_rfl) (by rfl) (fun _ _ _ _ _ => rfl) (fun A outer s H E' f' c' hr => (de_callC bo C_with_part hr (by decide) (by rfl) (L2N.passes_call (L2N.takes_of rfl rfl rfl rfl) fun _ _ _ _ h => h) (by rfl) (da_cons (de_op od_mul (de_var 3) de_int) (da_cons (de_tup (da_cons de_int (da_cons de_int (da_cons de_int da_nil)))) da_nil)) (len_cons (len_cons len_nil))))))
  (dss_cons (ds_app 5 (de_met (q := ("law" : Str) ++ ".<locals>." ++ "<lambda>") rfl TL hr (by decide) (by rfl) TB rfl hmT hTu (by kernel_rfl) (by rfl) (fun _ _ _ _ _ => rfl) (fun A outer s H E' f' c' hr => (de_mkM hbc bc CI M_redo hr (by decide) (by decide) (by rfl) (L2N.passes_call (L2N.takes_of rfl rfl rfl rfl) fun _ _ _ _ h => h) (by rfl) (da_cons (de_var 3) da_nil) (fun _ _ _ _ e => congrArg (· + 1) ((len_cons len_nil) _ _ _ _ e))))))
  (dss_one (ds_frz 5 (ds_if (dt_not (dt_val (de_callB (cd_all rfl) (by rfl) n_all bb_all (da_cons (de_lc rfl sc.nd (di_eL (by rfl) n_enumerate (da_cons (de_var 5) da_nil)) (blk_of (own := [("_law_at", 6), ("_law_e", 7)]) (by kernel_rfl)) (fun _ _ _ _ _ => (dg_tup rfl (dgs_cons (dg_name 6 sc.nd) (dgs_cons (dg_name 7 sc.nd) dgs_nil)))) (fun _ _ _ _ _ => dpt_none) (fun _ _ _ _ _ => (de_callC bo C__law_alone hr (by decide) (by rfl) passN (by rfl) (da_cons (de_var 7) (da_cons (de_var 6) da_nil)) (len_cons (len_cons len_nil))))) da_nil)))) (dss_one (ds_ret de_bool)) dss_nil)))))))))))))))))))) (pss_one (ps_ret pe_bl))
end
theorem facts {P : Program} {w : World} {K : PySem.W.Frag} {h : Heap} {mg : Str → Option Value} {f : Addr} (X : K.In h) (G : h.Ns mainGlobals mg) (hfa : mg ("law" : Str) = some (.ref f)) (c : He.SaysD fa fn K) (tab : ExTab K) 
    (good : ∀ c : Int, ∃ ev' st', fs_law (KA K) (evL nLaw) ⟨c, 0, []⟩ = .ok (.nx ev') st' ∧ ev'.length = nLaw) :
    ∃ fd : FuncData, (∀ (s : Shared) (v : Value), BindsTo s fd ⟨[v], []⟩ [("_law_script", v)]) ∧ ∀ base : Heap, LamX.TabB base mg (He.codeOf K ("law", none)) (He.tabOf K (He.codeOf K ("law", none))) → FnOk P w K mg base (L2N.CX P w) 10 f fd ["_law_script"] (spLaw K [(He.tabOf K (He.codeOf K ("law", none)), ("law" : Str) ++ ".<locals>." ++ "<lambda>")]) := by
  have n_ValueError : mg "ValueError" = none := He.free_ok X G (c.fact 50 (f := .free "ValueError") rfl)
  have n_all : mg "all" = none := He.free_ok X G (c.fact 48 (f := .free "all") rfl)
  have n_bool : mg "bool" = none := He.free_ok X G (c.fact 42 (f := .free "bool") rfl)
  have n_enumerate : mg "enumerate" = none := He.free_ok X G (c.fact 45 (f := .free "enumerate") rfl)
  have n_int : mg "int" = none := He.free_ok X G (c.fact 41 (f := .free "int") rfl)
  have n_isinstance : mg "isinstance" = none := He.free_ok X G (c.fact 39 (f := .free "isinstance") rfl)
  have n_len : mg "len" = none := He.free_ok X G (c.fact 40 (f := .free "len") rfl)
  have n_max : mg "max" = none := He.free_ok X G (c.fact 46 (f := .free "max") rfl)
  have n_min : mg "min" = none := He.free_ok X G (c.fact 47 (f := .free "min") rfl)
  have n_range : mg "range" = none := He.free_ok X G (c.fact 44 (f := .free "range") rfl)
  have n_str : mg "str" = none := He.free_ok X G (c.fact 49 (f := .free "str") rfl)
  have n_tuple : mg "tuple" = none := He.free_ok X G (c.fact 43 (f := .free "tuple") rfl)
  have X_Ends : ExOk K mg .Ends := by
    obtain ⟨e1, e2, e3, e4⟩ := He.exc_ok (c.fact 74 (f := .exc "Ends") rfl)
    exact ⟨e1, He.glo_ok X G (c.fact 73 (f := .glo "Ends") rfl), e2, e3, e4⟩
  have X_ForEver : ExOk K mg .ForEver := by
    obtain ⟨e1, e2, e3, e4⟩ := He.exc_ok (c.fact 72 (f := .exc "ForEver") rfl)
    exact ⟨e1, He.glo_ok X G (c.fact 71 (f := .glo "ForEver") rfl), e2, e3, e4⟩
  have X_InvalidDemand : ExOk K mg .InvalidDemand := by
    obtain ⟨e1, e2, e3, e4⟩ := He.exc_ok (c.fact 66 (f := .exc "InvalidDemand") rfl)
    exact ⟨e1, He.glo_ok X G (c.fact 65 (f := .glo "InvalidDemand") rfl), e2, e3, e4⟩
  have X_InvalidIndex : ExOk K mg .InvalidIndex := by
    obtain ⟨e1, e2, e3, e4⟩ := He.exc_ok (c.fact 60 (f := .exc "InvalidIndex") rfl)
    exact ⟨e1, He.glo_ok X G (c.fact 59 (f := .glo "InvalidIndex") rfl), e2, e3, e4⟩
  have X_InvalidPart : ExOk K mg .InvalidPart := by
    obtain ⟨e1, e2, e3, e4⟩ := He.exc_ok (c.fact 54 (f := .exc "InvalidPart") rfl)
    exact ⟨e1, He.glo_ok X G (c.fact 53 (f := .glo "InvalidPart") rfl), e2, e3, e4⟩
  have X_InvalidRule : ExOk K mg .InvalidRule := by
    obtain ⟨e1, e2, e3, e4⟩ := He.exc_ok (c.fact 62 (f := .exc "InvalidRule") rfl)
    exact ⟨e1, He.glo_ok X G (c.fact 61 (f := .glo "InvalidRule") rfl), e2, e3, e4⟩
  have X_InvalidState : ExOk K mg .InvalidState := by
    obtain ⟨e1, e2, e3, e4⟩ := He.exc_ok (c.fact 58 (f := .exc "InvalidState") rfl)
    exact ⟨e1, He.glo_ok X G (c.fact 57 (f := .glo "InvalidState") rfl), e2, e3, e4⟩
  have X_InvalidStore : ExOk K mg .InvalidStore := by
    obtain ⟨e1, e2, e3, e4⟩ := He.exc_ok (c.fact 56 (f := .exc "InvalidStore") rfl)
    exact ⟨e1, He.glo_ok X G (c.fact 55 (f := .glo "InvalidStore") rfl), e2, e3, e4⟩
  have X_InvalidText : ExOk K mg .InvalidText := by
    obtain ⟨e1, e2, e3, e4⟩ := He.exc_ok (c.fact 68 (f := .exc "InvalidText") rfl)
    exact ⟨e1, He.glo_ok X G (c.fact 67 (f := .glo "InvalidText") rfl), e2, e3, e4⟩
  have X_InvalidTicks : ExOk K mg .InvalidTicks := by
    obtain ⟨e1, e2, e3, e4⟩ := He.exc_ok (c.fact 64 (f := .exc "InvalidTicks") rfl)
    exact ⟨e1, He.glo_ok X G (c.fact 63 (f := .glo "InvalidTicks") rfl), e2, e3, e4⟩
  have X_NothingToUndo : ExOk K mg .NothingToUndo := by
    obtain ⟨e1, e2, e3, e4⟩ := He.exc_ok (c.fact 78 (f := .exc "NothingToUndo") rfl)
    exact ⟨e1, He.glo_ok X G (c.fact 77 (f := .glo "NothingToUndo") rfl), e2, e3, e4⟩
  have X_TooMany : ExOk K mg .TooMany := by
    obtain ⟨e1, e2, e3, e4⟩ := He.exc_ok (c.fact 76 (f := .exc "TooMany") rfl)
    exact ⟨e1, He.glo_ok X G (c.fact 75 (f := .glo "TooMany") rfl), e2, e3, e4⟩
  have X_Worn : ExOk K mg .Worn := by
    obtain ⟨e1, e2, e3, e4⟩ := He.exc_ok (c.fact 70 (f := .exc "Worn") rfl)
    exact ⟨e1, He.glo_ok X G (c.fact 69 (f := .glo "Worn") rfl), e2, e3, e4⟩
  have bc : Cls K (He.ga K "Bench") := He.cls_ok (c.fact 80 (f := .cls "Bench") rfl)
  have mkr : Mk K (He.ga K "Bench") _ := He.mkr_ok (c.fact 81 (f := .mkr "Bench") rfl)
  have gC : mg "Bench" = some (.ref (He.ga K "Bench")) := He.glo_ok X G (c.fact 79 (f := .glo "Bench") rfl)
  have A_store : NoAttr K (He.ga K "Bench") "store" := He.noat_ok (c.fact 82 (f := .noat "Bench" "store") rfl)
  have A_now : NoAttr K (He.ga K "Bench") "now" := He.noat_ok (c.fact 83 (f := .noat "Bench" "now") rfl)
  have A_earlier : NoAttr K (He.ga K "Bench") "earlier" := He.noat_ok (c.fact 84 (f := .noat "Bench" "earlier") rfl)
  have A_undone : NoAttr K (He.ga K "Bench") "undone" := He.noat_ok (c.fact 85 (f := .noat "Bench" "undone") rfl)
  obtain ⟨fd__law_cell, F__law_cell⟩ := c.def_ 32 (d := d__law_cell) rfl
  have m__law_cell : mg "_law_cell" = some (.ref _) := He.glo_ok X G (c.fact 32 (f := .glo "_law_cell") rfl)
  obtain ⟨fd__law_rounds, F__law_rounds⟩ := c.def_ 35 (d := d__law_rounds) rfl
  have m__law_rounds : mg "_law_rounds" = some (.ref _) := He.glo_ok X G (c.fact 35 (f := .glo "_law_rounds") rfl)
  obtain ⟨fd__law_met, F__law_met⟩ := c.def_ 36 (d := d__law_met) rfl
  have m__law_met : mg "_law_met" = some (.ref _) := He.glo_ok X G (c.fact 36 (f := .glo "_law_met") rfl)
  obtain ⟨fd__law_drawn, F__law_drawn⟩ := c.def_ 33 (d := d__law_drawn) rfl
  have m__law_drawn : mg "_law_drawn" = some (.ref _) := He.glo_ok X G (c.fact 33 (f := .glo "_law_drawn") rfl)
  obtain ⟨fd__law_roll, F__law_roll⟩ := c.def_ 34 (d := d__law_roll) rfl
  have m__law_roll : mg "_law_roll" = some (.ref _) := He.glo_ok X G (c.fact 34 (f := .glo "_law_roll") rfl)
  obtain ⟨fd_is_whole, F_is_whole⟩ := c.def_ 1 (d := d_is_whole) rfl
  have m_is_whole : mg "is_whole" = some (.ref _) := He.glo_ok X G (c.fact 1 (f := .glo "is_whole") rfl)
  obtain ⟨fd_is_part, F_is_part⟩ := c.def_ 2 (d := d_is_part) rfl
  have m_is_part : mg "is_part" = some (.ref _) := He.glo_ok X G (c.fact 2 (f := .glo "is_part") rfl)
  obtain ⟨fd_is_store, F_is_store⟩ := c.def_ 4 (d := d_is_store) rfl
  have m_is_store : mg "is_store" = some (.ref _) := He.glo_ok X G (c.fact 4 (f := .glo "is_store") rfl)
  obtain ⟨fd_need_store, F_need_store⟩ := c.def_ 5 (d := d_need_store) rfl
  have m_need_store : mg "need_store" = some (.ref _) := He.glo_ok X G (c.fact 5 (f := .glo "need_store") rfl)
  obtain ⟨fd_need_part, F_need_part⟩ := c.def_ 3 (d := d_need_part) rfl
  have m_need_part : mg "need_part" = some (.ref _) := He.glo_ok X G (c.fact 3 (f := .glo "need_part") rfl)
  obtain ⟨fd_with_part, F_with_part⟩ := c.def_ 24 (d := d_with_part) rfl
  have m_with_part : mg "with_part" = some (.ref _) := He.glo_ok X G (c.fact 24 (f := .glo "with_part") rfl)
  obtain ⟨fd_fresh, F_fresh⟩ := c.def_ 9 (d := d_fresh) rfl
  have m_fresh : mg "fresh" = some (.ref _) := He.glo_ok X G (c.fact 9 (f := .glo "fresh") rfl)
  obtain ⟨fd_new, F_new⟩ := c.def_ 10 (d := d_new) rfl
  have m_new : mg "new" = some (.ref _) := He.glo_ok X G (c.fact 10 (f := .glo "new") rfl)
  obtain ⟨fd_good_state, F_good_state⟩ := c.def_ 6 (d := d_good_state) rfl
  have m_good_state : mg "good_state" = some (.ref _) := He.glo_ok X G (c.fact 6 (f := .glo "good_state") rfl)
  obtain ⟨fd_need_state, F_need_state⟩ := c.def_ 7 (d := d_need_state) rfl
  have m_need_state : mg "need_state" = some (.ref _) := He.glo_ok X G (c.fact 7 (f := .glo "need_state") rfl)
  obtain ⟨fd_can_use, F_can_use⟩ := c.def_ 11 (d := d_can_use) rfl
  have m_can_use : mg "can_use" = some (.ref _) := He.glo_ok X G (c.fact 11 (f := .glo "can_use") rfl)
  obtain ⟨fd_usable_in, F_usable_in⟩ := c.def_ 12 (d := d_usable_in) rfl
  have m_usable_in : mg "usable_in" = some (.ref _) := He.glo_ok X G (c.fact 12 (f := .glo "usable_in") rfl)
  obtain ⟨fd_usable, F_usable⟩ := c.def_ 13 (d := d_usable) rfl
  have m_usable : mg "usable" = some (.ref _) := He.glo_ok X G (c.fact 13 (f := .glo "usable") rfl)
  obtain ⟨fd_need_index, F_need_index⟩ := c.def_ 8 (d := d_need_index) rfl
  have m_need_index : mg "need_index" = some (.ref _) := He.glo_ok X G (c.fact 8 (f := .glo "need_index") rfl)
  obtain ⟨fd_ticked, F_ticked⟩ := c.def_ 14 (d := d_ticked) rfl
  have m_ticked : mg "ticked" = some (.ref _) := He.glo_ok X G (c.fact 14 (f := .glo "ticked") rfl)
  obtain ⟨fd_used, F_used⟩ := c.def_ 15 (d := d_used) rfl
  have m_used : mg "used" = some (.ref _) := He.glo_ok X G (c.fact 15 (f := .glo "used") rfl)
  obtain ⟨fd_need_rule, F_need_rule⟩ := c.def_ 20 (d := d_need_rule) rfl
  have m_need_rule : mg "need_rule" = some (.ref _) := He.glo_ok X G (c.fact 20 (f := .glo "need_rule") rfl)
  obtain ⟨fd_chosen, F_chosen⟩ := c.def_ 21 (d := d_chosen) rfl
  have m_chosen : mg "chosen" = some (.ref _) := He.glo_ok X G (c.fact 21 (f := .glo "chosen") rfl)
  obtain ⟨fd_choice, F_choice⟩ := c.def_ 22 (d := d_choice) rfl
  have m_choice : mg "choice" = some (.ref _) := He.glo_ok X G (c.fact 22 (f := .glo "choice") rfl)
  obtain ⟨fd_run, F_run⟩ := c.def_ 23 (d := d_run) rfl
  have m_run : mg "run" = some (.ref _) := He.glo_ok X G (c.fact 23 (f := .glo "run") rfl)
  obtain ⟨fd_is_demand, F_is_demand⟩ := c.def_ 25 (d := d_is_demand) rfl
  have m_is_demand : mg "is_demand" = some (.ref _) := He.glo_ok X G (c.fact 25 (f := .glo "is_demand") rfl)
  obtain ⟨fd_need_demand, F_need_demand⟩ := c.def_ 26 (d := d_need_demand) rfl
  have m_need_demand : mg "need_demand" = some (.ref _) := He.glo_ok X G (c.fact 26 (f := .glo "need_demand") rfl)
  obtain ⟨fd_need_both, F_need_both⟩ := c.def_ 28 (d := d_need_both) rfl
  have m_need_both : mg "need_both" = some (.ref _) := He.glo_ok X G (c.fact 28 (f := .glo "need_both") rfl)
  obtain ⟨fd_all_states, F_all_states⟩ := c.def_ 16 (d := d_all_states) rfl
  have m_all_states : mg "all_states" = some (.ref _) := He.glo_ok X G (c.fact 16 (f := .glo "all_states") rfl)
  obtain ⟨fd_served, F_served⟩ := c.def_ 27 (d := d_served) rfl
  have m_served : mg "served" = some (.ref _) := He.glo_ok X G (c.fact 27 (f := .glo "served") rfl)
  obtain ⟨fd_lasts_with, F_lasts_with⟩ := c.def_ 29 (d := d_lasts_with) rfl
  have m_lasts_with : mg "lasts_with" = some (.ref _) := He.glo_ok X G (c.fact 29 (f := .glo "lasts_with") rfl)
  obtain ⟨fd_digit, F_digit⟩ := c.def_ 30 (d := d_digit) rfl
  have m_digit : mg "digit" = some (.ref _) := He.glo_ok X G (c.fact 30 (f := .glo "digit") rfl)
  obtain ⟨fd_parse_store, F_parse_store⟩ := c.def_ 31 (d := d_parse_store) rfl
  have m_parse_store : mg "parse_store" = some (.ref _) := He.glo_ok X G (c.fact 31 (f := .glo "parse_store") rfl)
  obtain ⟨fd_ranks, F_ranks⟩ := c.def_ 17 (d := d_ranks) rfl
  have m_ranks : mg "ranks" = some (.ref _) := He.glo_ok X G (c.fact 17 (f := .glo "ranks") rfl)
  obtain ⟨fd_longest, F_longest⟩ := c.def_ 18 (d := d_longest) rfl
  have m_longest : mg "longest" = some (.ref _) := He.glo_ok X G (c.fact 18 (f := .glo "longest") rfl)
  obtain ⟨fd_course, F_course⟩ := c.def_ 19 (d := d_course) rfl
  have m_course : mg "course" = some (.ref _) := He.glo_ok X G (c.fact 19 (f := .glo "course") rfl)
  obtain ⟨fd__law_alone, F__law_alone⟩ := c.def_ 37 (d := d__law_alone) rfl
  have m__law_alone : mg "_law_alone" = some (.ref _) := He.glo_ok X G (c.fact 37 (f := .glo "_law_alone") rfl)
  obtain ⟨fd_Bench_redo, F_Bench_redo⟩ := c.def_ 44 (d := d_Bench_redo) rfl
  have gm_Bench_redo : Meth K (He.ga K "Bench") "redo" _ := He.meth_ok (c.fact 91 (f := .meth "Bench" "redo") rfl)
  obtain ⟨fd_Bench___init__, F_Bench___init__⟩ := c.def_ 39 (d := d_Bench___init__) rfl
  have gm_Bench___init__ : Meth K (He.ga K "Bench") "__init__" _ := He.meth_ok (c.fact 86 (f := .meth "Bench" "__init__") rfl)
  obtain ⟨fd_law, F_law⟩ := c.def_ 38 (d := d_law) rfl
  have e := hfa.symm.trans (He.glo_ok X G (c.fact 38 (f := .glo "law") rfl))
  cases e
  have b := FunD.bindsA (ps := ["_law_script"]) F_law fun _ _ _ _ _ _ us hl => match us, hl with | [_], _ => rfl
  refine ⟨fd_law, fun s v => b s [v] rfl, fun base TB_law => ?_⟩
  have CL : FnOk P w K mg base (L2N.CX P w) 1 _ fd__law_cell ["_law_script", "_law_k"] (spCell K [(He.tabOf K (He.codeOf K ("law", none)), ("law" : Str) ++ ".<locals>." ++ "<lambda>")]) := ok__law_cell F__law_cell n_len
  have CR : FnOk P w K mg base (L2N.CX P w) 2 _ fd__law_rounds ["_law_script", "_law_most"] (spRounds K [(He.tabOf K (He.codeOf K ("law", none)), ("law" : Str) ++ ".<locals>." ++ "<lambda>")]) := ok__law_rounds F__law_rounds CL m__law_cell F__law_cell.kp (F__law_cell.bindsN fun _ _ _ _ _ _ us hl => match us, hl with | [_, _], _ => rfl) n_range n_max n_min n_len
  have m_WearError : mg "WearError" = some (.ref _) := He.glo_ok X G (c.fact 51 (f := .glo "WearError") rfl)
  have scT : FnScope ["_law_deed", "_law_e"] ["_law_deed"] (defScope s__law_met) := ⟨rfl, rfl, rfl, by decide +kernel, rfl, by decide +kernel, by decide +kernel⟩
  have TL_law : TMok P w K mg base 7 "_law_met" "_law_deed" (("law" : Str) ++ ".<locals>." ++ "<lambda>") := mk_met F__law_met rfl m__law_met scT (F__law_met.bindsN fun _ _ _ _ _ _ us hl => match us, hl with | [_], _ => rfl) rfl (.inl rfl) rfl m_WearError (by decide) rfl rfl (by decide) (by decide) tab.W
  have C__law_drawn : Cal P w K mg base [(He.tabOf K (He.codeOf K ("law", none)), ("law" : Str) ++ ".<locals>." ++ "<lambda>")] "_law_drawn" 1 ["_law_cell_here", "_law_k"] g__law_drawn := cal__law_drawn F__law_drawn m__law_drawn 
  have C__law_roll : Cal P w K mg base [(He.tabOf K (He.codeOf K ("law", none)), ("law" : Str) ++ ".<locals>." ++ "<lambda>")] "_law_roll" 2 ["_law_dice", "_law_many"] g__law_roll := cal__law_roll F__law_roll m__law_roll C__law_drawn
  have C_is_whole : Cal P w K mg base [(He.tabOf K (He.codeOf K ("law", none)), ("law" : Str) ++ ".<locals>." ++ "<lambda>")] "is_whole" 1 ["value", "low", "high"] g_is_whole := cal_is_whole F_is_whole m_is_whole n_isinstance n_int n_bool
  have C_is_part : Cal P w K mg base [(He.tabOf K (He.codeOf K ("law", none)), ("law" : Str) ++ ".<locals>." ++ "<lambda>")] "is_part" 2 ["value"] g_is_part := cal_is_part F_is_part m_is_part n_isinstance n_tuple n_len C_is_whole
  have C_is_store : Cal P w K mg base [(He.tabOf K (He.codeOf K ("law", none)), ("law" : Str) ++ ".<locals>." ++ "<lambda>")] "is_store" 3 ["value"] g_is_store := cal_is_store F_is_store m_is_store n_isinstance n_tuple n_len n_all C_is_part
  have C_need_store : Cal P w K mg base [(He.tabOf K (He.codeOf K ("law", none)), ("law" : Str) ++ ".<locals>." ++ "<lambda>")] "need_store" 4 ["store"] g_need_store := cal_need_store F_need_store m_need_store C_is_store X_InvalidStore
  have C_need_part : Cal P w K mg base [(He.tabOf K (He.codeOf K ("law", none)), ("law" : Str) ++ ".<locals>." ++ "<lambda>")] "need_part" 3 ["part"] g_need_part := cal_need_part F_need_part m_need_part C_is_part X_InvalidPart
  have C_with_part : Cal P w K mg base [(He.tabOf K (He.codeOf K ("law", none)), ("law" : Str) ++ ".<locals>." ++ "<lambda>")] "with_part" 5 ["store", "part"] g_with_part := cal_with_part F_with_part m_with_part n_len C_need_store C_need_part X_TooMany
  have C_fresh : Cal P w K mg base [(He.tabOf K (He.codeOf K ("law", none)), ("law" : Str) ++ ".<locals>." ++ "<lambda>")] "fresh" 1 ["store"] g_fresh := cal_fresh F_fresh m_fresh n_len
  have C_new : Cal P w K mg base [(He.tabOf K (He.codeOf K ("law", none)), ("law" : Str) ++ ".<locals>." ++ "<lambda>")] "new" 5 ["store"] g_new := cal_new F_new m_new C_need_store C_fresh
  have C_good_state : Cal P w K mg base [(He.tabOf K (He.codeOf K ("law", none)), ("law" : Str) ++ ".<locals>." ++ "<lambda>")] "good_state" 2 ["store", "value"] g_good_state := cal_good_state F_good_state m_good_state n_isinstance n_tuple n_len n_enumerate n_all C_is_whole
  have C_need_state : Cal P w K mg base [(He.tabOf K (He.codeOf K ("law", none)), ("law" : Str) ++ ".<locals>." ++ "<lambda>")] "need_state" 5 ["store", "state"] g_need_state := cal_need_state F_need_state m_need_state C_need_store C_good_state X_InvalidState
  have C_can_use : Cal P w K mg base [(He.tabOf K (He.codeOf K ("law", none)), ("law" : Str) ++ ".<locals>." ++ "<lambda>")] "can_use" 1 ["store", "state", "index"] g_can_use := cal_can_use F_can_use m_can_use 
  have C_usable_in : Cal P w K mg base [(He.tabOf K (He.codeOf K ("law", none)), ("law" : Str) ++ ".<locals>." ++ "<lambda>")] "usable_in" 2 ["store", "state"] g_usable_in := cal_usable_in F_usable_in m_usable_in n_range n_len C_can_use
  have C_usable : Cal P w K mg base [(He.tabOf K (He.codeOf K ("law", none)), ("law" : Str) ++ ".<locals>." ++ "<lambda>")] "usable" 6 ["store", "state"] g_usable := cal_usable F_usable m_usable n_tuple C_need_state C_usable_in
  have C_need_index : Cal P w K mg base [(He.tabOf K (He.codeOf K ("law", none)), ("law" : Str) ++ ".<locals>." ++ "<lambda>")] "need_index" 2 ["store", "index"] g_need_index := cal_need_index F_need_index m_need_index n_len C_is_whole X_InvalidIndex
  have C_ticked : Cal P w K mg base [(He.tabOf K (He.codeOf K ("law", none)), ("law" : Str) ++ ".<locals>." ++ "<lambda>")] "ticked" 1 ["store", "state", "used_one"] g_ticked := cal_ticked F_ticked m_ticked n_enumerate n_max n_tuple
  have C_used : Cal P w K mg base [(He.tabOf K (He.codeOf K ("law", none)), ("law" : Str) ++ ".<locals>." ++ "<lambda>")] "used" 6 ["store", "state", "index"] g_used := cal_used F_used m_used C_need_state C_need_index C_can_use C_ticked X_Worn
  have C_need_rule : Cal P w K mg base [(He.tabOf K (He.codeOf K ("law", none)), ("law" : Str) ++ ".<locals>." ++ "<lambda>")] "need_rule" 1 ["rule"] g_need_rule := cal_need_rule F_need_rule m_need_rule n_isinstance n_str X_InvalidRule
  have C_chosen : Cal P w K mg base [(He.tabOf K (He.codeOf K ("law", none)), ("law" : Str) ++ ".<locals>." ++ "<lambda>")] "chosen" 3 ["store", "state", "rule"] g_chosen := cal_chosen F_chosen m_chosen n_min C_usable_in
  have C_choice : Cal P w K mg base [(He.tabOf K (He.codeOf K ("law", none)), ("law" : Str) ++ ".<locals>." ++ "<lambda>")] "choice" 6 ["store", "state", "rule"] g_choice := cal_choice F_choice m_choice C_need_state C_need_rule C_chosen
  have C_run : Cal P w K mg base [(He.tabOf K (He.codeOf K ("law", none)), ("law" : Str) ++ ".<locals>." ++ "<lambda>")] "run" 6 ["store", "state", "rule", "ticks"] g_run := cal_run F_run m_run n_range C_need_state C_need_rule C_is_whole C_chosen C_ticked X_InvalidTicks
  have C_is_demand : Cal P w K mg base [(He.tabOf K (He.codeOf K ("law", none)), ("law" : Str) ++ ".<locals>." ++ "<lambda>")] "is_demand" 2 ["value"] g_is_demand := cal_is_demand F_is_demand m_is_demand n_isinstance n_tuple n_len n_all C_is_whole
  have C_need_demand : Cal P w K mg base [(He.tabOf K (He.codeOf K ("law", none)), ("law" : Str) ++ ".<locals>." ++ "<lambda>")] "need_demand" 3 ["demand"] g_need_demand := cal_need_demand F_need_demand m_need_demand C_is_demand X_InvalidDemand
  have C_need_both : Cal P w K mg base [(He.tabOf K (He.codeOf K ("law", none)), ("law" : Str) ++ ".<locals>." ++ "<lambda>")] "need_both" 6 ["store", "state", "demand"] g_need_both := cal_need_both F_need_both m_need_both C_need_state C_need_demand
  have C_all_states : Cal P w K mg base [(He.tabOf K (He.codeOf K ("law", none)), ("law" : Str) ++ ".<locals>." ++ "<lambda>")] "all_states" 1 ["store"] g_all_states := cal_all_states F_all_states m_all_states n_range
  have C_served : Cal P w K mg base [(He.tabOf K (He.codeOf K ("law", none)), ("law" : Str) ++ ".<locals>." ++ "<lambda>")] "served" 3 ["store", "demand"] g_served := cal_served F_served m_served n_len n_range n_all n_max C_all_states C_usable_in C_ticked
  have C_lasts_with : Cal P w K mg base [(He.tabOf K (He.codeOf K ("law", none)), ("law" : Str) ++ ".<locals>." ++ "<lambda>")] "lasts_with" 7 ["store", "state", "demand"] g_lasts_with := cal_lasts_with F_lasts_with m_lasts_with C_need_both C_served
  have C_digit : Cal P w K mg base [(He.tabOf K (He.codeOf K ("law", none)), ("law" : Str) ++ ".<locals>." ++ "<lambda>")] "digit" 1 ["word"] g_digit := cal_digit F_digit m_digit n_len n_int X_InvalidText
  have C_parse_store : Cal P w K mg base [(He.tabOf K (He.codeOf K ("law", none)), ("law" : Str) ++ ".<locals>." ++ "<lambda>")] "parse_store" 4 ["text"] g_parse_store := cal_parse_store F_parse_store m_parse_store n_isinstance n_str n_tuple C_digit C_is_store X_InvalidText
  have C_ranks : Cal P w K mg base [(He.tabOf K (He.codeOf K ("law", none)), ("law" : Str) ++ ".<locals>." ++ "<lambda>")] "ranks" 3 ["store"] g_ranks := cal_ranks F_ranks m_ranks n_all C_all_states C_usable_in C_ticked
  have C_longest : Cal P w K mg base [(He.tabOf K (He.codeOf K ("law", none)), ("law" : Str) ++ ".<locals>." ++ "<lambda>")] "longest" 6 ["store", "state"] g_longest := cal_longest F_longest m_longest n_tuple C_need_state C_ranks C_usable_in C_ticked X_ForEver
  have C_course : Cal P w K mg base [(He.tabOf K (He.codeOf K ("law", none)), ("law" : Str) ++ ".<locals>." ++ "<lambda>")] "course" 6 ["store", "state"] g_course := cal_course F_course m_course n_len C_need_state C_ranks C_usable_in C_ticked X_Ends
  have C__law_alone : Cal P w K mg base [(He.tabOf K (He.codeOf K ("law", none)), ("law" : Str) ++ ".<locals>." ++ "<lambda>")] "_law_alone" 1 ["_law_e", "_law_own"] (g__law_alone (KA K)) := cal__law_alone F__law_alone m__law_alone n_isinstance n_ValueError n_range X_InvalidPart X_InvalidStore X_InvalidState X_InvalidIndex X_InvalidRule X_InvalidTicks X_InvalidDemand X_InvalidText X_Worn X_ForEver X_Ends X_TooMany X_NothingToUndo tab
  have M_redo : CalM P w K mg base [(He.tabOf K (He.codeOf K ("law", none)), ("law" : Str) ++ ".<locals>." ++ "<lambda>")] "redo" 1 ["self"] g_Bench_redo := cal_Bench_redo F_Bench_redo gm_Bench_redo X_NothingToUndo bc A_undone A_earlier A_now
  have CI : CalI P w K mg base [(He.tabOf K (He.codeOf K ("law", none)), ("law" : Str) ++ ".<locals>." ++ "<lambda>")] 5 ["self", "store"] g_Bench___init__ := cal_Bench___init__ F_Bench___init__ mkr gC C_need_store C_fresh bc A_store A_now A_earlier A_undone
  exact ok_law F_law CR m__law_rounds F__law_rounds.kp (F__law_rounds.bindsN fun _ _ _ _ _ _ us hl => match us, hl with | [_, _], _ => rfl) n_str n_enumerate n_all C__law_roll C_with_part C_new C_usable C_used C_choice C_run C_lasts_with C_parse_store C_longest C_course C__law_alone M_redo bc CI TL_law TB_law (by simp) (fun p hp _ => by simp at hp; rw [hp]) good
end SW
open PySem PySem.W PySem.Calls PyProof.Rows
theorem PySem.Challenge.cw_sparewear_k21_errors_apart_holds : PySem.Challenge.rw_sparewear_k21_errors_apart.Holds := by
  w_on; o_law
  refine HandSHeadRun.head_any (r := OpenLaw.row PySem.Challenge.rw_sparewear_k21_errors_apart) (q := view (OpenLaw.row PySem.Challenge.rw_sparewear_k21_errors_apart).prog [62]) (H := SW.hk) (ob := SW.ob) (M := 20000) (loose := SW.names) (d := HandSHeadRun.topDef (OpenLaw.row PySem.Challenge.rw_sparewear_k21_errors_apart).prog 62) (kwd := []) SW.ob_eq
    (by kernel_rfl) (fun s => by kernel_rfl) SW.run (by kernel_rfl) (by kernel_rfl) (by kernel_rfl) (by rfl) (by first | assumption | decide +kernel) (by decide +kernel) ⟨rfl, rfl, rfl, rfl, rfl, by decide +kernel⟩ ?hw ?hc
  case hw => w_witness2
  case hc =>
    refine LamX.walk_ofTsE (l := PySem.Challenge.rw_sparewear_k21_errors_apart) (n := 63) (k := 10) (x := "_law_script") (CX := fun w => L2N.CX (PySem.Challenge.rw_sparewear_k21_errors_apart).prog w) rfl (by decide) (by kernel_rfl) ⟨rfl, by decide, by decide⟩ ?F ?CX
    case CX => exact fun w H s e s' z => by exact DL.z_of z
    case F =>
    intro w mg fa h Y G hmg0
    obtain ⟨K, KX, c⟩ := Y
    have hmg : mg ("law" : PySem.Str) = some (.ref fa) := by
      have e : (HandSHeadRun.topDef (OpenLaw.row PySem.Challenge.rw_sparewear_k21_errors_apart).prog 62).name = ("law" : PySem.Str) := by kernel_rfl
      rw [← e]
      exact hmg0
    obtain ⟨fd, hb, hF⟩ := SW.facts (P := (PySem.Challenge.rw_sparewear_k21_errors_apart).prog) (w := w) KX G hmg c.t.d (DL.exTab_of c.more) (SW.good _ (DL.exTab_inj (DL.exTab_of c.more)))
    have key : ∀ p ∈ SW.tf.map (He.cT K), ∃ t ∈ SW.tf, He.cT K t = p := fun p hp => List.mem_map.mp hp
    have memT : ∀ t ∈ SW.tf, He.cT K t ∈ SW.tf.map (He.cT K) := fun t ht => List.mem_map.mpr ⟨t, ht, rfl⟩
    refine ⟨K, KX, fd, SW.tf.map (He.cT K), DL.spLaw K [(He.tabOf K (He.codeOf K ("law", none)), ("law" : PySem.Str) ++ ".<locals>." ++ "<lambda>")], fun p hp => ?_, fun p hp => ?_, fun p hp => ?_, hb, fun H a ns hl _ hT hS => ⟨a, ns, rfl, hS, Nat.le_trans hl (by decide), DL.tabs_empty fun p hp => ?_, fun _ => rfl⟩, fun base _ _ hTab => hF base (hTab _ (memT ("law", none) (by simp [SW.tf])))⟩
    · obtain ⟨t, ht, e⟩ := key p hp; rw [← e]; exact c.empty _ ht
    · obtain ⟨t, ht, e⟩ := key p hp; rw [← e]; exact c.out _ ht
    · obtain ⟨t, ht, e⟩ := key p hp; rw [← e]; exact codeHd_of_K KX (c.hd _ ht)
    · simp only [List.mem_cons, List.not_mem_nil, or_false] at hp
      rw [hp]; exact hT _ (memT ("law", none) (by simp [SW.tf]))

