import PyProof.Rows.All
import Wide.All
import OpenK.AllK
import Wide.FinOn
import HandS.ForSpec
import HandS.ForMost
import PySy71
import HandS.SuiteRaise
import HandS.RaiseFrom
import HandS.ExcInit
import HandS.ExcInitHot
import HandS.ExcField
import PySem.Challenge.RW_tubedrops_s01_answers
import HandS.TupAny
import HandS.TupMul
import HandS.Zip
import HandS.SetFor
import Open.SpecLaws
import KE.OsGo
set_option Elab.async false
set_option linter.all false
set_option maxRecDepth 100000
set_option maxHeartbeats 2000000
/-! A dict's keys that are tuples of tuples: the kind of such a key on the heap (behind it: of tubedrops' racks). -/
namespace Td
open PySem PySem.Spec PyProof.Rows

section
variable {prog : Program} {w : World} {K : Type} [DecidableEq K] (knd : KeyKind prog w K)

/-- each value is the address of a tuple that is such a row -/
inductive RowsAre (h : Heap) : List (List K) → List Value → Prop
  | nil : RowsAre h [] []
  | cons {r : List K} {b : Addr} {rs : List (List K)} {vs : List Value} : IsTupleKey knd h r b → RowsAre h rs vs → RowsAre h (r :: rs) (.ref b :: vs)

/-- at a: a tuple of such rows -/
def IsGrid (h : Heap) (g : List (List K)) (a : Addr) : Prop :=
  ∃ o items n, h.get? a = some o ∧ o.cls = .type "tuple" ∧ o.data = .seq items n ∧ RowsAre knd h g items.toList

def rowDraws (g : List (List K)) : Nat := (g.map fun r => r.length + 1).sum
def gridHash (g : List (List K)) : Int := reduceHash (Builtin.Tuple.tupleHashOf (g.map (tupleKeyHash knd)))

variable {knd}
theorem RowsAre.inj {h : Heap} {x y : List (List K)} {vs : List Value} (hx : RowsAre knd h x vs) (hy : RowsAre knd h y vs) : x = y := by
  induction hx generalizing y with
  | nil => cases hy; rfl
  | cons h1 _ ih =>
    cases hy with
    | cons h2 t2 => rw [h1.inj h2, ih t2]

theorem IsGrid.typeIs {s : Shared} {g : List (List K)} {a : Addr} (x : IsGrid knd s.heap g a) : s.TypeIs (.ref a) "tuple" := let ⟨o, _, _, ho, hc, _⟩ := x; ⟨o, ho, hc⟩

theorem IsGrid.inj {h : Heap} {a : Addr} {x y : List (List K)} (hx : IsGrid knd h x a) (hy : IsGrid knd h y a) : x = y := by
  obtain ⟨o, items, n, ho, _, hd, hi⟩ := hx
  obtain ⟨o', items', n', ho', _, hd', hi'⟩ := hy
  obtain rfl : o = o' := Option.some.inj (ho.symm.trans ho')
  rw [hd] at hd'
  injection hd' with h1 _
  subst h1
  exact hi.inj hi'

theorem RowsAre.keeps {h h' : Heap} {d : Addr} {o : Obj} {es ep} (ho : h.get? d = some o) (hd : o.data = .dict es ep) (hs : Heap.SameBut d h h') {g : List (List K)} {vs : List Value} (x : RowsAre knd h g vs) : RowsAre knd h' g vs := by
  induction x with
  | nil => exact .nil
  | cons h1 _ ih => exact .cons (h1.keeps ho hd hs) ih

theorem IsGrid.keeps {h h' : Heap} {g : List (List K)} {a d : Addr} {o : Obj} {es ep} (x : IsGrid knd h g a) (ho : h.get? d = some o) (hd : o.data = .dict es ep) (hs : Heap.SameBut d h h') : IsGrid knd h' g a := by
  obtain ⟨o', items, n, ho', hc, hd', hi⟩ := x
  have hne : a ≠ d := by
    rintro rfl
    obtain rfl : o' = o := Option.some.inj (ho'.symm.trans ho)
    rw [hd] at hd'; exact nomatch hd'
  exact ⟨o', items, n, (hs.2 a hne).trans ho', hc, hd', hi.keeps ho hd hs⟩

variable {A : Around} {E : Value → Shared → Prop} {s : Shared}

theorem grid_pyHash {g : List (List K)} {a : Addr} {Q : Int → Shared → Prop} (hu : A.units + 1 < cLine) (hk : IsGrid knd s.heap g a) (h : Q (gridHash knd g) { s with toks := s.toks + (rowDraws g + 1) }) :
    wpAny (model prog w) A (pyHash (.ref a)) Q E s := by
  have hT := hk.typeIs
  have hu0 : A.units < cLine := Nat.lt_of_succ_lt hu
  obtain ⟨o, items, n, ho, _, hd, hi⟩ := hk
  unfold pyHash
  first | unfold pyHashByItsType | skip
  first | refine wpAny_bind (wpAny_cRoomFor_or (.inr hu0) ?_) | skip
  refine wpAny_bind (wpAny_specialOf hT F.slot_tuple_hash.lookup ?_)
  show wpAny _ _ (if (some (Value.builtin "tuple.__hash__") == some Value.none) = true then _ else _) Q E s
  rw [if_neg (by rw [beq_builtin_none]; exact Bool.false_ne_true)]
  refine wpAny_bind (wpAny_specialOf hT F.slot_tuple_hash.lookup ?_)
  show wpAny _ _ (callSpecialIfBoundUnlessNone? (.ref a) "__hash__" _ >>= _) Q E s
  refine wpAny_bind (wpAny_callSpecialIfBoundUnlessNone?_slot hT F.slot_tuple_hash (wpAny_call_entry F.slot_tuple_hash hT F.entry_tuple_hash ?_ (F.args_tuple_hash_1 _)))
  show wpAny _ _ (Builtin.Tuple.tupleItemsOf (.ref a) >>= _) _ _ s
  refine wpAny_bind (wpAny_tupleItemsOf ho hd ?_)
  refine wpAny_bind ?_
  rw [← Array.forIn_toList]
  refine wpAny_forIn_list _
    (fun rest (b : Array Int) s' => ∃ done left, g = done ++ left ∧ RowsAre knd s.heap left rest ∧ b.toList = done.map (tupleKeyHash knd) ∧ s' = { s with toks := s.toks + rowDraws done })
    _ ?_ ?_ _ _ ⟨[], g, rfl, hi, rfl, rfl⟩
  · rintro x rest b s' ⟨done, left, rfl, hl, hb, rfl⟩
    cases hl with
    | @cons k b' ks' _ h1 hl' =>
      have e : rowDraws (done ++ [k]) = rowDraws done + (k.length + 1) := by
        unfold rowDraws
        rw [List.map_append, List.sum_append]
        rfl
      refine wpAny_bind (wpAny_pyHash_tuple (knd := knd) (ks := k) (show A.units + 1 < cLine from hu) h1 ?_)
      first
        | exact wpAny_pure ⟨done ++ [k], ks', by simp, hl', by simp [hb], by rw [e]; simp [Nat.add_assoc]⟩
        | exact wpAny_bind (wpAny_pure (wpAny_pure ⟨done ++ [k], ks', by simp, hl', by simp [hb], by rw [e]; simp [Nat.add_assoc]⟩))
  · rintro b s' ⟨done, left, rfl, hl, hb, rfl⟩
    cases hl
    rw [List.append_nil] at h
    show wpAny _ _ (retInt (Builtin.Tuple.tupleHashOf b.toList)) _ _ _
    rw [hb]
    refine wpAny_ret_mkInt ?_
    show wpAny _ _ (if (decide (-(2 : Int) ^ 63 ≤ Builtin.Tuple.tupleHashOf (done.map (tupleKeyHash knd))) && decide (Builtin.Tuple.tupleHashOf (done.map (tupleKeyHash knd)) < 2 ^ 63)) = true then _ else _) Q E _
    unfold gridHash reduceHash at h
    by_cases hr : (decide (-(2 : Int) ^ 63 ≤ Builtin.Tuple.tupleHashOf (done.map (tupleKeyHash knd))) && decide (Builtin.Tuple.tupleHashOf (done.map (tupleKeyHash knd)) < 2 ^ 63)) = true
    · rw [if_pos hr]
      rw [if_pos hr] at h
      exact wpAny_pure (by simpa [Nat.add_assoc] using h)
    · rw [if_neg hr]
      rw [if_neg hr] at h
      exact wpAny_bind (wpAny_rule (wpAny_pure (by simpa [Nat.add_assoc] using h)))

theorem grid_eq_tree {x y : List (List K)} {a b : Addr} {P : Fin → Shared → Prop} (hu : A.units < cLine) (hx : IsGrid knd s.heap x a) (hy : IsGrid knd s.heap y b) (h : P (.done (.ret (.bool (decide (x = y))))) s) :
    wpAny (model prog w) A (Builtin.«tuple.__eq__» ⟨[.ref a, .ref b], []⟩) P E s := by
  have hTb := hy.typeIs
  obtain ⟨oa, xs, na, hoa, _, hda, hia⟩ := hx
  obtain ⟨ob, ys, nb, hob, _, hdb, hib⟩ := hy
  show wpAny _ _ (isInstance (.ref b) (.type "tuple") >>= _) _ _ s
  refine wpAny_bind (wpAny_isInstance hTb isSubtype_tuple_tuple ?_)
  simp only [Bool.not_true, Bool.false_eq_true, if_false]
  refine wpAny_bind (wpAny_tupleItemsOf hoa hda ?_)
  refine wpAny_bind (wpAny_tupleItemsOf hob hdb ?_)
  refine wpAny_bind ?_
  refine wpAny_forIn_list _
    (fun rest r s' => r.1 = none ∧ s' = s ∧ ∃ x' y' xs' ys', rest = List.zip xs' ys' ∧ RowsAre knd s.heap x' xs' ∧ RowsAre knd s.heap y' ys' ∧ decide (x' = y') = decide (x = y) ∧ (xs'.length == ys'.length) = (xs.size == ys.size))
    _ ?_ ?_ _ _ ⟨rfl, rfl, x, y, xs.toList, ys.toList, rfl, hia, hib, rfl, by simp⟩
  · rintro ⟨u, v⟩ rest r s' ⟨hr, rfl, x', y', xs', ys', hz, hx', hy', hdec, hlen⟩
    cases hx' with
    | nil => simp at hz
    | @cons k1 u' x'' xs'' h1 hx'' =>
      cases hy' with
      | nil => simp at hz
      | @cons k2 v' y'' ys'' h2 hy'' =>
        simp only [List.zip_cons_cons, List.cons.injEq, Prod.mk.injEq] at hz
        obtain ⟨⟨rfl, rfl⟩, rfl⟩ := hz
        refine wpAny_bind (wpAny_eqBool_tuple (knd := knd) (x := k1) (y := k2) hu h1 h2 ?_)
        by_cases hk : k1 = k2
        · subst hk
          rw [decide_eq_true rfl]
          simp only [Bool.not_true, Bool.false_eq_true, if_false]
          refine wpAny_pure ⟨rfl, rfl, x'', y'', xs'', ys'', rfl, hx'', hy'', ?_, by simpa using hlen⟩
          rw [← hdec]
          by_cases hxy : x'' = y''
          · simp [hxy]
          · simp [hxy]
        · rw [decide_eq_false hk]
          simp only [Bool.not_false, if_true]
          have hf : decide (x = y) = false := by rw [← hdec]; simp [hk]
          rw [hf] at h
          exact wpAny_bind (wpAny_pure (wpAny_pure (wpAny_pure h)))
  · rintro ⟨r1, r2⟩ s' ⟨hr, rfl, x', y', xs', ys', hz, hx', hy', hdec, hlen⟩
    simp only at hr
    subst hr
    refine wpAny_pure ?_
    have hfin : (xs.size == ys.size) = decide (x = y) := by
      rw [← hdec, ← hlen]
      cases hx' with
      | nil =>
        cases hy' with
        | nil => simp
        | cons _ _ => simp
      | cons _ _ =>
        cases hy' with
        | nil => simp
        | cons _ _ => simp at hz
    show P (.done (.ret (.bool (xs.size == ys.size)))) s'
    rw [hfin]; exact h

theorem grid_eqBool {x y : List (List K)} {a b : Addr} {Q : Bool → Shared → Prop} (hu : A.units + 1 < cLine) (hx : IsGrid knd s.heap x a) (hy : IsGrid knd s.heap y b) (h : Q (decide (x = y)) s) :
    wpAny (model prog w) A (eqBool (.ref a) (.ref b)) Q E s := by
  have hu0 : A.units < cLine := Nat.lt_of_succ_lt hu
  unfold eqBool
  try with_reducible refine wpAny_holding ?_
  show wpAny _ _ (if (Value.ref a == Value.ref b) = true then _ else _) Q E s
  by_cases hab : (Value.ref a == Value.ref b) = true
  · rw [if_pos hab]
    have e : a = b := by have := eq_of_beq hab; injection this
    subst e
    obtain rfl := hx.inj hy
    exact wpAny_bind (wpAny_rule (wpAny_pure (by simpa using h)))
  · rw [if_neg hab]
    exact wpAny_bind (wpAny_richCompare_same_room (op := .Eq) hx.typeIs hy.typeIs F.slot_tuple_eq
      (wpAny_call_entry F.slot_tuple_eq hx.typeIs F.entry_tuple_eq (grid_eq_tree (show A.units + 1 < cLine from hu) hx hy ⟨_, rfl, (fun e => nomatch e), wpAny_truthy_bool h⟩) (F.args_tuple_eq_2 _ _)) hu0)

theorem row_quiet {ks : List K} {a : Addr} {m : Nat} {Q : Bool → Shared → Prop} (hk : IsTupleKey knd s.heap ks a) (h : Q true s) : wpAny (model prog w) A (eqIsQuiet (m + 1) (.ref a)) Q E s := by
  have hT := hk.typeIs
  obtain ⟨o, items, n, ho, _, hd, hi⟩ := hk
  unfold eqIsQuiet
  refine wpAny_bind (wpAny_specialOf hT F.slot_tuple_eq.lookup ?_)
  show wpAny _ _ (isInstance (.ref a) (.type "tuple") >>= _) _ _ s
  refine wpAny_bind (wpAny_isInstance hT isSubtype_tuple_tuple ?_)
  simp only [Bool.not_true, Bool.false_eq_true, if_false]
  refine wpAny_bind (wpAny_seqItems ho hd ?_)
  refine wpAny_bind ?_
  show wpAny _ _ (forIn items _ _) _ _ s
  rw [← Array.forIn_toList]
  refine wpAny_forIn_list _ (fun rest r s' => r.1 = none ∧ s' = s ∧ ∀ v ∈ rest, carriedByValue v = true) _ ?_ ?_ _ _ ⟨rfl, rfl, hi.byValue⟩
  · rintro v rest r s' ⟨hr, rfl, hall⟩
    rw [eqIsQuiet_byValue _ (hall v List.mem_cons_self)]
    refine wpAny_bind (wpAny_pure ?_)
    simp only [Bool.not_true, Bool.false_eq_true, if_false]
    exact wpAny_pure ⟨rfl, rfl, fun u hu' => hall u (List.mem_cons_of_mem _ hu')⟩
  · rintro ⟨r1, r2⟩ s' ⟨hr, rfl, _⟩
    simp only at hr
    subst hr
    exact wpAny_pure h

theorem grid_quiet {g : List (List K)} {a : Addr} {Q : Bool → Shared → Prop} (hk : IsGrid knd s.heap g a) (h : Q true s) : wpAny (model prog w) A (eqIsQuiet 8 (.ref a)) Q E s := by
  have hT := hk.typeIs
  obtain ⟨o, items, n, ho, _, hd, hi⟩ := hk
  unfold eqIsQuiet
  refine wpAny_bind (wpAny_specialOf hT F.slot_tuple_eq.lookup ?_)
  show wpAny _ _ (isInstance (.ref a) (.type "tuple") >>= _) _ _ s
  refine wpAny_bind (wpAny_isInstance hT isSubtype_tuple_tuple ?_)
  simp only [Bool.not_true, Bool.false_eq_true, if_false]
  refine wpAny_bind (wpAny_seqItems ho hd ?_)
  refine wpAny_bind ?_
  show wpAny _ _ (forIn items _ _) _ _ s
  rw [← Array.forIn_toList]
  refine wpAny_forIn_list _ (fun rest r s' => r.1 = none ∧ s' = s ∧ ∃ g', RowsAre knd s.heap g' rest) _ ?_ ?_ _ _ ⟨rfl, rfl, g, hi⟩
  · rintro v rest r s' ⟨hr, rfl, g', hg⟩
    cases hg with
    | cons h1 hg' =>
      refine wpAny_bind (row_quiet (knd := knd) h1 ?_)
      simp only [Bool.not_true, Bool.false_eq_true, if_false]
      exact wpAny_pure ⟨rfl, rfl, _, hg'⟩
  · rintro ⟨r1, r2⟩ s' ⟨hr, rfl, _⟩
    simp only at hr
    subst hr
    exact wpAny_pure h
end

/-- the kind of tuples of tuples -/
def gridKind {prog : Program} {w : World} {K : Type} [DecidableEq K] (knd : KeyKind prog w K) : HeapKind prog w (List (List K)) where
  is := IsGrid knd
  hash := gridHash knd
  draws := fun g => rowDraws g + 1
  room := fun A => A.units + 1 < cLine
  inj := fun hx hy => hx.inj hy
  keeps := fun x ho hd hs => x.keeps ho hd hs
  pyHash := fun hu hk h => grid_pyHash hu hk h
  eqBool := fun hu hx hy h => grid_eqBool hu hx hy h
  quiet := fun hk h => grid_quiet hk h

/-- a kind read by other names of its keys -/
def pullKind {prog : Program} {w : World} {K L : Type} [DecidableEq K] [DecidableEq L] (knd : HeapKind prog w K) (f : L → K) (hf : ∀ x y, f x = f y → x = y) : HeapKind prog w L where
  is := fun h x a => knd.is h (f x) a
  hash := fun x => knd.hash (f x)
  draws := fun x => knd.draws (f x)
  room := knd.room
  inj := fun hx hy => hf _ _ (knd.inj hx hy)
  keeps := fun x ho hd hs => knd.keeps x ho hd hs
  pyHash := fun hu hk h => knd.pyHash hu hk h
  eqBool := fun {A E s x y a b Q} hu hx hy h => knd.eqBool hu hx hy (by
    have e : decide (f x = f y) = decide (x = y) := by
      by_cases q : x = y
      · subst q; simp
      · rw [decide_eq_false q, decide_eq_false fun z => q (hf _ _ z)]
    rw [e]; exact h)
  quiet := fun hk h => knd.quiet hk h

/-! ### tubedrops' racks: a tube lies bottom up -/
def tubeI (l : List Nat) : List Int := l.reverse.map Int.ofNat
def rackI (r : Sy71.Rack) : List (List Int) := r.map tubeI
theorem map_inj_of {α β : Type} {f : α → β} (hf : ∀ x y, f x = f y → x = y) : ∀ (a b : List α), a.map f = b.map f → a = b
  | [], [], _ => rfl
  | [], _ :: _, e => by simp at e
  | _ :: _, [], e => by simp at e
  | x :: a, y :: b, e => by
    rw [List.map_cons, List.map_cons] at e
    injection e with e1 e2
    rw [hf _ _ e1, map_inj_of hf a b e2]
theorem tubeI_inj (x y : List Nat) (e : tubeI x = tubeI y) : x = y := by
  have := map_inj_of (fun a b (h : Int.ofNat a = Int.ofNat b) => Int.ofNat.inj h) _ _ e
  simpa using congrArg List.reverse this
theorem rackI_inj (x y : Sy71.Rack) (e : rackI x = rackI y) : x = y := map_inj_of tubeI_inj _ _ e
def rackKind (prog : Program) (w : World) : HeapKind prog w Sy71.Rack := pullKind (gridKind (intKind prog w)) rackI rackI_inj
end Td

/-! Dicts whose keys are racks: what stands at a tracked address, readings and rules. -/
namespace Td
open PySem PySem.Spec PyProof.Rows L2

/-! ### a rack on the tracked heap -/
def tubeV (l : List Nat) : List V := (tubeI l).map V.int
def TubeAt (H : Hp) (t : Addr) (l : List Nat) : Prop := H t = some (.tup (tubeV l))
def RackAt (H : Hp) (a : Addr) (r : Sy71.Rack) : Prop := ∃ ts : List Addr, H a = some (.tup (ts.map V.ref)) ∧ Paired (TubeAt H) ts r
theorem paired_imp {α β : Type} {F G : α → β → Prop} : ∀ {l₁ : List α} {l₂ : List β}, Paired F l₁ l₂ → (∀ a b, F a b → G a b) → Paired G l₁ l₂
  | _, _, .nil, _ => .nil
  | _, _, .cons r t, f => .cons (f _ _ r) (paired_imp t f)
theorem RackAt.keeps {H H' : Hp} {a : Addr} {r : Sy71.Rack} (x : RackAt H a r) (k : ∀ b xs, H b = some (.tup xs) → H' b = some (.tup xs)) : RackAt H' a r := by
  obtain ⟨ts, h, p⟩ := x
  exact ⟨ts, k _ _ h, paired_imp p fun t l q => k _ _ q⟩

section
variable {P : Program} {w : World} {H : Hp} {h : Heap} {a : Addr}
theorem ints_are : ∀ {ns : List Int} {us : List Value}, Vals (ns.map V.int) us → ItemsAre (intKind P w) ns us
  | [], us, r => by
    cases r
    exact .nil
  | n :: ns, us, r => by
    cases r with
    | cons r1 r2 =>
      obtain ⟨t, rfl⟩ := r1
      exact .cons (by simp [intKind, Value.isInt]) (ints_are r2)
theorem tube_key {t : Addr} {l : List Nat} (ok : HOk P w H h) (e : TubeAt H t l) : IsTupleKey (intKind P w) h (tubeI l) t := by
  obtain ⟨_, its, r, o, h1, h2, n, h3⟩ := (show ObjOk P w H h t (.tup (tubeV l)) from ok t _ e)
  exact ⟨o, its.toArray, n, h1, h2, h3, by simpa using ints_are r⟩
theorem rows_are (ok : HOk P w H h) : ∀ {ts : List Addr} {r : Sy71.Rack} {us : List Value}, Paired (TubeAt H) ts r → Vals (ts.map V.ref) us → RowsAre (intKind P w) h (rackI r) us
  | _, _, _, .nil, v => by
    cases v
    exact .nil
  | _, _, _, .cons h1 t1, v => by
    cases v with
    | cons v1 v2 =>
      cases v1
      exact .cons (tube_key ok h1) (rows_are ok t1 v2)
theorem rack_key {r : Sy71.Rack} (ok : HOk P w H h) (e : RackAt H a r) : (rackKind P w).is h r a := by
  obtain ⟨ts, ha, p⟩ := e
  obtain ⟨_, its, v, o, h1, h2, n, h3⟩ := (show ObjOk P w H h a (.tup (ts.map V.ref)) from ok a _ ha)
  exact ⟨o, its.toArray, n, h1, h2, h3, by simpa using rows_are ok p v⟩
theorem tup_one {xs ys : List V} (h1 : H a = some (.tup xs)) (h2 : H a = some (.tup ys)) : xs = ys := by
  rw [h1] at h2
  cases h2
  rfl
theorem tubeV_inj (x y : List Nat) (e : tubeV x = tubeV y) : x = y :=
  tubeI_inj _ _ (map_inj_of (fun a b (h : V.int a = V.int b) => V.int.inj h) _ _ e)
theorem pairs_inj : ∀ {ts : List Addr} {x y : Sy71.Rack}, Paired (TubeAt H) ts x → Paired (TubeAt H) ts y → x = y
  | _, _, _, .nil, .nil => rfl
  | _, _, _, .cons h1 t1, .cons h2 t2 => by
    rw [tubeV_inj _ _ (tup_one h1 h2), pairs_inj t1 t2]
/-- an address holds one rack -/
theorem RackAt.one {x y : Sy71.Rack} (h1 : RackAt H a x) (h2 : RackAt H a y) : x = y := by
  obtain ⟨ts, e1, p1⟩ := h1
  obtain ⟨us, e2, p2⟩ := h2
  have e := map_inj_of (fun a b (h : V.ref a = V.ref b) => V.ref.inj h) _ _ (tup_one e1 e2)
  subst e
  exact pairs_inj p1 p2
end

/-! ### the dict -/
theorem nodup_putK {κ : Type} [DecidableEq κ] {kvs : List (κ × V)} (h : (kvs.map (·.1)).Nodup) (k : κ) (v : V) : ((putK kvs k v).map (·.1)).Nodup := by
  unfold putK
  split
  · rw [List.map_map]
    have e : ((fun x : κ × V => x.1) ∘ fun kv : κ × V => if kv.1 = k then (kv.1, v) else kv) = fun x => x.1 := by
      funext x
      show (if x.1 = k then (x.1, v) else x).1 = x.1
      split <;> rfl
    rw [e]
    exact h
  · rename_i c
    rw [List.map_append, List.nodup_append]
    refine ⟨h, by simp, fun x hx y hy z => c ?_⟩
    obtain ⟨q, hq, rfl⟩ := List.mem_map.mp hx
    rw [List.mem_singleton.mp hy] at z
    exact List.any_eq_true.mpr ⟨q, hq, decide_eq_true z⟩
theorem valV_key {κ : Type} [DecidableEq κ] {kvs : List (κ × V)} {k : κ} (h : k ∈ kvs.map (·.1)) : (valV kvs k).isSome = true := by
  rw [← valV_any]
  obtain ⟨q, hq, rfl⟩ := List.mem_map.mp h
  exact List.any_eq_true.mpr ⟨q, hq, decide_eq_true rfl⟩
theorem length_le_of {α : Type} [DecidableEq α] : ∀ {l m : List α}, l.Nodup → (∀ x ∈ l, x ∈ m) → l.length ≤ m.length
  | [], _, _, _ => Nat.zero_le _
  | x :: l, m, hn, hs => by
    rw [List.nodup_cons] at hn
    have hx := hs x List.mem_cons_self
    have ih := length_le_of (l := l) (m := m.erase x) hn.2 fun y hy => (List.mem_erase_of_ne fun e => hn.1 (by rw [← e]; exact hy)).mpr (hs y (List.mem_cons_of_mem _ hy))
    rw [List.length_erase_of_mem hx] at ih
    have : 0 < m.length := List.length_pos_of_mem hx
    rw [List.length_cons]
    omega
def rackHash (r : Sy71.Rack) : Int := reduceHash (Builtin.Tuple.tupleHashOf ((rackI r).map fun ks => reduceHash (Builtin.Tuple.tupleHashOf (ks.map hashInt))))
def rackEntry (x : Sy71.Rack × Addr × Value) : DictEntry := ⟨rackHash x.1, .ref x.2.1, x.2.2⟩
theorem rackEntry_is (P : Program) (w : World) (x : Sy71.Rack × Addr × Value) : entryOfKey (rackKind P w) x = rackEntry x := rfl
abbrev KR : List (Sy71.Rack × Addr × V) → List (Sy71.Rack × Addr × Value) → Prop := Paired fun p q => p.1 = q.1 ∧ p.2.1 = q.2.1 ∧ RelV p.2.2 q.2.2
/-- what stands at a: a dict with those keys (and where these lie) and values -/
def dictP (a : Addr) (xs : List (Sy71.Rack × Addr × V)) (h : Heap) : Prop := xs.length ≤ sizeLine ∧ (a == sysModules) = false ∧
  ∃ vs, KR xs vs ∧ ∃ o es ep, h.get? a = some o ∧ o.ExactDict ∧ o.data = .dict es ep ∧ es.toList = vs.map rackEntry ∧ (vs.map (·.1)).Nodup
def dictO (a : Addr) (xs : List (Sy71.Rack × Addr × V)) : HO := .ext (dictP a xs)
/-- at a: a dict of racks -/
def RDict (H : Hp) (a : Addr) (kvs : List (Sy71.Rack × V)) : Prop := ∃ xs, H a = some (dictO a xs) ∧ kvs = xs.map (fun x => (x.1, x.2.2)) ∧ (∀ x ∈ xs, RackAt H x.2.1 x.1) ∧ (kvs.map (·.1)).Nodup
theorem RDict.keeps {H H' : Hp} {a : Addr} {kvs : List (Sy71.Rack × V)} (x : RDict H a kvs) (k : ∀ b xs, H b = some (.tup xs) → H' b = some (.tup xs)) (ka : ∀ o, H a = some o → H' a = some o) : RDict H' a kvs := by
  obtain ⟨xs, h, e, q, hn⟩ := x
  exact ⟨xs, ka _ h, e, fun z hz => (q z hz).keeps k, hn⟩
theorem RDict.same {H H' : Hp} {a : Addr} {kvs : List (Sy71.Rack × V)} (x : RDict H a kvs) (k : Same H H') : RDict H' a kvs := x.keeps (fun _ _ e => k _ _ e) fun _ e => k _ _ e
theorem RackAt.same {H H' : Hp} {a : Addr} {r : Sy71.Rack} (x : RackAt H a r) (k : Same H H') : RackAt H' a r := x.keeps fun _ _ e => k _ _ e
theorem RDict.length_le {H : Hp} {a : Addr} {kvs : List (Sy71.Rack × V)} (x : RDict H a kvs) {L : List Sy71.Rack} (h : ∀ r, (valV kvs r).isSome = true → r ∈ L) : kvs.length ≤ L.length := by
  obtain ⟨xs, _, _, _, hn⟩ := x
  have := length_le_of hn fun r hr => h r (valV_key hr)
  rwa [List.length_map] at this
theorem dictO_tup {a : Addr} {xs : List (Sy71.Rack × Addr × V)} {ys : List V} : HO.tup ys ≠ dictO a xs := fun z => by
  unfold dictO at z
  cases z

theorem KR.val : ∀ {xs : List (Sy71.Rack × Addr × V)} {vs : List (Sy71.Rack × Addr × Value)}, KR xs vs → ∀ k : Sy71.Rack, RelO (valV (xs.map fun x => (x.1, x.2.2)) k) ((atKey vs k).map (·.2))
  | _, _, .nil, k => by simp [valV, atKey, RelO]
  | _, _, .cons (a := p) (b := q) r t, k => by
    obtain ⟨e1, _, e3⟩ := r
    by_cases c : p.1 = k
    · have c' : q.1 = k := e1 ▸ c
      simp only [List.map_cons, valV, atKey, List.find?_cons, c, c', decide_true, Option.map_some]
      exact e3
    · have c' : ¬ q.1 = k := e1 ▸ c
      have ih := KR.val t k
      simpa only [List.map_cons, valV, atKey, List.find?_cons, c, c', decide_false] using ih
def putX (xs : List (Sy71.Rack × Addr × V)) (k : Sy71.Rack) (b : Addr) (y : V) : List (Sy71.Rack × Addr × V) :=
  if (valV (xs.map fun x => (x.1, x.2.2)) k).isSome then xs.map fun x => if x.1 = k then (x.1, x.2.1, y) else x else xs ++ [(k, b, y)]
theorem putX_kv (xs : List (Sy71.Rack × Addr × V)) (k : Sy71.Rack) (b : Addr) (y : V) : (putX xs k b y).map (fun x => (x.1, x.2.2)) = putK (xs.map fun x => (x.1, x.2.2)) k y := by
  unfold putX putK
  rw [valV_any]
  split
  · rw [List.map_map, List.map_map]
    apply List.map_congr_left
    intro x _
    show (fun x : Sy71.Rack × Addr × V => (x.1, x.2.2)) (if x.1 = k then (x.1, x.2.1, y) else x) = if x.1 = k then (x.1, y) else (x.1, x.2.2)
    by_cases c : x.1 = k
    · rw [if_pos c, if_pos c]
    · rw [if_neg c, if_neg c]
  · rw [List.map_append]
    rfl
theorem putX_mem {xs : List (Sy71.Rack × Addr × V)} {k : Sy71.Rack} {b : Addr} {y : V} {F : Sy71.Rack → Addr → Prop} (h : ∀ x ∈ xs, F x.1 x.2.1) (hb : F k b) : ∀ x ∈ putX xs k b y, F x.1 x.2.1 := by
  intro x hx
  unfold putX at hx
  split at hx
  · obtain ⟨z, hz, rfl⟩ := List.mem_map.mp hx
    by_cases c : z.1 = k
    · rw [if_pos c]
      exact h z hz
    · rw [if_neg c]
      exact h z hz
  · rcases List.mem_append.mp hx with hx | hx
    · exact h x hx
    · rw [List.mem_singleton.mp hx]
      exact hb
theorem putX_length (xs : List (Sy71.Rack × Addr × V)) (k : Sy71.Rack) (b : Addr) (y : V) : (putX xs k b y).length ≤ xs.length + 1 := by
  unfold putX
  split
  · rw [List.length_map]; omega
  · rw [List.length_append]; simp
theorem KR.repl {k : Sy71.Rack} {y : V} {u : Value} (ry : RelV y u) : ∀ {xs : List (Sy71.Rack × Addr × V)} {vs : List (Sy71.Rack × Addr × Value)}, KR xs vs → KR (xs.map fun x => if x.1 = k then (x.1, x.2.1, y) else x) (vs.map (putAt k u))
  | _, _, .nil => .nil
  | _, _, .cons (a := p) (b := q) r t => by
    rw [List.map_cons, List.map_cons]
    refine .cons ?_ (KR.repl ry t)
    obtain ⟨e1, e2, e3⟩ := r
    by_cases c : p.1 = k
    · have c' : q.1 = k := e1 ▸ c
      rw [if_pos c, putAt, if_pos c']
      exact ⟨e1, e2, ry⟩
    · have c' : ¬ q.1 = k := e1 ▸ c
      rw [if_neg c, putAt, if_neg c']
      exact ⟨e1, e2, e3⟩
theorem KR.snoc : ∀ {xs ys : List (Sy71.Rack × Addr × V)} {vs us : List (Sy71.Rack × Addr × Value)}, KR xs vs → KR ys us → KR (xs ++ ys) (vs ++ us)
  | _, _, _, _, .nil, s => s
  | _, _, _, _, .cons r t, s => .cons r (KR.snoc t s)
theorem KR.put {xs : List (Sy71.Rack × Addr × V)} {vs : List (Sy71.Rack × Addr × Value)} (r : KR xs vs) {k : Sy71.Rack} {b : Addr} {y : V} {u : Value} (ry : RelV y u) : KR (putX xs k b y) (storedH vs k b u) := by
  have q := (r.val k).isSome_eq
  rw [Option.isSome_map] at q
  unfold putX storedH
  rw [q]
  split
  · exact r.repl ry
  · exact r.snoc (.cons ⟨rfl, rfl, ry⟩ .nil)

section
variable {P : Program} {w : World} {H : Hp} {h : Heap} {a : Addr}
theorem dict_of {xs : List (Sy71.Rack × Addr × V)} (ok : HOk P w H h) (e : H a = some (dictO a xs)) (hk : ∀ x ∈ xs, RackAt H x.2.1 x.1) : xs.length ≤ sizeLine ∧ (a == sysModules) = false ∧
    ∃ vs, KR xs vs ∧ h.DictOfH (rackKind P w) a vs := by
  obtain ⟨⟨z, y, vs, r, o, es, ep, h1, h2, h3, h4, h5⟩, _⟩ := (show ObjOk P w H h a (dictO a xs) from ok a _ e)
  refine ⟨z, y, vs, r, o, es, ep, h1, h2, h3, h4, ?_, h5⟩
  have all : ∀ {l : List (Sy71.Rack × Addr × V)} {m : List (Sy71.Rack × Addr × Value)}, KR l m → (∀ x ∈ l, RackAt H x.2.1 x.1) → ∀ x ∈ m, (rackKind P w).is h x.1 x.2.1 := by
    intro l m q
    induction q with
    | nil => intro _ x hx; exact nomatch hx
    | cons hq t ih =>
      intro hl x hx
      rcases List.mem_cons.mp hx with e | hx
      · subst e
        obtain ⟨e1, e2, _⟩ := hq
        have := hl _ List.mem_cons_self
        rw [e1, e2] at this
        exact rack_key ok this
      · exact ih (fun x hx => hl x (List.mem_cons_of_mem _ hx)) x hx
  exact all r hk
theorem dict_ok {xs : List (Sy71.Rack × Addr × V)} {vs : List (Sy71.Rack × Addr × Value)} {H' : Hp} (z : xs.length ≤ sizeLine) (y : (a == sysModules) = false) (r : KR xs vs) (d : h.DictOfH (rackKind P w) a vs) : ObjOk P w H' h a (dictO a xs) := by
  obtain ⟨o, es, ep, h1, h2, h3, h4, _, h5⟩ := d
  refine ⟨⟨z, y, vs, r, o, es, ep, h1, h2, h3, h4, h5⟩, ⟨o, h1⟩, fun g1 g2 p k => ?_⟩
  obtain ⟨z, y, vs, r, o, es, ep, h1, h2⟩ := p
  exact ⟨z, y, vs, r, o, es, ep, k o h1, h2⟩
end

/-! ### readings and rules -/
section
variable {X : Cx} {pins : List (Addr × Obj)} {σ : L2.St} {H : Hp} {s : Shared} {a b : Addr} {v : V} {u r : Value} {A : Around} {E : Value → Shared → Prop} {kvs : List (Sy71.Rack × V)} {k : Sy71.Rack}
theorem rd_types (I : Inv X pins σ H s) (g : RDict H a kvs) : s.TypeIs (.ref a) "dict" ∧ (∀ b, Value.ref a = .ref b → ∃ ob, s.heap.get? b = some ob ∧ ob.dict = none) ∧ (a == sysModules) = false := by
  obtain ⟨xs, e, _, hk, _⟩ := g
  obtain ⟨_, y, vs, _, dd⟩ := dict_of I.hok e hk
  refine ⟨dd.typeIs, fun b q => ?_, y⟩
  cases q
  obtain ⟨ob, _, _, h1, h2, _⟩ := dd
  exact ⟨ob, h1, h2.2.1⟩
theorem rd_getItem {Q : Value → Shared → Prop} (hu : A.units + 2 < cLine) (I : Inv X pins σ H s) (g : RDict H a kvs) (gk : RackAt H b k) (l : valV kvs k = some v) (h : ∀ w' s', Inv X pins σ H s' → RelV v w' → Q w' s') :
    wpAny (model X.prog X.w) A (getItem (.ref a) (.ref b)) Q E s := by
  obtain ⟨xs, e, rfl, hk, hnd⟩ := g
  obtain ⟨z, hd, vs, rel, dd⟩ := dict_of I.hok e hk
  obtain ⟨w', hw, rw'⟩ := RelO.some_of (v := v) (o := (atKey vs k).map (·.2)) (by rw [← l]; exact rel.val k)
  obtain ⟨p, hp, hp2⟩ := Option.map_eq_some_iff.mp hw
  refine wpAny_getItem_heap (knd := rackKind X.prog X.w) (show A.units + 1 + 1 < cLine from hu) (rack_key I.hok gk) dd hp ?_
  rw [hp2]
  exact h w' _ (I.tok _) rw'
theorem rd_in {Q : Value → Shared → Prop} (hu : A.units + 2 < cLine) (I : Inv X pins σ H s) (g : RDict H a kvs) (gk : RackAt H b k) (h : ∀ s', Inv X pins σ H s' → Q (.bool (valV kvs k).isSome) s') :
    wpAny (model X.prog X.w) A (compareOp .In (.ref b) (.ref a)) Q E s := by
  obtain ⟨xs, e, rfl, hk, hnd⟩ := g
  obtain ⟨z, hd, vs, rel, dd⟩ := dict_of I.hok e hk
  refine wpAny_in_heap (knd := rackKind X.prog X.w) (show A.units + 1 + 1 < cLine from hu) (rack_key I.hok gk) hd dd ?_
  have q := (rel.val k).isSome_eq
  rw [Option.isSome_map] at q
  rw [← q]
  exact h _ (I.tok _)
theorem rd_notIn {Q : Value → Shared → Prop} (hu : A.units + 2 < cLine) (I : Inv X pins σ H s) (g : RDict H a kvs) (gk : RackAt H b k) (h : ∀ s', Inv X pins σ H s' → Q (.bool (!(valV kvs k).isSome)) s') :
    wpAny (model X.prog X.w) A (compareOp .NotIn (.ref b) (.ref a)) Q E s := by
  obtain ⟨xs, e, rfl, hk, hnd⟩ := g
  obtain ⟨z, hd, vs, rel, dd⟩ := dict_of I.hok e hk
  refine wpAny_notIn_heap (knd := rackKind X.prog X.w) (show A.units + 1 + 1 < cLine from hu) (rack_key I.hok gk) hd dd ?_
  have q := (rel.val k).isSome_eq
  rw [Option.isSome_map] at q
  rw [← q]
  exact h _ (I.tok _)
/-- behind a[k] = v -/
def RPut (H : Hp) (a : Addr) (kvs : List (Sy71.Rack × V)) (k : Sy71.Rack) (v : V) (H' : Hp) : Prop := RDict H' a (putK kvs k v) ∧ ∀ c, c ≠ a → H' c = H c
theorem rd_setItem {Q : Unit → Shared → Prop} (hu : A.units + 2 < cLine) (I : Inv X pins σ H s) (g : RDict H a kvs) (gk : RackAt H b k) (rv : RelV v r) (hl : kvs.length < sizeLine) (h : ∀ H' s', RPut H a kvs k v H' → Inv X pins σ H' s' → Q () s') :
    wpAny (model X.prog X.w) A (setItem (.ref a) (.ref b) r) Q E s := by
  obtain ⟨xs, e, rfl, hk, hnd⟩ := g
  obtain ⟨z, hd, vs, rel, dd⟩ := dict_of I.hok e hk
  have hz : vs.length ≤ sizeLine := by rw [← Paired.length rel]; exact z
  rw [List.length_map] at hl
  have hl2 : (putX xs k b v).length ≤ sizeLine := by have := putX_length xs k b v; omega
  have ntup : ∀ c ys, H c = some (.tup ys) → c ≠ a := fun c ys ec z => by
    rw [z, e] at ec
    cases ec
  have hup : ∀ c ys, H c = some (.tup ys) → upd H a (dictO a (putX xs k b v)) c = some (.tup ys) := fun c ys ec => by
    rw [upd_ne (ntup c ys ec)]
    exact ec
  refine wpAny_setItem_heap (knd := rackKind X.prog X.w) (hsz := hz) (show A.units + 1 + 1 < cLine from hu) (rack_key I.hok gk) dd fun h' dd' hs => h (upd H a (dictO a (putX xs k b v))) _ ?_ ?_
  · refine ⟨⟨_, upd_same, (putX_kv xs k b v).symm, ?_, nodup_putK hnd k v⟩, fun c hc => upd_ne hc⟩
    exact putX_mem (F := fun q c => RackAt (upd H a (dictO a (putX xs k b v))) c q) (fun x hx => (hk x hx).keeps hup) (gk.keeps hup)
  · have he : ∃ q, h'.get? a = some q := let ⟨q, _, _, hq, _⟩ := dd'; ⟨q, hq⟩
    exact d_write I (by rw [e]; exact True.intro) hs he (dict_ok hl2 hd (rel.put rv) dd')
theorem rd_get2 {Q : Value → Shared → Prop} {d : V} (hu : A.units + 2 < cLine) (I : Inv X pins σ H s) (g : RDict H a kvs) (gk : RackAt H b k) (rd : RelV d r) (h : ∀ w' s', Inv X pins σ H s' → RelV ((valV kvs k).getD d) w' → Q w' s') :
    wpAny (model X.prog X.w) A (call (.builtin "dict.get") [.ref a, .ref b, r]) Q E s := by
  obtain ⟨xs, e, rfl, hk, hnd⟩ := g
  obtain ⟨z, hd, vs, rel, dd⟩ := dict_of I.hok e hk
  refine call_meetsIn PySem.F.slot_dict_get dd.typeIs PySem.F.entry_dict_get (PySem.F.args_dict_get_3 _ _ _) (meetsH_dict_get_default (rackKind X.prog X.w) a b hd r) ⟨show A.units + 1 + 1 < cLine from hu, k, vs, rack_key I.hok gk, dd, h _ _ (I.tok _) ?_⟩
  exact (rel.val k).getD rd
end

def tRGet (td ty : TE) : TE := fun σ H Q => td σ H fun x H1 => ty σ H1 fun y H2 => ∃ a kvs b k v, x = .ref a ∧ RDict H2 a kvs ∧ y = .ref b ∧ RackAt H2 b k ∧ valV kvs k = some v ∧ Q v H2
def tRIn (ty td : TE) : TE := fun σ H Q => ty σ H fun y H1 => td σ H1 fun x H2 => ∃ a kvs b k, x = .ref a ∧ RDict H2 a kvs ∧ y = .ref b ∧ RackAt H2 b k ∧ Q (.bl (valV kvs k).isSome) H2
def tRNotIn (ty td : TE) : TE := fun σ H Q => ty σ H fun y H1 => td σ H1 fun x H2 => ∃ a kvs b k, x = .ref a ∧ RDict H2 a kvs ∧ y = .ref b ∧ RackAt H2 b k ∧ Q (.bl (!(valV kvs k).isSome)) H2
def sRPut (td ty tv : TE) : TS := fun D σ H => tv σ H fun v H1 => td σ H1 fun x H2 => ty σ H2 fun y H3 => ∃ a kvs b k, x = .ref a ∧ RDict H3 a kvs ∧ y = .ref b ∧ RackAt H3 b k ∧ kvs.length < sizeLine ∧ ∀ H4, RPut H3 a kvs k v H4 → D.nx σ H4
def tRGet2 (td ty tx : TE) : TE := fun σ H Q => td σ H fun x H1 => ∃ a kvs, x = .ref a ∧ RDict H1 a kvs ∧ ty σ H1 fun y H2 => tx σ H2 fun z H3 => ∃ kvs b k, RDict H3 a kvs ∧ y = .ref b ∧ RackAt H3 b k ∧ Q ((valV kvs k).getD z) H3
def tRNew : TE := fun _ H Q => ∀ p, H p = none → Q (.ref p) (upd H p (dictO p []))
theorem RDict.new {H : Hp} {p : Addr} : RDict (upd H p (dictO p [])) p [] := ⟨[], upd_same, rfl, (fun _ z => nomatch z), List.nodup_nil⟩

section
variable {X : Cx} {o i e f value : Expr} {pos pos' apos cpos : Pos} {td ty tv tx : TE}
theorem pe_rget (hu : X.A.units + 2 < cLine) (ho : PE X o td) (hi : PE X i ty) (hs : NoSl i) : PE X (.Subscript o i pos) (tRGet td ty) := by
  refine ⟨fun pins s σ H Q I h => ?_⟩
  refine subD_of PySem.F.slot_dict_getitem.lookup hs (thn (ho.run pins s σ H _ I h) fun u s1 ⟨x, H1, I1, rx, q1⟩ => thn (hi.run pins s1 σ H1 _ I1 q1) fun iv s2 ⟨y, H2, I2, ry, a, kvs, b, k, v, ex, g, ey, gk, l, q2⟩ => ?_)
  subst ex ey
  obtain rfl : u = Value.ref a := rx
  obtain rfl : iv = Value.ref b := ry
  exact ⟨(rd_types I2 g).1, rd_getItem hu I2 g gk l fun w' s3 I3 rw' => ⟨v, H2, I3, rw', q2⟩⟩
theorem pc_rin (hu : X.A.units + 2 < cLine) (hi : PE X i ty) (ho : PE X o td) : PC X .In i o (tRIn ty td) := by
  refine ⟨fun pins s σ H Q I h => ?_⟩
  refine thn (hi.run pins s σ H _ I h) fun iv s1 ⟨y, H1, I1, ry, q1⟩ => thn (ho.run pins s1 σ H1 _ I1 q1) fun u s2 ⟨x, H2, I2, rx, a, kvs, b, k, ex, g, ey, gk, q2⟩ => ?_
  subst ex ey
  obtain rfl : u = Value.ref a := rx
  obtain rfl : iv = Value.ref b := ry
  exact rd_in hu I2 g gk fun s3 I3 => ⟨.bl _, H2, I3, rfl, q2⟩
theorem pc_rnotin (hu : X.A.units + 2 < cLine) (hi : PE X i ty) (ho : PE X o td) : PC X .NotIn i o (tRNotIn ty td) := by
  refine ⟨fun pins s σ H Q I h => ?_⟩
  refine thn (hi.run pins s σ H _ I h) fun iv s1 ⟨y, H1, I1, ry, q1⟩ => thn (ho.run pins s1 σ H1 _ I1 q1) fun u s2 ⟨x, H2, I2, rx, a, kvs, b, k, ex, g, ey, gk, q2⟩ => ?_
  subst ex ey
  obtain rfl : u = Value.ref a := rx
  obtain rfl : iv = Value.ref b := ry
  exact rd_notIn hu I2 g gk fun s3 I3 => ⟨.bl _, H2, I3, rfl, q2⟩
theorem ps_rput (hu : X.A.units + 2 < cLine) (ho : PE X o td) (hi : PE X i ty) (hv : PE X value tv) (hs : swapsWith value (some (.Subscript o i pos')) pos.line X.env = pure false) :
    PS X (.Assign [.Subscript o i pos'] value pos) (sRPut td ty tv) := by
  refine ⟨fun pins s σ H D I h => ?_⟩
  refine wpAny_Assign_Subscript (thn (hv.run pins s σ H _ I h) fun r s1 ⟨v, H1, I1, rv, q1⟩ => thn (ho.run pins s1 σ H1 _ I1 q1) fun u s2 ⟨x, H2, I2, rx, q2⟩ => thn (hi.run pins s2 σ H2 _ I2 q2) fun iv s3 ⟨y, H3, I3, ry, a, kvs, b, k, ex, g, ey, gk, hl, q3⟩ => ?_) hs
  subst ex ey
  obtain rfl : u = Value.ref a := rx
  obtain rfl : iv = Value.ref b := ry
  exact rd_setItem hu I3 g gk rv hl fun H4 s4 hp I4 => ⟨σ, H4, I4, q3 H4 hp⟩
theorem pe_rget2 (hu : X.A.units + 2 < cLine) (ho : PE X o td) (he : PE X e ty) (hf : PE X f tx) (m : M2 X o "get" apos e f cpos) : PE X (.Call (.Attribute o "get" apos) [e, f] [] cpos) (tRGet2 td ty tx) := by
  refine ⟨fun pins s σ H Q I h => ?_⟩
  refine wpAny_Call_method m.base m.few m.line PySem.F.plainAttrs_dict PySem.F.slot_dict_get PySem.F.type_dict_get (thn (ho.run pins s σ H _ I h) fun u s1 ⟨x, H1, I1, rx, a, kvs0, ex, d, q1⟩ => ?_)
  subst ex
  obtain rfl : u = Value.ref a := rx
  obtain ⟨t1, t2, _⟩ := rd_types I1 d
  refine ⟨t1, t2, ?_⟩
  rw [m.trees]
  refine Calls.callWith_builtin rfl (Calls.evalArgs_plain (Calls.spliced_cons (thn (he.run pins s1 σ H1 _ I1 q1) fun iv s2 ⟨y, H2, I2, ry, q2⟩ =>
    Calls.spliced_cons (thn (hf.run pins s2 σ H2 _ I2 q2) fun fv s3 ⟨z, H3, I3, rz, kvs, b, k, g, ey, gk, q3⟩ => Calls.spliced_nil ?_))))
  subst ey
  obtain rfl : iv = Value.ref b := ry
  exact rd_get2 hu I3 g gk rz fun w' s4 I4 rw' => ⟨_, H3, I4, rw', q3⟩
theorem pe_rnew : PE X (.Dict [] [] pos) tRNew := ⟨fun pins s σ H Q I h =>
  wpAny_Dict_empty ⟨.ref s.heap.objs.size, _, I.laid (a := s.heap.objs.size) (o := dictO s.heap.objs.size []) (t' := s.toks) (fun _ _ q => Heap.get?_push_of_some _ q) (Nat.le_refl _)
    (dict_ok (P := X.prog) (w := X.w) (vs := []) (Nat.zero_le _) (beq_eq_false_iff_ne.mpr (Ne.symm (Nat.ne_of_lt I.big))) .nil (Heap.DictOfH.new _)), rfl, h _ (I.hok.fresh (Nat.le_refl _))⟩⟩

theorem rd_dictSet {pins : List (Addr × Obj)} {σ : L2.St} {H : Hp} {s : Shared} {a b : Addr} {y : V} {r : Value} {A : Around} {E : Value → Shared → Prop} {kvs : List (Sy71.Rack × V)} {q : Sy71.Rack} {Q : Unit → Shared → Prop} (hu : A.units + 1 < cLine)
    (I : Inv X pins σ H s) (g : RDict H a kvs) (gk : RackAt H b q) (rv : RelV y r) (hl : kvs.length < sizeLine) (h : ∀ H' s', RPut H a kvs q y H' → Inv X pins σ H' s' → Q () s') :
    wpAny (model X.prog X.w) A (dictSet a (.ref b) r) Q E s := by
  obtain ⟨xs, e, rfl, hk, hnd⟩ := g
  obtain ⟨z, hd, vs, rel, dd⟩ := dict_of I.hok e hk
  have hz : vs.length ≤ sizeLine := by rw [← Paired.length rel]; exact z
  rw [List.length_map] at hl
  have hl2 : (putX xs q b y).length ≤ sizeLine := by have := putX_length xs q b y; omega
  have hup : ∀ c ys, H c = some (.tup ys) → upd H a (dictO a (putX xs q b y)) c = some (.tup ys) := fun c ys ec => by
    rw [upd_ne fun z => by rw [z, e] at ec; cases ec]
    exact ec
  refine wpAny_dictSet_heap (knd := rackKind X.prog X.w) (hsz := hz) (show A.units + 1 < cLine from hu) (rack_key I.hok gk) dd fun h' dd' hs => h (upd H a (dictO a (putX xs q b y))) _ ?_ ?_
  · refine ⟨⟨_, upd_same, (putX_kv xs q b y).symm, ?_, nodup_putK hnd q y⟩, fun c hc => upd_ne hc⟩
    exact putX_mem (F := fun q' c => RackAt (upd H a (dictO a (putX xs q b y))) c q') (fun x hx => (hk x hx).keeps hup) (gk.keeps hup)
  · have he : ∃ q, h'.get? a = some q := let ⟨q, _, _, hq, _⟩ := dd'; ⟨q, hq⟩
    exact d_write I (by rw [e]; exact True.intro) hs he (dict_ok hl2 hd (rel.put rv) dd')
/-- {k: v} with a rack for a key -/
def tRDisp (tk tv : TE) : TE := fun σ H Q => ∀ p, H p = none → tPairs [(tk, tv)] σ (upd H p (dictO p [])) fun ps H2 => ∃ b r v, ps = [(.ref b, v)] ∧ RackAt H2 b r ∧ RDict H2 p [] ∧ ∀ H3, RPut H2 p [] r v H3 → Q (.ref p) H3
theorem pe_rdisp {k v : Expr} {tk tv : TE} (hu : X.A.units + 2 < cLine) (hk : PE X k tk) (hv : PE X v tv) : PE X (.Dict [some k] [v] pos) (tRDisp tk tv) := by
  refine ⟨fun pins s σ H Q I q => ?_⟩
  have hn := I.hok.fresh (Nat.le_refl s.heap.objs.size)
  have I1 := I.laid (a := s.heap.objs.size) (o := dictO s.heap.objs.size []) (h' := s.heap.push { cls := .type "dict", data := .dict #[] }) (t' := s.toks) (fun _ _ q => Heap.get?_push_of_some _ q) (Nat.le_refl _)
    (dict_ok (P := X.prog) (w := X.w) (vs := []) (Nat.zero_le _) (beq_eq_false_iff_ne.mpr (Ne.symm (Nat.ne_of_lt I.big))) .nil (Heap.DictOfH.new _))
  refine wpAny_Dict_any rfl rfl (by simp) (by show 1 ≤ 15; decide) (thn ((pps_cons hk hv pps_nil).run pins _ σ _ _ I1 (q _ hn)) fun ws s2 hh => ?_)
  obtain ⟨ps, H2, I2, rel, b, r, y, e, gk, g, q2⟩ := hh
  subst e
  cases rel with
  | cons r1 r2 =>
    cases r2
    rename_i kv
    obtain ⟨k1, v1⟩ := kv
    obtain ⟨rk, rv⟩ := r1
    obtain rfl : k1 = Value.ref b := rk
    have rv' : RelV y v1 := rv
    unfold storeAll
    rw [List.forIn_cons]
    refine wpAny_bind (wpAny_bind (rd_dictSet (Nat.lt_of_succ_lt hu) I2 g gk rv' (by rw [sizeLine_eq]; decide) fun H3 s3 hp I3 => wpAny_pure ?_))
    dsimp only
    rw [List.forIn_nil]
    exact wpAny_pure ⟨.ref s.heap.objs.size, H3, I3, rfl, q2 H3 hp⟩
end
end Td

/-! except C as n: raise D(..) from n: the suite raises out of the try, its name goes on the way. -/
namespace Td
open PySem PySem.Spec PyProof.Rows L2 HotX L2H

theorem funFrames_but {base h h' : Heap} {L : Addr} (sb : Heap.SameBut L h h') (hL : ∃ o, h'.get? L = some o ∧ ∀ vs, o.data ≠ .fields vs) : ∀ {l : List Env}, h.FunFrames base l → h'.FunFrames base l
  | [], _ => trivial
  | env :: l, x => by
    obtain ⟨k, ⟨b, o, hf, hn, ho, hd⟩, r⟩ := x
    refine ⟨k, ?_, funFrames_but sb hL r⟩
    by_cases e : b = L
    · obtain ⟨o', h1, h2⟩ := hL
      exact ⟨b, o', hf, hn, by rw [e]; exact h1, h2⟩
    · exact ⟨b, o, hf, hn, (sb.2 b e).trans ho, hd⟩
theorem held_but {B h h' : Heap} {l : List Env} {a L : Addr} {Z : Obj → Prop} (hB : B.get? L = none) (sb : Heap.SameBut L h h') (hL : ∃ o, h.get? L = some o ∧ ∀ vs, o.data ≠ .fields vs) (hL' : ∃ o, h'.get? L = some o ∧ ∀ vs, o.data ≠ .fields vs)
    (x : HandSPX.HeldZ B l a Z L h) : HandSPX.HeldZ B l a Z L h' := by
  obtain ⟨k1, k2, k3, oe, vs, T, oT, ts, he, hz, hd, h1, hnT, hTe, hT, hdT, h3⟩ := x
  obtain ⟨oL, hoL, hdL⟩ := hL
  have neF : ∀ {b : Addr} {o : Obj} {us : Array Value}, h.get? b = some o → o.data = .fields us → b ≠ L := fun {b o us} e d z => by
    rw [z, hoL] at e
    cases e
    exact hdL _ d
  refine ⟨fun b o e => (sb.2 b fun z => by rw [z, hB] at e; cases e).trans (k1 b o e), k2, funFrames_but sb hL' k3, oe, vs, T, oT, ts, (sb.2 a (neF he hd)).trans he, hz, hd, h1, hnT, hTe, (sb.2 T (neF hT hdT)).trans hT, hdT, h3⟩
/-- noted by this frame -/
theorem sky_held {M : Model} {A : Around} {E₁ : Value → Shared → Prop} {env : Env} {outer : List Env} {L a : Addr} {Z : Obj → Prop} {B : Heap} {s : Shared} {Q : Unit → Shared → Prop} (hZ : HandSPX.Steady Z) (hfr : A.frames = some (env :: outer)) (hf : env.frame = some L)
    (x : L2.Sky B (env :: outer) a Z L s.heap) (hQ : ∀ h', HandSPX.HeldZ B (env :: outer) a Z L h' → s.heap.UpToSlots h' → Q () { s with heap := h' }) : wpAny M A (noteFrame (.ref a) env) Q E₁ s := by
  rcases x with ⟨hB, hn, hl, oe, vs, he, hz, hd, h1⟩ | fl | hh
  · exact HandSPX.look_newZ hZ hfr hl hf he hB hn hd h1 hz hQ
  · exact HandSPX.looks_onZ hZ hfr hf fl hQ
  · exact HandSPX.againZ hf hh.2.2.2 (hQ s.heap hh (Heap.UpToSlots.refl _))

/-- the suite's context -/
abbrev suiteA (X : Cx) (a : Addr) (pn : List (Addr × Obj)) (xe : Value → Shared → Prop) : Cx := { X with A := X.A.mark (some (.ref a)), calm := false, pn := pn, xe := xe }

section
variable {X : Cx}
theorem as_raised (hs : X.stack = X.env :: X.outer) (hf : X.env.frame = some X.env.locals) (hex : X.ex = []) {E : XK} {E₁ : Value → Shared → Prop}
    (hx : X.xe = fun e s' => wpAny (model X.prog X.w) X.A (leaving X.env e) (fun _ s'' => L2.CX X.prog X.w X.outer X.H_0 X.s_0 E e s'') E₁ s') {n : Str} {pos : Pos} (hl : X.env.kindOf n = some .local)
    {a : Addr} {pn : List (Addr × Obj)} {xe : Value → Shared → Prop} {u : Value} {s' : Shared} (x : L2.XE (suiteA X a pn xe) (fun cls d _ H => E cls d H) u s') :
    AsSuiteRaised (model X.prog X.w) (X.A.mark (some (.ref a))) X.env n pos (notedBy (model X.prog X.w) (X.A.mark (some (.ref a))) X.env (cameBackBy (model X.prog X.w) X.A X.env X.xe)) u s' := by
  obtain ⟨a2, B, sI, pins, σ, H, cls, d, rfl, I, nb, up, sky, na, os, ag, w⟩ := x
  have ok := I.ok
  have hfr0 : X.A.frames = some (X.env :: X.outer) := by rw [← hs]; exact ok.frames
  have hfr : (X.A.mark (some (.ref a))).frames = some (X.env :: X.outer) := hfr0
  have sky' : L2.Sky B (X.env :: X.outer) a2 (Zc cls d) X.env.locals s'.heap := by rw [← hs]; exact sky
  have hcls : (X.env.scope.kind == .class || (X.env.scope.kind == .module && X.env.locals != X.env.globals)) = false := by
    have k : X.env.scope.kind = .function := ok.kind
    rw [k]; rfl
  show wpAny _ _ (noteFrame (.ref a2) X.env) _ _ _
  refine sky_held Zc.steady hfr hf sky' fun h1 hh1 up1 => ?_
  have J : Inv (suiteA X a pn xe) pins σ H { s' with heap := h1 } := I.landed (s' := { s' with heap := h1 }) nb hh1.1 (up.trans up1) os ag
  obtain ⟨m, hn, _⟩ := J.loc
  have hB : B.get? X.env.locals = none := (hh1.2.2.1.mem (List.mem_filterMap.mpr ⟨X.env, List.mem_cons_self, hf⟩)).1
  refine wpAny_nameGoes hl hn hcls fun h5 m5 hn5 sb => ?_
  have isF : ∀ {g : Heap} {m' : Str → Option Value}, g.Ns X.env.locals m' → ∃ o, g.get? X.env.locals = some o ∧ ∀ vs, o.data ≠ .fields vs := fun {g m'} q => by
    obtain ⟨o, es, ep, ho, hd, _⟩ := q
    exact ⟨o, ho, fun vs z => by rw [hd] at z; cases z⟩
  have hh5 := held_but hB sb (isF hn) (isF hn5) hh1
  obtain ⟨k1, k2, k3, oe, vs, T, oT, ts, he, hz, hd, hv1, hr⟩ := id hh5
  have nst : ∀ b o, X.s_0.heap.get? b = some o → b ≠ X.env.locals := fun b o e z => by
    have h1 := Heap.lt_size e
    have h2 : X.s_0.heap.objs.size ≤ X.env.locals := ok.above
    rw [z] at h1
    exact absurd (Nat.lt_of_lt_of_le h1 h2) (Nat.lt_irrefl _)
  have nstk : ∀ b o, X.s_0.heap.get? b = some o → b ∉ X.fs → b ∉ frs X.stack := fun b o e hb hm => by
    rw [hs] at hm
    obtain ⟨e', he', q⟩ := List.mem_filterMap.mp hm
    rcases List.mem_cons.mp he' with z | z
    · rw [z, hf] at q
      cases q
      exact nst _ o e rfl
    · exact hb (List.mem_filterMap.mpr ⟨e', z, q⟩)
  have hex' : ∀ b, b ∉ (suiteA X a pn xe).ex := fun b hb => by
    have z : b ∈ X.ex := hb
    rw [hex] at z
    cases z
  have hokB : HOk X.prog X.w H B := I.inGround nb
  -- behind the name's end: on to the def's end
  have fin : ∀ h', HandSPX.FlyingZ B X.outer a2 (Zc cls d) h' → h5.UpToSlots h' → L2.CX X.prog X.w X.outer X.H_0 X.s_0 E (.ref a2) { s' with heap := h', toks := s'.toks + 1 } := fun h' fl up' => by
    refine ⟨a2, B, H, cls, d, rfl, fl, hokB, ⟨fun b o e n hb => nb b o (I.base.keep b o e n hb (hex' b)) (nstk b o e hb), fun b o e hb => ?_, fun b o e n => I.base.free b o e n (hex' b), fun b o e hb => ?_, I.base.tups, I.base.frzs, I.base.tbls⟩,
      na, os.trans I.os, ag, w⟩
    · obtain ⟨_, o₀, e₀, hnf⟩ := ok.funs.mem hb
      have e₀' : X.s_0.heap.get? b = some o₀ := e₀
      rw [e] at e₀'; cases e₀'
      obtain ⟨sl, e1⟩ := I.base.slot b o e (ok.frf b hb) hb (hex' b)
      obtain ⟨sl2, e2⟩ := up b _ e1 hnf
      obtain ⟨sl3, e3⟩ := up1 b _ e2 hnf
      obtain ⟨sl4, e4⟩ := up' b _ ((sb.2 b (nst b o e)).trans e3) hnf
      exact ⟨sl4, e4⟩
    · obtain ⟨o', e1⟩ := I.base.there b o e (hex' b)
      exact ⟨o', nb b o' e1 (nstk b o e hb)⟩
  have at_xe : ∀ h6, HandSPX.HeldZ B (X.env :: X.outer) a2 (Zc cls d) X.env.locals h6 → h5.UpToSlots h6 → X.xe (.ref a2) { s' with heap := h6, toks := s'.toks + 1 } := fun h6 hh6 up6 => by
    rw [hx]
    exact HandSPX.leaves_heldZ (s := { s' with heap := h6, toks := s'.toks + 1 }) hf hh6 fun h7 fl7 up7 => fin h7 fl7 (up6.trans up7)
  have back : ∀ h6, HandSPX.HeldZ B (X.env :: X.outer) a2 (Zc cls d) X.env.locals h6 → h5.UpToSlots h6 →
      notedBy (model X.prog X.w) (X.A.mark (some (.ref a))) X.env (cameBackBy (model X.prog X.w) X.A X.env X.xe) (.ref a2) { s' with heap := h6, toks := s'.toks + 1 } := fun h6 hh6 up6 => by
    refine HandSPX.againZ (s := { s' with heap := h6, toks := s'.toks + 1 }) hf hh6.2.2.2 ?_
    obtain ⟨_, _, _, oe, vs, T, oT, ts, he, hz, hd, hv1, hr⟩ := id hh6
    unfold cameBackBy
    refine wpAny_bind (wpAny_field (s := { s' with heap := h6, toks := s'.toks + 1 }) he hd hv1 ?_)
    rw [if_neg (show ¬ ((Value.ref T == Value.none) = true) from by simp)]
    have go : wpAny (model X.prog X.w) X.A (setFlight (.ref a2) X.env.frame) (fun _ s'' => X.xe (.ref a2) s'') X.xe { s' with heap := h6, toks := s'.toks + 1 } := by
      rw [hf]
      exact HandSPX.setFlight_onZ (s := { s' with heap := h6, toks := s'.toks + 1 }) hh6 fun h7 hh7 up7 => at_xe h7 hh7 (up6.trans up7)
    first
      | exact wpAny_bind (wpAny_pure go)
      | exact go
  unfold PySem.passOn
  refine wpAny_bind (wpAny_field (s := { s' with heap := h5, toks := s'.toks + 1 }) he hd hv1 ?_)
  rw [if_neg (show ¬ ((Value.ref T == Value.none) = true) from by simp)]
  have fly : wpAny (model X.prog X.w) (X.A.mark (some (.ref a))) (setFlight (.ref a2) X.env.frame) (fun _ s4 => wpAny (model X.prog X.w) (X.A.mark (some (.ref a))) (throw (.ref a2) : Sem Flow) (fun _ _ => False)
      (notedBy (model X.prog X.w) (X.A.mark (some (.ref a))) X.env (cameBackBy (model X.prog X.w) X.A X.env X.xe)) s4) (notedBy (model X.prog X.w) (X.A.mark (some (.ref a))) X.env (cameBackBy (model X.prog X.w) X.A X.env X.xe)) { s' with heap := h5, toks := s'.toks + 1 } := by
    rw [hf]
    exact HandSPX.setFlight_onZ (s := { s' with heap := h5, toks := s'.toks + 1 }) hh5 fun h6 hh6 up6 => wpAny_throw (back h6 hh6 up6)
  first
    | exact wpAny_bind (wpAny_pure (wpAny_bind fly))
    | exact wpAny_bind fly

/-- what a def that may raise wishes of its exceptions -/
def OwnXe (X : Cx) (E : XK) (E₁ : Value → Shared → Prop) : Prop :=
  X.xe = fun e s' => wpAny (model X.prog X.w) X.A (leaving X.env e) (fun _ s'' => L2.CX X.prog X.w X.outer X.H_0 X.s_0 E e s'') E₁ s'
theorem ps_try_asR {x n : Str} {c : Value} {i : Nat} {body suite : List Stmt} {b₀ : Stmt} {np pos pos' : Pos} {tb : WX → TS} {ts : Addr → Value → Option Addr → TS} {E : XK} {E₁ : Value → Shared → Prop}
    (hs : X.stack = X.env :: X.outer) (hf : X.env.frame = some X.env.locals) (hex : X.ex = []) (hx : OwnXe X E E₁) (hN : X.N.Nodup) (hi : X.N[i]? = some n) (hln : X.env.kindOf n = some .local) (hc : Names X x c)
    (hb : ∀ (W : WX) (pn : List (Addr × Obj)) (xe : Value → Shared → Prop), L2N.Takes (X.tr pn xe) W → PassesOwn (model X.prog X.w) X.A X.env xe → PSs (X.tr pn xe) body (tb W))
    (hsu : ∀ (a : Addr) (oe : Obj) (cls : Value) (d : Option Addr) (pn : List (Addr × Obj)) (xe : Value → Shared → Prop), L2N.Zn cls d oe → (∃ vs, oe.data = .fields vs) → L2.Takes (suiteA X a ((a, oe) :: pn) xe) (fun cls d _ H => E cls d H) → HotC (suiteA X a ((a, oe) :: pn) xe) →
      PSs (suiteA X a ((a, oe) :: pn) xe) (b₀ :: suite) (ts a cls d)) :
    PS X (.Try body [.ExceptHandler (some (.Name x np)) (some n) (b₀ :: suite) pos'] [] [] pos) (fun D σ H => tb (wAs X.K c i ts (fun cls d _ H => E cls d H) D) D σ H) := by
  refine ⟨fun pins s σ H D I h => ?_⟩
  have ok := I.ok
  have hfr : X.A.frames = some (X.env :: X.outer) := by rw [ok.frames, hs]
  have hloc : Loc X.env.scope n := .inl hln
  have tk : L2.Takes X (fun cls d _ H => E cls d H) := L2.takes_of hs hf hex hx
  refine wpAny_Try_except ?_
  refine wpAny_mono ((hb (wAs X.K c i ts (fun cls d _ H => E cls d H) D) (X.pn ++ pins) (fun e s₁ => wpAny (model X.prog X.w) X.A (noteFrame e X.env) (fun _ s₂ => wpAny (model X.prog X.w) X.A (setFlight e none) (fun _ s₃ =>
    wpAny (model X.prog X.w) X.A (handleBy e X.env [.ExceptHandler (some (.Name x np)) (some n) (b₀ :: suite) pos']) (SP X pins D) X.xe s₃) X.xe s₂) X.xe s₁) (fun u s' xx => ?_) PassesOwn.looking).run [] s σ H D (I.toTry _) h) (fun f s1 hsp => ?_) (fun e s1 he => he)
  · obtain ⟨a, B, sI, pins', σ', H', cls, d, rfl, J', nb, up, sky, na, os, ag, b, hb1, hyes, hno⟩ := xx
    have J : Inv X pins σ' H' sI := J'.ofTry ok
    have sky' : L2.Sky B (X.env :: X.outer) a (L2N.Zn cls d) X.env.locals s'.heap := by rw [← hs]; exact sky
    show wpAny (model X.prog X.w) X.A (noteFrame (.ref a) X.env) _ _ _
    refine L2N.Sky.land L2N.Zn.steady hfr hf sky' fun h3 fl3 up3 => ?_
    have J3 : Inv X pins σ' H' { s' with heap := h3 } := J.landed nb fl3.1 (up.trans up3) os ag
    obtain ⟨oe3, vs3, he3, hz3, hd3⟩ := fl3.there
    have nfr : a ∉ frs (X.env :: X.outer) := fun hm => by
      obtain ⟨_, o', e', hnf⟩ := fl3.2.2.1.mem hm
      rw [he3] at e'; cases e'
      exact hnf _ hd3
    have nL : a ≠ X.env.locals := fun z => nfr (List.mem_filterMap.mpr ⟨X.env, List.mem_cons_self, by rw [hf, z]⟩)
    have nF : a ∉ X.fs := fun hm => by
      obtain ⟨e, he, q⟩ := List.mem_filterMap.mp hm
      exact nfr (List.mem_filterMap.mpr ⟨e, List.mem_cons_of_mem _ he, q⟩)
    have S3 := J3.suite he3 hd3 na nL nF
    refine wpAny_handleBy_cons (codeAny_handlers_test ?_) (by intro q; cases q)
    have LT : PySem.W.Looks (model X.prog X.w) h3 (typeOf (.ref a)) cls := fun A Q E s k q => wpAny_typeOf_ref (k _ _ he3) (by rw [hz3.1]; exact q)
    have LM := PySem.W.exm_one (M := model X.prog X.w) (J3.kIn) LT hb1
    have test : ∀ {Q : Value → Shared → Prop} {E : Value → Shared → Prop}, Q c { s' with heap := h3 } → wpAny (model X.prog X.w) (X.A.mark (some (.ref a))) (eval (.Name x np) X.env) Q E { s' with heap := h3 } := fun {Q E} q => by
      obtain ⟨hg, hdbg, hm | ⟨hm, hv, hnn⟩⟩ := hc
      · exact ld_glob (X := X.suite a ((a, oe3) :: (X.pn ++ pins))) S3 hg hm q hdbg
      · exact ld_blt (X := X.suite a ((a, oe3) :: (X.pn ++ pins))) S3 hg hm hv q hnn hdbg
    refine test (LM.here ?_)
    cases b with
    | true =>
      refine codeAny_handlers_suite_as ?_
      refine HandSPX.lands_againZ fl3 fun h4 fl4 up4 => ?_
      have J4 : Inv X pins σ' H' { s' with heap := h4 } := J.landed nb fl4.1 ((up.trans up3).trans up4) os ag
      obtain ⟨oe4, vs4, he4, hz4, hd4⟩ := fl4.there
      have S4 := J4.suite he4 hd4 na nL nF
      have hot : ∀ xe, HotC (suiteA X a ((a, oe4) :: (X.pn ++ pins)) xe) := fun xe => ⟨(a, oe4), ⟨rfl, vs4, hd4, hz4.2.2 vs4 hd4⟩, List.mem_cons_self⟩
      refine store_ok (X := X.suite a ((a, oe4) :: (X.pn ++ pins))) (v := .ref a) S4 hN hi hloc rfl (fun s5 S5 => ?_) (.inr hln)
      refine wpAny_mono ((hsu a oe4 cls d (X.pn ++ pins) (AsSuiteRaised (model X.prog X.w) (X.A.mark (some (.ref a))) X.env n pos' (notedBy (model X.prog X.w) (X.A.mark (some (.ref a))) X.env (cameBackBy (model X.prog X.w) X.A X.env X.xe)))
        hz4 ⟨_, hd4⟩ (fun u2 s2 x2 => as_raised hs hf hex hx hln x2) (hot _)).run [] s5 _ H' _ (Inv.unwish (X := suiteA X a ((a, oe4) :: (X.pn ++ pins)) _) (E := fun _ _ => False) S5) (hyes rfl a na)) (fun f s6 hsp => ?_) (fun _ _ z => z)
      have end_ : ∀ {σ6 : L2.St} {H6 : Hp} {Q : Shared → Prop} {xe : Value → Shared → Prop}, Inv (suiteA X a ((a, oe4) :: (X.pn ++ pins)) xe) [] σ6 H6 s6 → (∀ s7, Inv X pins (σ6.set i none) H6 s7 → Q s7) →
          wpAny (model X.prog X.w) X.A (do bindName X.env n .none; unbindBehindTheSuite X.env n pos') (fun _ s7 => Q s7) X.xe s6 := fun {σ6 H6 Q xe} S6 hq =>
        gone_ok (Inv.unsuite (X := X) (a := a) (q := (a, oe4)) (pn' := []) (show Inv (X.suite a ((a, oe4) :: (X.pn ++ pins))) [] σ6 H6 s6 from S6.wish fun _ _ => False) ok) hN hi hln hq
      cases f with
      | next =>
        obtain ⟨σ6, H6, S6, q6⟩ := hsp
        exact end_ S6 fun s7 J7 => ⟨_, _, J7, q6⟩
      | brk =>
        obtain ⟨σ6, H6, S6, q6⟩ := hsp
        exact end_ S6 fun s7 J7 => ⟨_, _, J7, q6⟩
      | cont =>
        obtain ⟨σ6, H6, S6, q6⟩ := hsp
        exact end_ S6 fun s7 J7 => ⟨_, _, J7, q6⟩
      | ret u =>
        obtain ⟨v6, σ6, H6, S6, r6, q6⟩ := hsp
        exact end_ S6 fun s7 J7 => ⟨_, _, _, J7, r6, q6⟩
    | false =>
      show wpAny _ X.A (handleBy (.ref a) X.env []) _ _ _
      refine wpAny_handleBy_nil ?_
      have fl3' := flyingZ_imp (Z' := Zc cls d) (fun o z => z.zc) fl3
      obtain ⟨k1, k2, k3, oe, vs, T, oT, ts', he, hz, hd, h1, hr⟩ := id fl3'
      unfold PySem.passOn
      refine wpAny_bind (wpAny_field he hd h1 ?_)
      rw [if_neg (show ¬ ((Value.ref T == Value.none) = true) from by simp)]
      have fin : wpAny (model X.prog X.w) X.A (setFlight (.ref a) X.env.frame) (fun _ s4 => wpAny (model X.prog X.w) X.A (throw (.ref a) : Sem Flow) (SP X pins D) X.xe s4) X.xe { s' with heap := h3 } := by
        rw [hf]
        refine HandSPX.setFlight_upZ fl3' fun h4 hh4 up4 => wpAny_throw (tk _ _ ?_)
        exact ⟨a, B, sI, pins, σ', H', cls, d, rfl, J, nb, (up.trans up3).trans up4, .inr (.inr (by rw [hs]; exact hh4)), na, os, ag, hno rfl⟩
      first
        | exact wpAny_bind (wpAny_pure (wpAny_bind fin))
        | exact wpAny_bind fin
  · cases f with
    | next =>
      obtain ⟨σ', H', J', q⟩ := hsp
      exact wpAny_execs_nil ⟨σ', H', J'.ofTry ok, q⟩
    | brk =>
      obtain ⟨σ', H', J', q⟩ := hsp
      exact ⟨σ', H', J'.ofTry ok, q⟩
    | cont =>
      obtain ⟨σ', H', J', q⟩ := hsp
      exact ⟨σ', H', J'.ofTry ok, q⟩
    | ret u =>
      obtain ⟨v, σ', H', J', r, q⟩ := hsp
      exact ⟨v, σ', H', J'.ofTry ok, r, q⟩
end

/-! ### raise D(..) from n, n the handled exception -/
/-- the heap behind «from c»: field 3 is c, field 4 is True -/
def causeFrom (c : Value) (h : Heap) (a : Addr) : Heap := (h.update a (Obj.mapFields (·.setIfInBounds 3 c))).update a (Obj.mapFields (·.setIfInBounds 4 (.bool true)))
theorem causeFrom_at {c : Value} {h : Heap} {a : Addr} {oe : Obj} {vs : Array Value} (ha : h.get? a = some oe) (hd : oe.data = .fields vs) :
    (causeFrom c h a).get? a = some ((oe.mapFields (·.setIfInBounds 3 c)).mapFields (·.setIfInBounds 4 (.bool true))) ∧ ((oe.mapFields (·.setIfInBounds 3 c)).mapFields (·.setIfInBounds 4 (.bool true))).data = .fields ((vs.setIfInBounds 3 c).setIfInBounds 4 (.bool true)) := by
  have hd3 := Obj.data_mapFields hd (·.setIfInBounds 3 c)
  have ha3 := Heap.get?_update_self (Obj.mapFields (·.setIfInBounds 3 c)) ha (Obj.isFreed_of_fields hd3)
  have hd4 := Obj.data_mapFields hd3 (·.setIfInBounds 4 (.bool true))
  exact ⟨Heap.get?_update_self (Obj.mapFields (·.setIfInBounds 4 (.bool true))) ha3 (Obj.isFreed_of_fields hd4), hd4⟩
theorem causeFrom_other {c : Value} {h : Heap} {a b : Addr} (hne : a ≠ b) : (causeFrom c h a).get? b = h.get? b := by
  unfold causeFrom
  rw [Heap.get?_update_other _ _ hne, Heap.get?_update_other _ _ hne]
theorem raise_from_hot {prog : Program} {w : World} {A : Around} {E : Value → Shared → Prop} {env : Env} {s : Shared} {x c : Sem Value} {Q : Flow → Shared → Prop} {x1 : Addr}
    (h : wpAny (model prog w) A x (fun v s₁ => ∃ a oe vs cls o1 us1 cls1, v = .ref a ∧ s₁.heap.get? a = some oe ∧ oe.cls = cls ∧ oe.data = .fields vs ∧ vs[1]? = some .none ∧ 4 < vs.size ∧ x1 ≠ a ∧ HotAt A x1 s₁.heap ∧
      s₁.heap.get? x1 = some o1 ∧ o1.cls = cls1 ∧ o1.data = .fields us1 ∧ (∀ Q' : Value → Shared → Prop, Q' (.ref x1) s₁ → wpAny (model prog w) A c Q' E s₁) ∧
      PySem.W.Looks (model prog w) s₁.heap (isSubtype cls1 (.type "BaseException")) true ∧
      PySem.W.Looks (model prog w) s₁.heap (isSubtype cls (.type "BaseException")) true ∧ PySem.W.Looks (model prog w) (causeFrom (.ref x1) s₁.heap a) (typeOf cls) (.type "type") ∧
      E (.ref a) { s₁ with heap := (causeFrom (.ref x1) s₁.heap a).update a (Obj.mapFields (·.setIfInBounds 2 (.ref x1))) }) E s) :
    wpAny (model prog w) A (raiseStmt env (some x) (some c)) Q E s := by
  unfold raiseStmt
  dsimp only
  refine wpAny_bind (wpAny_mono h (fun v s₁ h₁ => ?_) fun _ _ x => x)
  obtain ⟨a, oe, vs, cls, o1, us1, cls1, rfl, ha, hcls, hd, h1, hi, hne, hot, h1a, h1c, h1d, hcs, L0, L1, L3, hE⟩ := h₁
  have LT : PySem.W.Looks (model prog w) s₁.heap (typeOf (.ref a)) cls := fun A Q E s k q => wpAny_typeOf_ref (k _ _ ha) (by rw [hcls]; exact q)
  have LI : PySem.W.Looks (model prog w) s₁.heap (isInstance (.ref a) (.type "BaseException")) true := LT.andThen L1
  have LT0 : PySem.W.Looks (model prog w) s₁.heap (typeOf (.ref x1)) cls1 := fun A Q E s k q => wpAny_typeOf_ref (k _ _ h1a) (by rw [h1c]; exact q)
  have LI0 : PySem.W.Looks (model prog w) s₁.heap (isInstance (.ref x1) (.type "BaseException")) true := LT0.andThen L0
  have hnt : ∀ {Q' : Bool → Shared → Prop}, Q' false s₁ → wpAny (model prog w) A (isType (.ref a)) Q' E s₁ := by
    intro Q' hq
    simp only [isType, loadHead]
    refine wpAny_bind (wpAny_loadPart ha ?_)
    rw [hd]; exact wpAny_pure hq
  have hnt1 : ∀ {Q' : Bool → Shared → Prop}, Q' false s₁ → wpAny (model prog w) A (isType (.ref x1)) Q' E s₁ := by
    intro Q' hq
    simp only [isType, loadHead]
    refine wpAny_bind (wpAny_loadPart h1a ?_)
    rw [h1d]; exact wpAny_pure hq
  have hd3 := Obj.data_mapFields hd (·.setIfInBounds 3 (.ref x1))
  have ha3 := Heap.get?_update_self (Obj.mapFields (·.setIfInBounds 3 (.ref x1))) ha (Obj.isFreed_of_fields hd3)
  obtain ⟨ha4, hd4⟩ := causeFrom_at (c := .ref x1) ha hd
  have s3 : 3 < vs.size := by omega
  have s4 : 4 < (vs.setIfInBounds 3 (Value.ref x1)).size := by rw [set_size]; exact hi
  have s2 : 2 < ((vs.setIfInBounds 3 (Value.ref x1)).setIfInBounds 4 (Value.bool true)).size := by rw [set_size, set_size]; omega
  have h14 : ((vs.setIfInBounds 3 (Value.ref x1)).setIfInBounds 4 (Value.bool true))[1]? = some Value.none := set_other (by decide) (set_other (by decide) h1)
  have hcls4 : ((oe.mapFields (·.setIfInBounds 3 (.ref x1))).mapFields (·.setIfInBounds 4 (.bool true))).cls = cls := by rw [Obj.cls_mapFields, Obj.cls_mapFields]; exact hcls
  have LT4 : PySem.W.Looks (model prog w) (causeFrom (.ref x1) s₁.heap a) (typeOf (.ref a)) cls := fun A Q E s k q => wpAny_typeOf_ref (k _ _ ha4) (by rw [hcls4]; exact q)
  have hnt4 : ∀ {Q' : Bool → Shared → Prop}, Q' false { s₁ with heap := causeFrom (.ref x1) s₁.heap a } → wpAny (model prog w) A (isType (.ref a)) Q' E { s₁ with heap := causeFrom (.ref x1) s₁.heap a } := by
    intro Q' hq
    simp only [isType, loadHead]
    refine wpAny_bind (wpAny_loadPart ha4 ?_)
    rw [hd4]; exact wpAny_pure hq
  have hot4 : HotAt A x1 (causeFrom (.ref x1) s₁.heap a) := by
    obtain ⟨q1, o, vs', q2, q3, q4⟩ := hot
    exact ⟨q1, o, vs', by rw [causeFrom_other (Ne.symm hne)]; exact q2, q3, q4⟩
  have rest : wpAny (model prog w) A (do
      let b ← isType (.ref a)
      if b = true then do
        let e ← holding [.ref a] (raisedFor (.ref a) (.ref a))
        setFlight e none
        raiseNew e
      else do
        let e ← raisedInstance (.ref a)
        setFlight e none
        raiseNew e : Sem Flow) Q E { s₁ with heap := causeFrom (.ref x1) s₁.heap a } := by
    refine wpAny_bind (hnt4 ?_)
    simp only [Bool.false_eq_true, if_false]
    unfold raisedInstance
    refine wpAny_bind (wpAny_bind (LT4.here (wpAny_bind (L3.here ?_))))
    rw [if_pos (beq_self_eq_true _)]
    refine wpAny_pure ?_
    unfold setFlight
    refine wpAny_bind (wpAny_bind (wpAny_field ha4 hd4 h14 ?_))
    rw [if_neg (by decide)]
    refine wpAny_pure ?_
    exact raiseNew_hot hot4 hne ha4 hd4 s2 hE
  refine wpAny_bind (wpAny_holding (hcs _ (wpAny_bind (wpAny_pure ?_))))
  dsimp only
  refine wpAny_bind (wpAny_holding ?_)
  unfold excFromValue isExcClass
  refine wpAny_bind (wpAny_bind (hnt ?_))
  simp only [Bool.false_eq_true, if_false]
  refine wpAny_pure ?_
  simp only [Bool.false_eq_true, if_false]
  refine wpAny_bind (LI.here ?_)
  simp only [if_true]
  refine wpAny_pure ?_
  have nn : ¬ ((Value.ref x1 == Value.none) = true) := by simp
  rw [if_neg nn]
  refine wpAny_bind (wpAny_holding (wpAny_bind (wpAny_bind (hnt1 ?_))))
  simp only [Bool.false_eq_true, if_false]
  refine wpAny_pure ?_
  simp only [Bool.false_eq_true, if_false]
  refine wpAny_bind (LI0.here ?_)
  simp only [if_true]
  refine wpAny_pure ?_
  exact wpAny_bind (wpAny_setField ha hd s3 (wpAny_bind (wpAny_setField ha3 hd3 s4 rest)))

/-- raise D(..) from n: n holds the exception at a that the suite handles (its class cls) -/
theorem ps_raiseFE {X : Cx} {W : WX} {e : Expr} {t : L2.St → Hp → XK → Prop} {n : Str} {i : Nat} {a : Addr} {oe : Obj} {cls0 : Value} {d0 : Option Addr} {np pos : Pos} (hh : X.A.handled = some (.ref a)) (hp : (a, oe) ∈ X.pn) (hz0 : L2N.Zn cls0 d0 oe) (hf0 : ∃ vs, oe.data = .fields vs)
    (hi : X.N[i]? = some n) (hln : X.env.kindOf n = some .local) (tk : L2.Takes X W) (he : PMk5 X e t) (hdb : (n == ("__debug__" : Str)) = false := by decide) :
    PS X (.Raise (some e) (some (.Name n np)) pos) (fun _ σ H => PySem.W.subIn X.K cls0 (.type "BaseException") = some true ∧ σ[i]? = some (some (.ref a)) ∧ t σ H fun cls d H' => W cls d σ H') := by
  refine ⟨fun pins s σ H D I h => ?_⟩
  obtain ⟨h0, hσ, h⟩ := h
  obtain ⟨us0, hd0⟩ := hf0
  show wpAny _ _ (do standAt pos; raiseStmt X.env (some (do let v ← eval e X.env; standAt pos; pure v)) (some (do let v ← eval (.Name n np) X.env; standAt pos; pure v))) _ _ _
  refine wpAny_bind (wpAny_standAt (raise_from_hot (x1 := a) (wpAny_bind (wpAny_mono (he pins s σ H _ I h) (fun u s1 hu => wpAny_bind (wpAny_standAt (wpAny_pure ?_))) fun _ _ x => x))))
  obtain ⟨⟨b, ob, vs, sI, H', cls, d, rfl, J, k, hne, ha, hz, hd, h1, na, os, ag, r, q⟩, h5⟩ := hu
  have hi5 : 4 < vs.size := h5 b ob vs rfl ha hd
  have k4 : ∀ c u, sI.heap.get? c = some u → (causeFrom (.ref a) s1.heap b).get? c = some u := fun c u z => by
    have nab : b ≠ c := fun y => by
      rw [← y, hne] at z
      cases z
    rw [causeFrom_other nab]
    exact k c u z
  obtain ⟨r1, _⟩ := r (model X.prog X.w) s1.heap (J.kIn.keeps k)
  obtain ⟨_, r2⟩ := r (model X.prog X.w) (causeFrom (.ref a) s1.heap b) (J.kIn.keeps k4)
  have P1 := (J.pin (a, oe) (List.mem_append_left _ hp)).1
  have nap : a ≠ b := fun z => by
    have P1' : sI.heap.get? a = some oe := P1
    rw [z, hne] at P1'
    cases P1'
  obtain ⟨ha4, hd4⟩ := causeFrom_at (c := .ref a) ha hd
  have h12 : (((vs.setIfInBounds 3 (Value.ref a)).setIfInBounds 4 (Value.bool true)).setIfInBounds 2 (Value.ref a))[1]? = some Value.none := set_other (by decide) (set_other (by decide) (set_other (by decide) h1))
  -- the name is read where it stands
  have J1 : Inv X pins σ H' s1 := J.call' (ch := []) os (Un.kept k) (J.hok.kept k) ag (fun _ z => nomatch z)
  have rd : ∀ Q' : Value → Shared → Prop, Q' (.ref a) s1 → wpAny (model X.prog X.w) X.A (do let v ← eval (.Name n np) X.env; standAt pos; pure v) Q' X.xe s1 := fun Q' q' => by
    obtain ⟨m, hn, hl⟩ := J1.loc
    obtain ⟨u, ru, l⟩ := hl i n (.ref a) hi hσ (.inl hln)
    obtain rfl : u = Value.ref a := ru
    rcases l with ⟨hk, hm⟩ | ⟨hk, _⟩
    · exact wpAny_bind (wpAny_Name (wpAny_loadName_local J1.ok.kind hk hn hm (wpAny_bind (wpAny_standAt (wpAny_pure q')))) hdb)
    · rw [hln] at hk
      rcases hk with hk | hk <;> cases hk
  refine ⟨b, ob, vs, cls, oe, us0, cls0, rfl, ha, hz.1, hd, h1, hi5, nap, ⟨hh, oe, us0, k _ _ P1, hd0, hz0.2.2 us0 hd0⟩, k _ _ P1, hz0.1, hd0, rd, PySem.W.looks_subIn (J.kIn.keeps k) h0, r1, r2,
    tk _ _ (XE.new J (fun c u z => ?_) hne (Heap.get?_update_self _ ha4 (Obj.isFreed_of_fields (Obj.data_mapFields hd4 _)))
      ⟨by rw [Obj.cls_mapFields, Obj.cls_mapFields, Obj.cls_mapFields]; exact hz.1, by rw [HandSPX.dict_mapFields, HandSPX.dict_mapFields, HandSPX.dict_mapFields]; exact hz.2.1⟩ (Obj.data_mapFields hd4 _) h12 na os ag q)⟩
  have nab : b ≠ c := fun y => by
    rw [← y, hne] at z
    cases z
  show ((causeFrom (.ref a) s1.heap b).update b (Obj.mapFields (·.setIfInBounds 2 (.ref a)))).get? c = some u
  rw [Heap.get?_update_other _ _ nab]
  exact k4 c u z
end Td

/-! The text's defs by their places; where they stand behind the top; what the top has written of classes and constants. (Printed by gen_txt.py.) -/
namespace Td
open PySem PySem.Spec PyProof.Rows L2
def top (i : Nat) : Stmt := PySem.Challenge.pw_tubedrops_s01_answers.main.body.getD i (.Pass ⟨0, 0, 0, 0⟩)
abbrev sTopRun : Stmt := top 1
abbrev sGoing : Stmt := top 2
abbrev sPoured : Stmt := top 3
abbrev sIsSorted : Stmt := top 4
abbrev sAllPourings : Stmt := top 5
abbrev sNeed : Stmt := top 21
abbrev sListed : Stmt := top 22
abbrev sBegun : Stmt := top 23
abbrev sAsked : Stmt := top 29
abbrev sAnswers : Stmt := top 31
abbrev sComingInit : Stmt := inClass (top 9) 0
abbrev sComingTellSteps : Stmt := inClass (top 9) 1
abbrev sComingLeadsTo : Stmt := inClass (top 9) 2
abbrev sComingPlan : Stmt := inClass (top 9) 3
abbrev sComingFirstStep : Stmt := inClass (top 9) 4
abbrev sComingCountSorted : Stmt := inClass (top 9) 5
abbrev sComingCountLost : Stmt := inClass (top 9) 6
abbrev sKeeperInit : Stmt := inClass (top 24) 0
abbrev sKeeperNeedTube : Stmt := inClass (top 24) 1
abbrev sKeeperDrops : Stmt := inClass (top 24) 2
abbrev sKeeperFill : Stmt := inClass (top 24) 3
abbrev sKeeperGoes : Stmt := inClass (top 24) 4
abbrev sKeeperPour : Stmt := inClass (top 24) 5
abbrev sKeeperMay : Stmt := inClass (top 24) 6
abbrev sKeeperSortedTold : Stmt := inClass (top 24) 7
abbrev sKeeperComing : Stmt := inClass (top 24) 8
abbrev sKeeperFewest : Stmt := inClass (top 24) 9
abbrev sKeeperPlanTold : Stmt := inClass (top 24) 10
abbrev sKeeperReach : Stmt := inClass (top 24) 11
abbrev sKeeperLost : Stmt := inClass (top 24) 12
abbrev sKeeperTube : Stmt := inClass (top 24) 13
abbrev sKeeperState : Stmt := inClass (top 24) 14
abbrev sDeskInit : Stmt := inClass (top 30) 0
abbrev sDeskCall : Stmt := inClass (top 30) 1
abbrev sDeskTold : Stmt := inClass (top 30) 2
abbrev sRefusedInit : Stmt := inClass (top 20) 0
/-- a def of the module -/
structure GFun (K : PySem.W.Frag) (mg : Str → Option Value) (x : Str) (st : Stmt) (f : Addr) (fd : FuncData) (ps : List Str) : Prop where
  F : Fun K x x st f fd
  g : mg x = some (.ref f)
  b : Binds K fd ps []
/-- a method -/
structure MFun (K : PySem.W.Frag) (C : Addr) (m qual : Str) (st : Stmt) (f : Addr) (fd : FuncData) (ps : List Str) : Prop where
  F : Fun K m qual st f fd
  M : Meth K C m f
  b : Binds K fd ps []
/-- an __init__ -/
structure IFun (K : PySem.W.Frag) (C : Addr) (qual : Str) (st : Stmt) (f : Addr) (fd : FuncData) (ps : List Str) : Prop where
  F : Fun K "__init__" qual st f fd
  M : Mk K C f
  b : Binds K fd ps []
/-- where all stands -/
structure Adr where
  (fTopRun fGoing fPoured fIsSorted fAllPourings fNeed fListed fBegun fAsked fAnswers fComingInit fComingTellSteps fComingLeadsTo fComingPlan fComingFirstStep fComingCountSorted fComingCountLost fKeeperInit fKeeperNeedTube fKeeperDrops fKeeperFill fKeeperGoes fKeeperPour fKeeperMay fKeeperSortedTold fKeeperComing fKeeperFewest fKeeperPlanTold fKeeperReach fKeeperLost fKeeperTube fKeeperState fDeskInit fDeskCall fDeskTold fRefusedInit : Addr)
  (dTopRun dGoing dPoured dIsSorted dAllPourings dNeed dListed dBegun dAsked dAnswers dComingInit dComingTellSteps dComingLeadsTo dComingPlan dComingFirstStep dComingCountSorted dComingCountLost dKeeperInit dKeeperNeedTube dKeeperDrops dKeeperFill dKeeperGoes dKeeperPour dKeeperMay dKeeperSortedTold dKeeperComing dKeeperFewest dKeeperPlanTold dKeeperReach dKeeperLost dKeeperTube dKeeperState dDeskInit dDeskCall dDeskTold dRefusedInit : FuncData)
  (cComing cKeeper cDesk cRefused cTooMany numbers : Addr)
/-- what the top has written -/
structure Txt (K : PySem.W.Frag) (mg : Str → Option Value) (a : Adr) : Prop where
  bLen : mg "len" = none
  bMin : mg "min" = none
  bList : mg "list" = none
  bTuple : mg "tuple" = none
  bSet : mg "set" = none
  bRange : mg "range" = none
  bInt : mg "int" = none
  bSum : mg "sum" = none
  vMostRacks : ∃ t, mg "MOST_RACKS" = some (.int 300 t)
  vNotSo : ∃ t, mg "NOT_SO" = some (.int (-1) t)
  vAbsent : ∃ t, mg "ABSENT" = some (.int (-2) t)
  vSpoilt : ∃ t, mg "SPOILT" = some (.int (-4) t)
  vCannot : ∃ t, mg "CANNOT" = some (.int (-6) t)
  vTooMany : ∃ t, mg "TOO_MANY" = some (.int (-9) t)
  vMostRoom : ∃ t, mg "MOST_ROOM" = some (.int 4 t)
  vLeastTubes : ∃ t, mg "LEAST_TUBES" = some (.int 2 t)
  vMostTubes : ∃ t, mg "MOST_TUBES" = some (.int 5 t)
  vMostColour : ∃ t, mg "MOST_COLOUR" = some (.int 5 t)
  vBegins : ∃ t, mg "BEGINS" = some (.int 0 t)
  vFill : ∃ t, mg "FILL" = some (.int 1 t)
  vNumbers : mg "NUMBERS" = some (.ref a.numbers)
  numbers : ∃ (o : Obj) (its : Array Value) (n : Nat), K.lookup a.numbers = some o ∧ o.cls = .type "tuple" ∧ o.data = .seq its n ∧ its.size ≤ sizeLine ∧ Vals ([2, 1, 2, 2, 0, 0, 0, 0, 2, 1, 0].map V.int) its.toList
  oTopRun : GFun K mg "top_run" sTopRun a.fTopRun a.dTopRun ["tube"]
  oGoing : GFun K mg "going" sGoing a.fGoing a.dGoing ["rack", "room", "one", "other"]
  oPoured : GFun K mg "poured" sPoured a.fPoured a.dPoured ["rack", "one", "other", "count"]
  oIsSorted : GFun K mg "is_sorted" sIsSorted a.fIsSorted a.dIsSorted ["rack"]
  oAllPourings : GFun K mg "all_pourings" sAllPourings a.fAllPourings a.dAllPourings ["rack", "room"]
  oNeed : GFun K mg "need" sNeed a.fNeed a.dNeed ["truth", "answer"]
  oListed : GFun K mg "listed" sListed a.fListed a.dListed ["row"]
  oBegun : GFun K mg "begun" sBegun a.fBegun a.dBegun ["room", "tubes"]
  oAsked : GFun K mg "asked" sAsked a.fAsked a.dAsked ["keeper", "word", "numbers", "row"]
  oAnswers : GFun K mg "answers" sAnswers a.fAnswers a.dAnswers ["calls"]
  oComingInit : IFun K a.cComing "Coming.__init__" sComingInit a.fComingInit a.dComingInit ["self", "rack", "room"]
  oComingTellSteps : MFun K a.cComing "tell_steps" "Coming.tell_steps" sComingTellSteps a.fComingTellSteps a.dComingTellSteps ["self"]
  oComingLeadsTo : MFun K a.cComing "leads_to" "Coming.leads_to" sComingLeadsTo a.fComingLeadsTo a.dComingLeadsTo ["self", "rack", "count"]
  oComingPlan : MFun K a.cComing "plan" "Coming.plan" sComingPlan a.fComingPlan a.dComingPlan ["self", "rack"]
  oComingFirstStep : MFun K a.cComing "first_step" "Coming.first_step" sComingFirstStep a.fComingFirstStep a.dComingFirstStep ["self", "rack"]
  oComingCountSorted : MFun K a.cComing "count_sorted" "Coming.count_sorted" sComingCountSorted a.fComingCountSorted a.dComingCountSorted ["self"]
  oComingCountLost : MFun K a.cComing "count_lost" "Coming.count_lost" sComingCountLost a.fComingCountLost a.dComingCountLost ["self"]
  oKeeperInit : IFun K a.cKeeper "Keeper.__init__" sKeeperInit a.fKeeperInit a.dKeeperInit ["self", "room", "tubes"]
  oKeeperNeedTube : MFun K a.cKeeper "need_tube" "Keeper.need_tube" sKeeperNeedTube a.fKeeperNeedTube a.dKeeperNeedTube ["self", "tube"]
  oKeeperDrops : MFun K a.cKeeper "drops" "Keeper.drops" sKeeperDrops a.fKeeperDrops a.dKeeperDrops ["self"]
  oKeeperFill : MFun K a.cKeeper "fill" "Keeper.fill" sKeeperFill a.fKeeperFill a.dKeeperFill ["self", "tube", "colours"]
  oKeeperGoes : MFun K a.cKeeper "goes" "Keeper.goes" sKeeperGoes a.fKeeperGoes a.dKeeperGoes ["self", "one", "other"]
  oKeeperPour : MFun K a.cKeeper "pour" "Keeper.pour" sKeeperPour a.fKeeperPour a.dKeeperPour ["self", "one", "other"]
  oKeeperMay : MFun K a.cKeeper "may" "Keeper.may" sKeeperMay a.fKeeperMay a.dKeeperMay ["self", "one", "other"]
  oKeeperSortedTold : MFun K a.cKeeper "sorted_told" "Keeper.sorted_told" sKeeperSortedTold a.fKeeperSortedTold a.dKeeperSortedTold ["self"]
  oKeeperComing : MFun K a.cKeeper "coming" "Keeper.coming" sKeeperComing a.fKeeperComing a.dKeeperComing ["self"]
  oKeeperFewest : MFun K a.cKeeper "fewest" "Keeper.fewest" sKeeperFewest a.fKeeperFewest a.dKeeperFewest ["self"]
  oKeeperPlanTold : MFun K a.cKeeper "plan_told" "Keeper.plan_told" sKeeperPlanTold a.fKeeperPlanTold a.dKeeperPlanTold ["self"]
  oKeeperReach : MFun K a.cKeeper "reach" "Keeper.reach" sKeeperReach a.fKeeperReach a.dKeeperReach ["self"]
  oKeeperLost : MFun K a.cKeeper "lost" "Keeper.lost" sKeeperLost a.fKeeperLost a.dKeeperLost ["self", "one", "other"]
  oKeeperTube : MFun K a.cKeeper "tube" "Keeper.tube" sKeeperTube a.fKeeperTube a.dKeeperTube ["self", "tube"]
  oKeeperState : MFun K a.cKeeper "state" "Keeper.state" sKeeperState a.fKeeperState a.dKeeperState ["self"]
  oDeskInit : IFun K a.cDesk "Desk.__init__" sDeskInit a.fDeskInit a.dDeskInit ["self"]
  oDeskCall : MFun K a.cDesk "call" "Desk.call" sDeskCall a.fDeskCall a.dDeskCall ["self", "word", "numbers", "row"]
  oDeskTold : MFun K a.cDesk "told" "Desk.told" sDeskTold a.fDeskTold a.dDeskTold ["self", "word", "numbers", "row"]
  gComing : mg "Coming" = some (.ref a.cComing)
  clComing : Cls K a.cComing
  nComingPourings : NoAttr K a.cComing "pourings"
  nComingRacks : NoAttr K a.cComing "racks"
  nComingSteps : NoAttr K a.cComing "steps"
  gKeeper : mg "Keeper" = some (.ref a.cKeeper)
  clKeeper : Cls K a.cKeeper
  nKeeperRoom : NoAttr K a.cKeeper "room"
  nKeeperRack : NoAttr K a.cKeeper "rack"
  nKeeperCount : NoAttr K a.cKeeper "count"
  gDesk : mg "Desk" = some (.ref a.cDesk)
  clDesk : Cls K a.cDesk
  nDeskKeeper : NoAttr K a.cDesk "keeper"
  gRefused : mg "Refused" = some (.ref a.cRefused)
  oexRefused : OexC K a.cRefused
  xfRefused : XfC K a.cRefused
  naRefused : PySem.W.findIn K (.ref a.cRefused) "answer" = some none
  iRefused : PySem.W.findIn K (.ref a.cRefused) "__init__" = some (some (.ref a.fRefusedInit))
  tRefused : PySem.W.typeIn K (.ref a.fRefusedInit) = some (.type "function")
  eRefused : PySem.W.exmOne K (.ref a.cRefused) (.ref a.cRefused) = some true
  oRefusedInit : Fun K "__init__" "Refused.__init__" sRefusedInit a.fRefusedInit a.dRefusedInit
  bRefusedInit : Binds K a.dRefusedInit ["self", "answer"] []
  gTooMany : mg "TooMany" = some (.ref a.cTooMany)
  xTooMany : PySem.W.excIn K a.cTooMany [.type "ValueError", .type "Exception", .type "BaseException", .type "object"] "ValueError.__new__" = true
  kTooMany : PySem.W.keepIn K (.ref a.cTooMany) = true
  bTooMany : PySem.W.subIn K (.ref a.cTooMany) (.type "BaseException") = some true
  tTooMany : PySem.W.typeIn K (.ref a.cTooMany) = some (.type "type")
  eTooMany : PySem.W.exmOne K (.ref a.cTooMany) (.ref a.cTooMany) = some true
end Td

/-! Plain Lean: what a rack is when it's sorted. -/
namespace Td
/-- all drops of one colour -/
def uniform (l : List Nat) : Bool := l.all fun (c : Nat) => l.head? == some c
/-- the lowest drops' colours -/
def bottoms (r : Sy71.Rack) : List Nat := r.filterMap List.getLast?
theorem uniform_iff (l : List Nat) : uniform l = true ↔ ∃ c, ∀ x ∈ l, x = c := by
  unfold uniform
  rw [List.all_eq_true]
  constructor
  · intro h
    cases l with
    | nil => exact ⟨0, fun x hx => by simp at hx⟩
    | cons c l => exact ⟨c, fun x hx => by
        have q := h x hx
        have q2 : some c = some x := eq_of_beq q
        exact (Option.some.inj q2).symm⟩
  · rintro ⟨c, h⟩ x hx
    cases l with
    | nil => simp at hx
    | cons d l =>
      have h1 := h d List.mem_cons_self
      have h2 := h x hx
      simp [h1, h2]
theorem filter_empty (l : List Nat) : (((l.reverse.map Int.ofNat).filter fun z => z != (l.reverse.map Int.ofNat).headD 0).isEmpty) = uniform l := by
  rw [Bool.eq_iff_iff, uniform_iff, List.isEmpty_iff, List.filter_eq_nil_iff]
  constructor
  · intro h
    refine ⟨((l.reverse.map Int.ofNat).headD 0).toNat, fun x hx => ?_⟩
    have := h (Int.ofNat x) (List.mem_map.mpr ⟨x, List.mem_reverse.mpr hx, rfl⟩)
    simp only [bne_iff_ne, ne_eq, Decidable.not_not] at this
    rw [← this]
    rfl
  · rintro ⟨c, h⟩ z hz
    obtain ⟨x, hx, rfl⟩ := List.mem_map.mp hz
    have e1 := h x (List.mem_reverse.mp hx)
    cases e : l.reverse with
    | nil => rw [e] at hx; simp at hx
    | cons d m =>
      have e2 := h d (List.mem_reverse.mp (by rw [e]; exact List.mem_cons_self))
      simp [e1, e2]
theorem uniform_last {l : List Nat} (h : uniform l = true) : l.getLast? = l.head? := by
  obtain ⟨c, h⟩ := (uniform_iff l).mp h
  cases l with
  | nil => rfl
  | cons d l =>
    have hd := h d List.mem_cons_self
    cases e : (d :: l).getLast? with
    | none => simp at e
    | some x =>
      rw [List.head?_cons]
      exact congrArg some ((h x (List.mem_of_getLast? e)).trans hd.symm)
theorem bottoms_heads {r : Sy71.Rack} (h : r.all uniform = true) : bottoms r = r.filterMap List.head? := by
  unfold bottoms
  induction r with
  | nil => rfl
  | cons l r ih =>
    rw [List.all_cons, Bool.and_eq_true] at h
    rw [List.filterMap_cons, List.filterMap_cons, uniform_last h.1, ih h.2]
theorem range_all {n : Nat} {p : Nat → Bool} : (List.range n).all p = true ↔ ∀ i, i < n → p i = true := by
  rw [List.all_eq_true]
  exact ⟨fun h i hi => h i (List.mem_range.mpr hi), fun h i hi => h i (List.mem_range.mp hi)⟩
theorem sorted_iff {r : Sy71.Rack} (h : r.all uniform = true) : Sy71.sorted r = true ↔ (bottoms r).Nodup := by
  rw [bottoms_heads h]
  unfold Sy71.sorted
  have h' : r.all (fun (l : List Nat) => l.all fun (c : Nat) => l.head? == some c) = true := h
  rw [h', Bool.true_and, range_all]
  unfold List.Nodup
  rw [List.pairwise_filterMap, List.pairwise_iff_getElem]
  constructor
  · intro q i j hi hj hij b hb b' hb' e
    subst e
    have z := range_all.mp (q i hi) j hj
    have g1 : r.getD i [] = r[i] := by simp [List.getD_eq_getElem?_getD, List.getElem?_eq_getElem hi]
    have g2 : r.getD j [] = r[j] := by simp [List.getD_eq_getElem?_getD, List.getElem?_eq_getElem hj]
    have hb1 : r[i].head? = some b := hb
    have hb2 : r[j].head? = some b := hb'
    rw [g1, g2, hb1, hb2] at z
    have ne : (i == j) = false := by simp; omega
    have em : r[i].isEmpty = false := by
      cases e : r[i] with
      | nil => rw [e] at hb1; cases hb1
      | cons _ _ => rfl
    rw [ne, em] at z
    simp at z
  · intro q i hi
    refine range_all.mpr fun j hj => ?_
    have g1 : r.getD i [] = r[i] := by simp [List.getD_eq_getElem?_getD, List.getElem?_eq_getElem hi]
    have g2 : r.getD j [] = r[j] := by simp [List.getD_eq_getElem?_getD, List.getElem?_eq_getElem hj]
    rw [g1, g2]
    by_cases ij : i = j
    · simp [ij]
    cases e : r[i] with
    | nil => simp
    | cons c l =>
      have ne : (i == j) = false := by simp [ij]
      rw [ne]
      simp only [Bool.false_or, List.isEmpty_cons, bne_iff_ne, ne_eq]
      intro z
      have hc : r[i].head? = some c := by rw [e]; rfl
      have hd : r[j].head? = some c := by rw [← z]; rfl
      rcases Nat.lt_or_gt_of_ne ij with lt | lt
      · exact q i j hi hj lt c hc c hd rfl
      · exact q j i hj hi lt c hd c hc rfl
theorem sorted_false {r : Sy71.Rack} {l : List Nat} (hl : l ∈ r) (h : uniform l = false) : Sy71.sorted r = false := by
  unfold Sy71.sorted
  have h' : r.all (fun (l : List Nat) => l.all fun (c : Nat) => l.head? == some c) = false := by
    rw [List.all_eq_false]
    exact ⟨l, hl, by rw [show (l.all fun (c : Nat) => l.head? == some c) = uniform l from rfl, h]; simp⟩
  rw [h', Bool.false_and]
theorem bottoms_snoc (r : Sy71.Rack) (l : List Nat) : bottoms (r ++ [l]) = bottoms r ++ l.getLast?.toList := by
  unfold bottoms
  rw [List.filterMap_append]
  cases e : l.getLast? <;> simp [e]
theorem take_snoc {r : Sy71.Rack} {i : Nat} (h : i < r.length) : r.take (i + 1) = r.take i ++ [r.getD i []] := by
  rw [List.take_add_one, List.getElem?_eq_getElem h, List.getD_eq_getElem?_getD, List.getElem?_eq_getElem h]
  rfl
end Td
namespace Td
/-! ### pourings -/
/-- no tube has more than so many -/
def Fits (n : Nat) (r : Sy71.Rack) : Prop := ∀ l ∈ r, l.length ≤ n
theorem getD_of {r : Sy71.Rack} {i : Nat} (h : i < r.length) : r[i]? = some (r.getD i []) := by
  rw [List.getElem?_eq_getElem h, List.getD_eq_getElem?_getD, List.getElem?_eq_getElem h]
  rfl
theorem Fits.at {n : Nat} {r : Sy71.Rack} (h : Fits n r) (i : Nat) : (r.getD i []).length ≤ n := by
  by_cases hi : i < r.length
  · exact h _ (List.mem_of_getElem? (getD_of hi))
  · rw [List.getD_eq_getElem?_getD, List.getElem?_eq_none (by omega)]
    exact Nat.zero_le _
/-- how many go -/
def gone (n : Nat) (r : Sy71.Rack) (i j : Nat) : Nat := if i = j then 0 else Sy71.goes n (r.getD i []) (r.getD j [])
def pouredR (r : Sy71.Rack) (i j k : Nat) : Sy71.Rack := (r.set i ((r.getD i []).drop k)).set j ((r.getD i []).take k ++ r.getD j [])
/-- a pouring: from, into, the rack behind it -/
abbrev Step := Nat × Nat × Sy71.Rack
def stepOf (n : Nat) (r : Sy71.Rack) (x : Nat × Nat) : Option Step := (Sy71.poured n r x.1 x.2).map fun u => (x.1, x.2, u)
def pourings (n : Nat) (r : Sy71.Rack) : List Step := (Sy71.moves r).filterMap (stepOf n r)
theorem poured_some {n : Nat} {r : Sy71.Rack} {i j : Nat} (hi : i < r.length) (hj : j < r.length) (h : 0 < gone n r i j) : Sy71.poured n r i j = some (pouredR r i j (gone n r i j)) := by
  unfold gone at h ⊢
  by_cases ij : i = j
  · rw [if_pos ij] at h
    exact absurd h (Nat.lt_irrefl _)
  · rw [if_neg ij] at h ⊢
    unfold Sy71.poured
    rw [if_neg (by omega)]
    rfl
theorem poured_none {n : Nat} {r : Sy71.Rack} {i j : Nat} (h : gone n r i j = 0) : Sy71.poured n r i j = none := by
  unfold gone at h
  unfold Sy71.poured
  by_cases ij : i = j
  · exact if_pos (.inr (.inr (.inl ij)))
  · rw [if_neg ij] at h
    exact if_pos (.inr (.inr (.inr h)))
theorem top_le (l : List Nat) : Sy71.top l ≤ l.length := by
  cases l with
  | nil => exact Nat.le_refl _
  | cons c l =>
    show 1 + (l.takeWhile fun (d : Nat) => d == c).length ≤ l.length + 1
    have h := (List.takeWhile_sublist (l := l) fun (d : Nat) => d == c).length_le
    omega
theorem goes_le (n : Nat) (x y : List Nat) : Sy71.goes n x y ≤ x.length ∧ Sy71.goes n x y ≤ n - y.length := by
  cases x with
  | nil => exact ⟨Nat.zero_le _, Nat.zero_le _⟩
  | cons c l =>
    show (if y.isEmpty = true ∨ y.head? = some c then min (Sy71.top (c :: l)) (n - y.length) else 0) ≤ _ ∧ (if y.isEmpty = true ∨ y.head? = some c then min (Sy71.top (c :: l)) (n - y.length) else 0) ≤ _
    have h := top_le (c :: l)
    split
    · omega
    · omega
theorem gone_le (n : Nat) (r : Sy71.Rack) (i j : Nat) : gone n r i j ≤ (r.getD i []).length ∧ gone n r i j ≤ n - (r.getD j []).length := by
  unfold gone
  split
  · exact ⟨Nat.zero_le _, Nat.zero_le _⟩
  · exact goes_le _ _ _
theorem mem_set_cases {r : Sy71.Rack} {i : Nat} {l x : List Nat} (h : x ∈ r.set i l) : x ∈ r ∨ x = l := by
  rcases List.mem_or_eq_of_mem_set h with h | h
  · exact .inl h
  · exact .inr h
theorem poured_fits {n : Nat} {r u : Sy71.Rack} {i j : Nat} (hf : Fits n r) (h : Sy71.poured n r i j = some u) : Fits n u ∧ u.length = r.length := by
  unfold Sy71.poured at h
  dsimp only at h
  split at h
  · cases h
  · rename_i c
    have e := Option.some.inj h
    subst e
    have g := goes_le n (r.getD i []) (r.getD j [])
    have f1 := hf.at i
    have f2 := hf.at j
    refine ⟨fun x hx => ?_, by simp⟩
    rcases mem_set_cases hx with hx | hx
    · rcases mem_set_cases hx with hx | hx
      · exact hf x hx
      · rw [hx, List.length_drop]
        omega
    · rw [hx, List.length_append, List.length_take]
      omega
theorem mem_pourings {n : Nat} {r : Sy71.Rack} {x : Step} (h : x ∈ pourings n r) : Sy71.poured n r x.1 x.2.1 = some x.2.2 := by
  obtain ⟨y, _, e⟩ := List.mem_filterMap.mp h
  unfold stepOf at e
  cases e2 : Sy71.poured n r y.1 y.2 with
  | none => rw [e2] at e; cases e
  | some u =>
    rw [e2] at e
    cases e
    exact e2
theorem pourings_fits {n : Nat} {r : Sy71.Rack} (hf : Fits n r) {x : Step} (h : x ∈ pourings n r) : Fits n x.2.2 ∧ x.2.2.length = r.length := poured_fits hf (mem_pourings h)
theorem nexts_pourings (n : Nat) (r : Sy71.Rack) : Sy71.nexts n r = (pourings n r).map fun x => x.2.2 := by
  unfold Sy71.nexts pourings
  rw [List.map_filterMap]
  congr 1
  funext x
  unfold stepOf
  cases Sy71.poured n r x.1 x.2 <;> rfl
/-- those of the first rows and of some of the next -/
def soFar (n : Nat) (r : Sy71.Rack) (i j : Nat) : List Step := ((List.range i).flatMap fun (a : Nat) => (List.range r.length).map fun (b : Nat) => (a, b)).filterMap (stepOf n r) ++ ((List.range j).map fun (b : Nat) => (i, b)).filterMap (stepOf n r)
theorem soFar_start (n : Nat) (r : Sy71.Rack) : soFar n r 0 0 = [] := rfl
theorem soFar_turn (n : Nat) (r : Sy71.Rack) (i j : Nat) : soFar n r i (j + 1) = soFar n r i j ++ (stepOf n r (i, j)).toList := by
  unfold soFar
  rw [List.range_succ, List.map_append, List.filterMap_append, List.append_assoc]
  congr 2
theorem soFar_row (n : Nat) (r : Sy71.Rack) (i : Nat) : soFar n r i r.length = soFar n r (i + 1) 0 := by
  unfold soFar
  rw [List.range_succ, List.flatMap_append, List.filterMap_append]
  simp
theorem soFar_end (n : Nat) (r : Sy71.Rack) : soFar n r r.length 0 = pourings n r := by
  unfold soFar pourings Sy71.moves
  simp
theorem pair_rows_length (m i : Nat) : ((List.range i).flatMap fun (a : Nat) => (List.range m).map fun (b : Nat) => (a, b)).length = i * m := by
  induction i with
  | zero => simp
  | succ i ih =>
    rw [List.range_succ, List.flatMap_append, List.length_append, ih, Nat.succ_mul]
    simp
theorem soFar_length (n : Nat) (r : Sy71.Rack) (i j : Nat) : (soFar n r i j).length ≤ i * r.length + j := by
  unfold soFar
  rw [List.length_append]
  have h1 := List.length_filterMap_le (stepOf n r) ((List.range i).flatMap fun (a : Nat) => (List.range r.length).map fun (b : Nat) => (a, b))
  have h2 := List.length_filterMap_le (stepOf n r) ((List.range j).map fun (b : Nat) => (i, b))
  rw [pair_rows_length] at h1
  rw [List.length_map, List.length_range] at h2
  omega
theorem pourings_length (n : Nat) (r : Sy71.Rack) : (pourings n r).length ≤ r.length * r.length := by
  have h := soFar_length n r r.length 0
  rw [soFar_end] at h
  omega
end Td

/-! pourings.py: each def keeps its promise. -/
namespace Td
open PySem PySem.Spec PyProof.Rows L2

theorem tubeV_length (l : List Nat) : (tubeV l).length = l.length := by simp [tubeV, tubeI]
/-- the drop that lies j below the topmost -/
theorem tubeV_get {l : List Nat} {j : Nat} (h : j < l.length) : (tubeV l)[l.length - 1 - j]? = some (.int (l[j] : Nat)) := by
  unfold tubeV tubeI
  rw [List.getElem?_map, List.getElem?_map, List.getElem?_reverse (by omega)]
  have e : l.length - 1 - (l.length - 1 - j) = j := by omega
  rw [e, List.getElem?_eq_getElem h]
  rfl
theorem takeWhile_len {c : Nat} : ∀ {l : List Nat} {k : Nat}, (∀ j, j < k → l[j]? = some c) → (k = l.length ∨ ∃ d, l[k]? = some d ∧ d ≠ c) → (l.takeWhile fun d => d == c).length = k
  | [], k, h, e => by
    rcases e with e | ⟨d, e, _⟩
    · simpa using e.symm
    · simp at e
  | x :: l, 0, h, e => by
    rcases e with e | ⟨d, e, n⟩
    · simp at e
    · have : x = d := by simpa using e
      subst this
      rw [List.takeWhile_cons, if_neg (by simpa using n)]
      rfl
  | x :: l, k + 1, h, e => by
    have hx : x = c := by simpa using h 0 (Nat.succ_pos _)
    subst hx
    rw [List.takeWhile_cons, if_pos (by simp), List.length_cons, takeWhile_len (k := k) (fun j hj => by simpa using h (j + 1) (by omega)) (by
      rcases e with e | ⟨d, e, n⟩
      · exact .inl (by simpa using e)
      · exact .inr ⟨d, by simpa using e, n⟩)]
theorem top_is {l : List Nat} {k : Nat} (h : ∀ j, j < k → l[j]? = l[0]?) (e : k = l.length ∨ ∃ d, l[k]? = some d ∧ l[0]? ≠ some d) : Sy71.top l = k := by
  cases l with
  | nil =>
    rcases e with e | ⟨d, e, _⟩
    · exact e.symm
    · simp at e
  | cons c l =>
    show 1 + (l.takeWhile fun d => d == c).length = k
    cases k with
    | zero =>
      rcases e with e | ⟨d, e, n⟩
      · simp at e
      · exact absurd e n
    | succ k =>
      rw [takeWhile_len (c := c) (k := k) (fun j hj => by simpa using h (j + 1) (by omega)) (by
        rcases e with e | ⟨d, e, n⟩
        · exact .inl (by simpa using e)
        · exact .inr ⟨d, by simpa using e, fun z => n (by rw [z]; rfl)⟩)]
      omega

/-! ### data that is compared with an empty list or tuple -/
theorem dp_ints {K : PySem.W.Frag} {H : Hp} : ∀ ns : List Int, DpAll K H (ns.map V.int) (ns.map PyData.int)
  | [] => .nil
  | n :: ns => .cons (.int n) (dp_ints ns)
theorem lay_ints : ∀ ns : List Int, PyData.canLayAll0 (ns.map PyData.int) = true
  | [] => rfl
  | n :: ns => by
    show (PyData.canLay0 (.int n) && PyData.canLayAll0 (ns.map PyData.int)) = true
    rw [lay_ints ns]
    rfl
theorem deep_ints : ∀ ns : List Int, PyData.depthAll (ns.map PyData.int) = 0
  | [] => rfl
  | n :: ns => by
    show max (PyData.depth (.int n)) (PyData.depthAll (ns.map PyData.int)) = 0
    rw [deep_ints ns]
    rfl
theorem shaped_of {ds : List PyData} {d : PyData} (hd : d = .tuple ds ∨ d = .list ds) (h1 : PyData.canLayAll0 ds = true) (h2 : PyData.depthAll ds ≤ 60) : SeqAt.shaped d = true := by
  unfold SeqAt.shaped
  rcases hd with rfl | rfl
  · rw [show PyData.canLay0 (.tuple ds) = PyData.canLayAll0 ds from rfl, h1, show PyData.depth (.tuple ds) = PyData.depthAll ds + 1 from rfl]
    simp
    omega
  · rw [show PyData.canLay0 (.list ds) = PyData.canLayAll0 ds from rfl, h1, show PyData.depth (.list ds) = PyData.depthAll ds + 1 from rfl]
    simp
    omega
theorem eqv_nil (ds : List PyData) : PyData.eqvAll ds [] = ds.isEmpty := by
  cases ds <;> rfl
theorem dpAll_empty {K : PySem.W.Frag} {H : Hp} {xs : List V} {ds : List PyData} (d : DpAll K H xs ds) : ds.isEmpty = xs.isEmpty := by
  cases d <;> rfl
section
variable {K : PySem.W.Frag} {H : Hp} {p e : Addr} {xs : List V} {ds : List PyData} {Q : VK}
theorem rEq_tup (h : SqT K H p xs) (d : DpAll K H xs ds) (h1 : PyData.canLayAll0 ds = true) (h2 : PyData.depthAll ds ≤ 60) (he : SqT K H e []) (q : Q (.bl xs.isEmpty) H) : rEqD K (.ref p) (.ref e) H Q :=
  ⟨.tuple ds, .tuple [], .tup h d, .tup he .nil, shaped_of (.inl rfl) h1 h2, shaped_of (.inl rfl) rfl (by decide), by
    rw [show PyData.eqv (.tuple ds) (.tuple []) = PyData.eqvAll ds [] from rfl, eqv_nil, dpAll_empty d]; exact q⟩
theorem rNe_tup (h : SqT K H p xs) (d : DpAll K H xs ds) (h1 : PyData.canLayAll0 ds = true) (h2 : PyData.depthAll ds ≤ 60) (he : SqT K H e []) (q : Q (.bl (!xs.isEmpty)) H) : rNeD K (.ref p) (.ref e) H Q :=
  ⟨.tuple ds, .tuple [], .tup h d, .tup he .nil, shaped_of (.inl rfl) h1 h2, shaped_of (.inl rfl) rfl (by decide), by
    rw [show PyData.eqv (.tuple ds) (.tuple []) = PyData.eqvAll ds [] from rfl, eqv_nil, dpAll_empty d]; exact q⟩
theorem rEq_lst (h : SqL K H p xs) (d : DpAll K H xs ds) (h1 : PyData.canLayAll0 ds = true) (h2 : PyData.depthAll ds ≤ 60) (he : SqL K H e []) (q : Q (.bl xs.isEmpty) H) : rEqD K (.ref p) (.ref e) H Q :=
  ⟨.list ds, .list [], .lst h d, .lst he .nil, shaped_of (.inr rfl) h1 h2, shaped_of (.inr rfl) rfl (by decide), by
    rw [show PyData.eqv (.list ds) (.list []) = PyData.eqvAll ds [] from rfl, eqv_nil, dpAll_empty d]; exact q⟩
theorem rNe_lst (h : SqL K H p xs) (d : DpAll K H xs ds) (h1 : PyData.canLayAll0 ds = true) (h2 : PyData.depthAll ds ≤ 60) (he : SqL K H e []) (q : Q (.bl (!xs.isEmpty)) H) : rNeD K (.ref p) (.ref e) H Q :=
  ⟨.list ds, .list [], .lst h d, .lst he .nil, shaped_of (.inr rfl) h1 h2, shaped_of (.inr rfl) rfl (by decide), by
    rw [show PyData.eqv (.list ds) (.list []) = PyData.eqvAll ds [] from rfl, eqv_nil, dpAll_empty d]; exact q⟩
end
theorem tubeV_empty (l : List Nat) : (tubeV l).isEmpty = l.isEmpty := by
  cases l with
  | nil => rfl
  | cons c l =>
    have h : (tubeV (c :: l)).length = (c :: l).length := tubeV_length _
    cases e : tubeV (c :: l) with
    | nil =>
      rw [e] at h
      cases h
    | cons _ _ => rfl
theorem same_upd {H : Hp} {e : Addr} {o : HO} (he : H e = none) : Same H (upd H e o) := fun b u h => by
  rw [upd_ne (ne_of_none h he)]
  exact h
theorem TubeAt.same {H H' : Hp} {t : Addr} {l : List Nat} (h : TubeAt H t l) (k : Same H H') : TubeAt H' t l := k _ _ h
theorem TubeAt.sq {K : PySem.W.Frag} {H : Hp} {t : Addr} {l : List Nat} (h : TubeAt H t l) : SqT K H t ((tubeI l).map V.int) := SqT.of h
theorem zero_le_line : ([] : List V).length ≤ sizeLine := Nat.zero_le _
theorem deep_ints' (ns : List Int) : PyData.depthAll (ns.map PyData.int) ≤ 60 := by
  rw [deep_ints]
  decide
/-! ### slices, sums of tuples: some tuple of what is wanted -/
def rSlB : V → Option Int → Option Int → Hp → VK → Prop := fun x lo hi H Q => ∃ p xs, x = .ref p ∧ H p = some (.tup xs) ∧ ∀ e H', Same H H' → H' e = some (.tup (cutV xs lo hi)) → Q (.ref e) H'
def rCatB : R2 := fun x y H Q => ∃ p b xs ys, x = .ref p ∧ y = .ref b ∧ H p = some (.tup xs) ∧ H b = some (.tup ys) ∧ xs.length + ys.length ≤ sizeLine ∧ ∀ e H', Same H H' → H' e = some (.tup (xs ++ ys)) → Q (.ref e) H'
theorem sl_tupB {X : Cx} : SlR X rSlB := by
  intro pins s σ H x v vl vu lo hi sl Q I rx hs pl pu ⟨p, xs, ex, h, q⟩
  refine sl_tupA pins s σ H x v vl vu lo hi sl Q I rx hs pl pu ⟨p, xs, ex, SqT.of h, fun z => ?_, fun _ e he => q e _ (same_upd he) upd_same⟩
  refine q p H (Same.refl H) ?_
  rw [h]
  unfold cutV
  rw [z.1, z.2, Nat.sub_zero, List.drop_zero, List.take_length]
theorem op_catB {X : Cx} : OpR X (binaryOp .Add) rCatB := by
  intro pins s σ H x y v u Q I rx ry ⟨p, b, xs, ys, ex, ey, h, h2, hl, q⟩
  refine op_catA pins s σ H x y v u Q I rx ry ⟨p, b, xs, ys, ex, ey, SqT.of h, SqT.of h2, hl, fun z => ?_, fun _ z => ?_, fun _ _ e he => q e _ (same_upd he) upd_same⟩
  · subst z
    exact q b H (Same.refl H) h2
  · subst z
    exact q p H (Same.refl H) (by rw [List.append_nil]; exact h)
theorem tubeV_append (x y : List Nat) : tubeV x ++ tubeV y = tubeV (y ++ x) := by
  unfold tubeV tubeI
  rw [List.reverse_append, List.map_append, List.map_append]
theorem cut_top {l : List Nat} {k : Nat} {n : Nat} (hn : n = l.length) (h : k ≤ l.length) : cutV (tubeV l) (some ((n : Int) - (k : Nat))) none = tubeV (l.take k) := by
  subst hn
  unfold cutV
  rw [tubeV_length, show ((l.length : Int) - (k : Nat)) = ((l.length - k : Nat) : Int) by omega, HT.sIx_nat, HT.sIx_none]
  have e : min (l.length - k) l.length = l.length - k := by omega
  rw [e]
  unfold tubeV tubeI
  rw [← List.map_drop, ← List.map_drop, List.drop_reverse, ← List.map_take, ← List.map_take]
  have e2 : l.length - (l.length - k) = k := by omega
  rw [e2, List.take_of_length_le (by simp; omega)]
theorem cut_rest {l : List Nat} {k : Nat} {n : Nat} (hn : n = l.length) (h : k ≤ l.length) : cutV (tubeV l) none (some ((n : Int) - (k : Nat))) = tubeV (l.drop k) := by
  subst hn
  unfold cutV
  rw [tubeV_length, show ((l.length : Int) - (k : Nat)) = ((l.length - k : Nat) : Int) by omega, HT.sIx_nat, HT.sIx_none]
  have e : min (l.length - k) l.length - 0 = l.length - k := by omega
  rw [e, List.drop_zero]
  unfold tubeV tubeI
  rw [← List.map_take, ← List.map_take, List.take_reverse]
  have e2 : l.length - (l.length - k) = k := by omega
  rw [e2]
theorem paired_set {α β : Type} {F : α → β → Prop} {t : α} {y : β} (h : F t y) : ∀ {ts : List α} {r : List β} (i : Nat), Paired F ts r → Paired F (ts.set i t) (r.set i y)
  | _, _, _, .nil => .nil
  | _, _, 0, .cons _ t1 => .cons h t1
  | _, _, i + 1, .cons h1 t1 => .cons h1 (paired_set h i t1)
/-! ### a rack's tubes -/
theorem paired_get {α β : Type} {F : α → β → Prop} : ∀ {ts : List α} {r : List β} {i : Nat} {y : β}, Paired F ts r → r[i]? = some y → ∃ t, ts[i]? = some t ∧ F t y
  | _, _, i, y, .nil, h => by simp at h
  | _, _, 0, y, .cons h1 _, h => by
    rw [List.getElem?_cons_zero] at h
    cases h
    exact ⟨_, rfl, h1⟩
  | _, _, i + 1, y, .cons _ t1, h => by
    rw [List.getElem?_cons_succ] at h
    rw [List.getElem?_cons_succ]
    exact paired_get t1 h
theorem paired_len {α β : Type} {F : α → β → Prop} : ∀ {ts : List α} {r : List β}, Paired F ts r → ts.length = r.length
  | _, _, .nil => rfl
  | _, _, .cons _ t => by rw [List.length_cons, List.length_cons, paired_len t]
theorem RackAt.get {H : Hp} {p : Addr} {rk : Sy71.Rack} (x : RackAt H p rk) : ∃ xs : List V, H p = some (.tup xs) ∧ xs.length = rk.length ∧ ∀ i, i < rk.length → ∃ t, xs[i]? = some (.ref t) ∧ TubeAt H t (rk.getD i []) := by
  obtain ⟨ts, h, pr⟩ := x
  refine ⟨_, h, by rw [List.length_map]; exact paired_len pr, fun i hi => ?_⟩
  obtain ⟨t, ht, f⟩ := paired_get pr (getD_of hi)
  exact ⟨t, by rw [List.getElem?_map, ht]; rfl, f⟩
section
variable {P : Program} {w : World} {K : PySem.W.Frag} {mg : Str → Option Value} {base : Heap} {a : Adr}

theorem atI_neg1 {α : Type} {xs : List α} {v : α} (h : xs[xs.length - 1]? = some v) : atI xs (-1) = some v := by
  have hl : xs.length - 1 < xs.length := (List.getElem?_eq_some_iff.mp h).1
  have e : ixN xs.length (-1) = some (xs.length - 1) := by
    unfold ixN
    rw [if_neg (by decide), if_pos (by omega)]
    congr 1
    omega
  unfold atI
  rw [e]
  exact h
/-- an if whose test is known -/
theorem if_pos_of {c : Bool} {A B : Prop} (hc : c = true) (h : A) : if c = true then A else B := by
  rw [if_pos hc]
  exact h
theorem if_neg_of {c : Bool} {A B : Prop} (hc : c = false) (h : B) : if c = true then A else B := by
  rw [hc, if_neg Bool.false_ne_true]
  exact h
/-! ### top_run -/
def spTopRun : Sp := fun vs H Q _ => ∃ (t : Addr) (l : List Nat), vs = [.ref t] ∧ TubeAt H t l ∧ l.length ≤ 1000 ∧ Q (.int (Sy71.top l : Nat)) H
abbrev scTopRun_N : List Str := ["tube", "count"]
theorem scTopRun : FnScope ["tube", "count"] ["tube"] (defScope sTopRun) := ⟨rfl, rfl, rfl, by decide +kernel, rfl, by decide +kernel, by decide +kernel⟩
theorem ok_TopRun (T : Txt K mg a) : FnOk P w K mg base CX0 1 a.fTopRun a.dTopRun ["tube"] spTopRun := by
  refine T.oTopRun.F.ok scTopRun (fun vs H Q E h => ?_) (fun cdv A outer s H vs Q E hr h => ?_)
  · obtain ⟨t, l, rfl, _⟩ := h
    rfl
  · obtain ⟨t, l, rfl, ht, hl, q⟩ := h
    refine ⟨_, (pss_cons (ps_set (i := 1) scTopRun.nd rfl (Or.inl rfl) pe_int)
      (pss_cons (ps_while PassesOwn.never (PW.pt (pw_and (pt_cmpR op_lt (pv 1) (pe_callB call_len_seq (by rfl) T.bLen PySem.boot_len (pa_cons (pv 0) pa_nil)) (nomark _)) (pw_and1 (pt_cmpR op_eq (pe_ix ix_tup (pv 0) (pe_op op_sub (pe_op op_sub (pe_callB call_len_seq (by rfl) T.bLen PySem.boot_len (pa_cons (pv 0) pa_nil)) pe_int) (pv 1)) (fun _ _ => rfl)) (pe_ix ix_tup (pv 0) (pe_un un_neg pe_int) (fun _ _ => rfl)) (nomark _))))) (pss_one (ps_aug (i := 1) scTopRun.nd rfl (Or.inl rfl) pe_int ip_add)))
      (pss_one (ps_ret (pv 1))))), ?_⟩
    refine ⟨fun m σ H' => H' = H ∧ ∃ c : Nat, σ = [some (.ref t), some (.int (c : Nat))] ∧ m = l.length - c ∧ c ≤ l.length ∧ ∀ j, j < c → l[j]? = l[0]?, ⟨_, rfl, 0, rfl, rfl, Nat.zero_le _, fun j hj => absurd hj (Nat.not_lt_zero _)⟩, ?_⟩
    rintro m σ H' ⟨rfl, c, rfl, rfl, hc, hj⟩
    have ht' : SqT K H' t (tubeV l) := SqT.of ht
    refine ⟨_, rfl, _, rfl, t, _, rfl, Or.inr ht', _, _, rfl, rfl, _, rfl, ?_⟩
    rw [tubeV_length]
    by_cases lt : c < l.length
    · refine if_pos_of (decide_eq_true (by omega)) ?_
      refine ⟨_, rfl, _, rfl, t, _, rfl, Or.inr ht', _, _, rfl, rfl, _, rfl, _, _, rfl, rfl, t, _, _, _, rfl, rfl, ht', at_of (j := l.length - 1 - c) (by rw [tubeV_length]; omega) (tubeV_get lt), ?_⟩
      have h0 : 0 < l.length := by omega
      refine ⟨_, rfl, _, rfl, t, _, _, _, rfl, rfl, ht', atI_neg1 (by rw [tubeV_length]; exact tubeV_get h0), rfl, _, rfl, ?_⟩
      by_cases eq : l[c] = l[0]
      · refine if_pos_of (decide_eq_true (by rw [eq])) ?_
        refine ⟨_, fun σ' H2 (z : H2 = H' ∧ σ' = [some (.ref t), some (.int ((c + 1 : Nat) : Nat))]) => ⟨l.length - (c + 1), by omega, z.1, c + 1, z.2, rfl, lt, fun j hj2 => ?_⟩, ?_⟩
        · by_cases hjc : j < c
          · exact hj j hjc
          · have : j = c := by omega
            subst this
            rw [List.getElem?_eq_getElem lt, List.getElem?_eq_getElem h0, eq]
        · exact ⟨_, rfl, _, _, rfl, rfl, rfl, rfl⟩
      · refine if_neg_of (decide_eq_false fun z => eq (Int.ofNat_inj.mp (V.int.inj z))) ?_
        refine ⟨_, rfl, ?_⟩
        rw [← top_is hj (.inr ⟨l[c], List.getElem?_eq_getElem lt, fun z => eq (by rw [List.getElem?_eq_getElem h0] at z; exact (Option.some.inj z).symm)⟩)]
        exact q
    · refine if_neg_of (decide_eq_false (by omega)) ?_
      refine if_neg_of rfl ?_
      refine ⟨_, rfl, ?_⟩
      rw [← top_is hj (.inl (by omega))]
      exact q

/-! ### going -/
def rSubR : R2 := rI0 fun i j => .int (i - j)
def rLenR (K : PySem.W.Frag) : List V → Hp → VK → Prop := fun xs H Q => ∃ p ys, xs = [V.ref p] ∧ (SqL K H p ys ∨ SqT K H p ys) ∧ Q (V.int (ys.length : Nat)) H
def spGoing : Sp := fun vs H Q _ => ∃ (p : Addr) (rk : Sy71.Rack) (n i j : Nat), vs = [.ref p, .int (n : Nat), .int (i : Nat), .int (j : Nat)] ∧ RackAt H p rk ∧ Fits n rk ∧ n ≤ 4 ∧ i < rk.length ∧ j < rk.length ∧
  ∀ H', Same H H' → Q (.int (gone n rk i j : Nat)) H'
abbrev scGoing_N : List Str := ["rack", "room", "one", "other", "first", "second"]
theorem scGoing : FnScope ["rack", "room", "one", "other", "first", "second"] ["rack", "room", "one", "other"] (defScope sGoing) := ⟨rfl, rfl, rfl, by decide +kernel, rfl, by decide +kernel, by decide +kernel⟩
theorem ok_Going (T : Txt K mg a) : FnOk P w K mg base CX0 2 a.fGoing a.dGoing ["rack", "room", "one", "other"] spGoing := by
  refine T.oGoing.F.ok scGoing (fun vs H Q E h => ?_) (fun cdv A outer s H vs Q E hr h => ?_)
  · obtain ⟨_, _, _, _, _, rfl, _⟩ := h
    rfl
  · obtain ⟨p, rk, n, i, j, rfl, hp, hfit, hn, hi, hj, q⟩ := h
    refine ⟨_, (pss_cons (ps_set (i := 4) scGoing.nd rfl (Or.inl rfl) (pe_ix ix_tup (pv 0) (pv 2) (fun _ _ => rfl)))
      (pss_cons (ps_set (i := 5) scGoing.nd rfl (Or.inl rfl) (pe_ix ix_tup (pv 0) (pv 3) (fun _ _ => rfl)))
      (pss_cons (ps_if (PW.pt (pw_or (pt_cmpR op_eq (pv 2) (pv 3) (nomark _)) (pw_or (pt_cmpR (op_eqD hr.units) (pv 4) (pe_tup pa_nil) (nomark _)) (pw_or1 (PW.pt (pw_and (pt_cmpR (op_neD hr.units) (pv 5) (pe_tup pa_nil) (nomark _)) (pw_and1 (pt_cmpR op_ne (pe_ix ix_tup (pv 5) (pe_un un_neg pe_int) (fun _ _ => rfl)) (pe_ix ix_tup (pv 4) (pe_un un_neg pe_int) (fun _ _ => rfl)) (nomark _))))))))) (pss_one (ps_ret pe_int)) pss_nil)
      (pss_one (ps_ret (pe_callB (call_min2 rfl) (by rfl) T.bMin (by decide +kernel) (pa_cons (pe_call (ok_TopRun T) (hr.mono (by decide)) rfl T.oTopRun.g T.oTopRun.F.kp T.oTopRun.b .nil pass0 (pa_cons (pv 4) pa_nil)) (pa_cons (pe_op op_sub (pv 1) (pe_callB call_len_seq (by rfl) T.bLen PySem.boot_len (pa_cons (pv 5) pa_nil))) pa_nil)))))))), ?_⟩
    obtain ⟨xs, hxs, hlen, hget⟩ := hp.get
    obtain ⟨t1, e1, h1⟩ := hget i hi
    obtain ⟨t2, e2, h2⟩ := hget j hj
    refine ⟨_, rfl, _, rfl, p, xs, _, _, rfl, rfl, SqT.of hxs, atI_nat e1, ?_⟩
    refine ⟨_, rfl, _, rfl, p, xs, _, _, rfl, rfl, SqT.of hxs, atI_nat e2, ?_⟩
    refine ⟨_, rfl, _, rfl, rfl, _, rfl, ?_⟩
    by_cases ij : i = j
    · refine if_pos_of (decide_eq_true (by rw [ij])) (if_pos_of rfl ?_)
      have z := q H (Same.refl H)
      rw [show gone n rk i j = 0 from if_pos ij] at z
      exact z
    refine if_neg_of (decide_eq_false fun z => ij (Int.ofNat_inj.mp (V.int.inj z))) ?_
    generalize hl1 : rk.getD i [] = l1 at h1
    generalize hl2 : rk.getD j [] = l2 at h2
    have hg : gone n rk i j = Sy71.goes n l1 l2 := by rw [← hl1, ← hl2]; exact if_neg ij
    have hf2 : l2.length ≤ n := by rw [← hl2]; exact hfit.at j
    have hf1 : l1.length ≤ n := by rw [← hl1]; exact hfit.at i
    refine ⟨_, rfl, zero_le_line, fun e he => ?_⟩
    have s1 := same_upd (o := .tup []) he
    refine rEq_tup (h1.same s1).sq (dp_ints _) (lay_ints _) (deep_ints' _) (SqT.of upd_same) ⟨_, rfl, ?_⟩
    rw [show ((tubeI l1).map V.int).isEmpty = l1.isEmpty from tubeV_empty l1]
    cases l1 with
    | nil =>
      refine if_pos_of rfl (if_pos_of rfl ?_)
      have z := q _ s1
      rw [hg] at z
      exact z
    | cons c l1 =>
      refine if_neg_of rfl ?_
      refine ⟨_, rfl, zero_le_line, fun e' he' => ?_⟩
      have s2 := s1.trans (same_upd (o := .tup []) he')
      refine rNe_tup (h2.same s2).sq (dp_ints _) (lay_ints _) (deep_ints' _) (SqT.of upd_same) ⟨_, rfl, ?_⟩
      rw [show ((tubeI l2).map V.int).isEmpty = l2.isEmpty from tubeV_empty l2]
      have k1 : (tubeV (c :: l1))[(tubeV (c :: l1)).length - 1]? = some (.int (c : Nat)) := by
        rw [tubeV_length]
        exact tubeV_get (l := c :: l1) (j := 0) (Nat.succ_pos _)
      -- behind the test: the lesser of the two
      have fin : ∀ H', Same H H' → Sy71.goes n (c :: l1) l2 = min (Sy71.top (c :: l1)) (n - l2.length) →
          tRet (tCB (fun xs H Q => ∃ i j, xs = [V.int i, V.int j] ∧ Q (V.int (if j < i then j else i)) H) (tCons (tCall spTopRun [] E0 (tCons (tVar 4) tNil)) (tCons (tOp rSubR (tVar 1) (tCB (rLenR K) (tCons (tVar 5) tNil))) tNil)))
            { nx := fun _ H' => Q .non H', rt := Q } [some (.ref p), some (.int (n : Nat)), some (.int (i : Nat)), some (.int (j : Nat)), some (.ref t1), some (.ref t2)] H' := fun H' sm hgo => by
        refine ⟨_, rfl, t1, c :: l1, rfl, h1.same sm, by omega, ?_⟩
        refine ⟨_, rfl, _, rfl, t2, _, rfl, Or.inr (h2.same sm).sq, _, _, rfl, rfl, _, _, rfl, ?_⟩
        rw [show ((tubeI l2).map V.int).length = l2.length from tubeV_length l2]
        have z := q H' sm
        rw [hg, hgo] at z
        have e3 : (if ((n : Nat) : Int) - (l2.length : Nat) < (Sy71.top (c :: l1) : Nat) then ((n : Nat) : Int) - (l2.length : Nat) else (Sy71.top (c :: l1) : Nat)) = ((min (Sy71.top (c :: l1)) (n - l2.length) : Nat) : Int) := by
          split <;> omega
        rw [e3]
        exact z
      cases l2 with
      | nil =>
        refine if_neg_of rfl ?_
        exact fin _ s2 rfl
      | cons d l2 =>
        have k2 : (tubeV (d :: l2))[(tubeV (d :: l2)).length - 1]? = some (.int (d : Nat)) := by
          rw [tubeV_length]
          exact tubeV_get (l := d :: l2) (j := 0) (Nat.succ_pos _)
        refine if_pos_of rfl ?_
        refine ⟨_, rfl, _, rfl, t2, _, _, _, rfl, rfl, (h2.same s2).sq, atI_neg1 k2, _, rfl, _, rfl, t1, _, _, _, rfl, rfl, (h1.same s2).sq, atI_neg1 k1, rfl, _, rfl, ?_⟩
        by_cases cd : d = c
        · refine if_neg_of (by rw [cd]; simp) ?_
          exact fin _ s2 (if_pos (.inr (by rw [cd]; rfl)))
        · refine if_pos_of (by simp only [Bool.not_eq_true', decide_eq_false_iff_not]; exact fun z => cd (Int.ofNat_inj.mp (V.int.inj z))) ?_
          have z := q _ s2
          rw [hg, show Sy71.goes n (c :: l1) (d :: l2) = 0 from if_neg fun z => by
            rcases z with z | z
            · cases z
            · exact cd (Option.some.inj z)] at z
          exact z

/-! ### poured -/
def spPoured : Sp := fun vs H Q _ => ∃ (p : Addr) (rk : Sy71.Rack) (i j k : Nat), vs = [.ref p, .int (i : Nat), .int (j : Nat), .int (k : Nat)] ∧ RackAt H p rk ∧ Fits 4 rk ∧ rk.length ≤ 5 ∧ i < rk.length ∧ j < rk.length ∧ i ≠ j ∧ k ≤ (rk.getD i []).length ∧
  ∀ e H', Same H H' → RackAt H' e (pouredR rk i j k) → Q (.ref e) H'
abbrev scPoured_N : List Str := ["rack", "one", "other", "count", "first", "found"]
theorem scPoured : FnScope ["rack", "one", "other", "count", "first", "found"] ["rack", "one", "other", "count"] (defScope sPoured) := ⟨rfl, rfl, rfl, by decide +kernel, rfl, by decide +kernel, by decide +kernel⟩
theorem ok_Poured (T : Txt K mg a) : FnOk P w K mg base CX0 1 a.fPoured a.dPoured ["rack", "one", "other", "count"] spPoured := by
  refine T.oPoured.F.ok scPoured (fun vs H Q E h => ?_) (fun cdv A outer s H vs Q E hr h => ?_)
  · obtain ⟨_, _, _, _, _, rfl, _⟩ := h
    rfl
  · obtain ⟨p, rk, i, j, k, rfl, hp, hfit, hlen5, hi, hj, hij, hk, q⟩ := h
    refine ⟨_, (pss_cons (ps_set (i := 4) scPoured.nd rfl (Or.inl rfl) (pe_ix ix_tup (pv 0) (pv 1) (fun _ _ => rfl)))
      (pss_cons (ps_set (i := 5) scPoured.nd rfl (Or.inl rfl) (pe_callTy call_list_of (by rfl) T.bList (by decide +kernel) (pa_cons (pv 0) pa_nil)))
      (pss_cons (ps_asg (pe_op op_catB (pe_ix ix_tup (pv 0) (pv 2) (fun _ _ => rfl)) (pe_slice sl_tupB (pv 4) (po_some (pe_op op_sub (pe_callB call_len_seq (by rfl) T.bLen PySem.boot_len (pa_cons (pv 4) pa_nil)) (pv 3))) po_none)) (pg_sub (pv 5) (pv 2) set_list))
      (pss_cons (ps_asg (pe_slice sl_tupB (pv 4) po_none (po_some (pe_op op_sub (pe_callB call_len_seq (by rfl) T.bLen PySem.boot_len (pa_cons (pv 4) pa_nil)) (pv 3)))) (pg_sub (pv 5) (pv 1) set_list))
      (pss_one (ps_ret (pe_callTy call_tuple_of (by rfl) T.bTuple (by decide +kernel) (pa_cons (pv 5) pa_nil)))))))), ?_⟩
    obtain ⟨ts, hts, pr⟩ := hp
    have hlen := paired_len pr
    obtain ⟨t1, e1, h1⟩ := paired_get pr (getD_of hi)
    obtain ⟨t2, e2, h2⟩ := paired_get pr (getD_of hj)
    have e1' : (ts.map V.ref)[i]? = some (.ref t1) := by rw [List.getElem?_map, e1]; rfl
    have e2' : (ts.map V.ref)[j]? = some (.ref t2) := by rw [List.getElem?_map, e2]; rfl
    have f1 := hfit.at i
    have f2 := hfit.at j
    refine ⟨_, rfl, _, rfl, p, _, _, _, rfl, rfl, SqT.of hts, atI_nat e1', ?_⟩
    refine ⟨_, rfl, p, _, rfl, Or.inr (SqT.of hts), fun f hf => ?_⟩
    have s1 := same_upd (o := .lst (ts.map V.ref)) hf
    refine ⟨_, rfl, _, rfl, p, _, _, _, rfl, rfl, SqT.of (s1 _ _ hts), atI_nat e2', ?_⟩
    have h1' : H t1 = some (.tup (tubeV (rk.getD i []))) := h1
    have h2' : H t2 = some (.tup (tubeV (rk.getD j []))) := h2
    refine ⟨_, rfl, _, rfl, t1, _, rfl, Or.inr (SqT.of (s1 _ _ h1')), _, rfl, _, _, rfl, rfl, _, rfl, ?_⟩
    refine ⟨t1, _, rfl, s1 _ _ h1', fun e3 H3 s3 he3 => ?_⟩
    rw [cut_top (by rw [tubeV_length]) hk] at he3
    refine ⟨t2, e3, _, _, rfl, rfl, s3 _ _ (s1 _ _ h2'), he3, (by rw [tubeV_length, tubeV_length, List.length_take, sizeLine_eq]; omega), fun e4 H4 s4 he4 => ?_⟩
    rw [tubeV_append] at he4
    refine ⟨_, rfl, _, rfl, f, _, _, j, rfl, rfl, s4 _ _ (s3 _ _ upd_same), ?_, ?_⟩
    · rw [List.length_map, hlen]
      unfold ixN
      rw [if_pos (by omega), if_pos (by omega)]
      simp
    have s14 : Same H H4 := (s1.trans s3).trans s4
    have nf : ∀ {b : Addr} {o : HO}, H b = some o → b ≠ f := fun h => ne_of_none h hf
    have keep5 : ∀ b o, H b = some o → upd H4 f (.lst ((ts.map V.ref).set j (.ref e4))) b = some o := fun b o h => by
      rw [upd_ne (nf h)]
      exact s14 _ _ h
    refine ⟨_, rfl, _, rfl, t1, _, rfl, Or.inr (SqT.of (keep5 _ _ h1')), _, rfl, _, _, rfl, rfl, _, rfl, ?_⟩
    refine ⟨t1, _, rfl, keep5 _ _ h1', fun e6 H6 s6 he6 => ?_⟩
    rw [cut_rest (by rw [tubeV_length]) hk] at he6
    refine ⟨_, rfl, _, rfl, f, _, _, i, rfl, rfl, s6 _ _ upd_same, ?_, ?_⟩
    · rw [List.length_set, List.length_map, hlen]
      unfold ixN
      rw [if_pos (by omega), if_pos (by omega)]
      simp
    refine ⟨_, rfl, f, _, rfl, Or.inl ⟨SqL.of upd_same, fun g hg => ?_⟩⟩
    have ef4 : e4 ≠ f := ne_of he4 (s4 _ _ (s3 _ _ upd_same)) (fun z => nomatch z)
    have keep7 : ∀ b o, b ≠ f → H6 b = some o → upd (upd H6 f (.lst (((ts.map V.ref).set j (.ref e4)).set i (.ref e6)))) g (.tup (((ts.map V.ref).set j (.ref e4)).set i (.ref e6))) b = some o := fun b o nb h => by
      have z : upd H6 f (.lst (((ts.map V.ref).set j (.ref e4)).set i (.ref e6))) b = some o := by
        rw [upd_ne nb]
        exact h
      rw [upd_ne (ne_of_none z hg)]
      exact z
    refine q g _ (fun b o h => keep7 b o (nf h) (s6 _ _ (keep5 b o h))) ?_
    refine ⟨(ts.set j e4).set i e6, ?_, ?_⟩
    · rw [upd_same, List.map_set, List.map_set]
    · have ef6 : e6 ≠ f := ne_of he6 (s6 _ _ upd_same) (fun z => nomatch z)
      have pr' : Paired (TubeAt (upd (upd H6 f (.lst (((ts.map V.ref).set j (.ref e4)).set i (.ref e6)))) g (.tup (((ts.map V.ref).set j (.ref e4)).set i (.ref e6))))) ts rk :=
        paired_imp pr fun t l h => keep7 t _ (nf h) (s6 _ _ (keep5 _ _ h))
      have he4' : upd H4 f (.lst ((ts.map V.ref).set j (.ref e4))) e4 = some (.tup (tubeV ((rk.getD i []).take k ++ rk.getD j []))) := by
        rw [upd_ne ef4]
        exact he4
      have y := paired_set (t := e6) (y := (rk.getD i []).drop k) (keep7 _ _ ef6 he6) i (paired_set (t := e4) (y := (rk.getD i []).take k ++ rk.getD j []) (keep7 _ _ ef4 (s6 _ _ he4')) j pr')
      unfold pouredR
      rw [List.set_comm _ _ hij]
      exact y
end
end Td

/-! pourings.py: is_sorted, all_pourings. -/
namespace Td
open PySem PySem.Spec PyProof.Rows L2

/-! ### rules that name the written part outright (for a comprehension's block) -/
section
variable {X : Cx} {e : Expr} {te : TE} {f : Str} {pos : Pos}
theorem ix_tupK (K : PySem.W.Frag) (h : X.K = K) : IxR X (rIxT K) := by subst h; exact ix_tup
theorem ix_listK (K : PySem.W.Frag) (h : X.K = K) : IxR X (rIxL K) := by subst h; exact ix_list
theorem pe_fldK (K : PySem.W.Frag) (h : X.K = K) (he : PE X e te) (hb : attributeBase e f X.env (eval e X.env) = eval e X.env) : PE X (.Attribute e f pos) (tFld K te f) := by subst h; exact pe_fld he hb
theorem pg_tupK (K : PySem.W.Frag) (h : X.K = K) {es : List Expr} {k : Nat} {t : TGs} {n : Nat} (hc : X.calm = true) (hg : PGs X es t)
    (hn : (assignEach es X.env).length = n := by rfl) (hst : (assignEach es X.env).findIdx? (·.1) = none := by rfl) : PG X (.Tuple es k pos) (gTup K n t) := by subst h; exact pg_tup hc hg hn hst
end
/-! ### len(set(xs)) -/
def distinct (ns : List Int) : Nat := (PyProof.Rows.firstMet (fun i => ns.getD i 0) ns.length).length
theorem firstMet_full (ns : List Int) : ∀ i, i ≤ ns.length → (PyProof.Rows.firstMet (fun i => ns.getD i 0) i).length = i → PyProof.Rows.firstMet (fun i => ns.getD i 0) i = ns.take i ∧ (ns.take i).Nodup
  | 0, _, _ => ⟨rfl, List.nodup_nil⟩
  | i + 1, hi, h => by
    have hlt : i < ns.length := hi
    have e1 : ns.getD i 0 = ns[i] := by
      rw [List.getD_eq_getElem?_getD, List.getElem?_eq_getElem hlt] <;> rfl
    have e2 : ns.take (i + 1) = ns.take i ++ [ns[i]] := by
      rw [List.take_add_one, List.getElem?_eq_getElem hlt] <;> rfl
    rw [PyProof.Rows.firstMet_succ] at h ⊢
    unfold PyProof.Rows.step_dedup at h ⊢
    have hle := PyProof.Rows.firstMet_length_le (fun i => ns.getD i 0) i
    by_cases c : (PyProof.Rows.firstMet (fun i => ns.getD i 0) i).any (· == ns.getD i 0) = true
    · rw [if_pos c] at h
      omega
    · rw [if_neg c] at h ⊢
      rw [List.length_append, List.length_singleton] at h
      obtain ⟨ih1, ih2⟩ := firstMet_full ns i (Nat.le_of_lt hlt) (by omega)
      rw [ih1] at c ⊢
      rw [e1] at c ⊢
      rw [e2]
      refine ⟨rfl, List.nodup_append.mpr ⟨ih2, by simp, fun x hx y hy z => c ?_⟩⟩
      rw [List.mem_singleton.mp hy] at z
      exact List.any_eq_true.mpr ⟨x, hx, by rw [z]; exact beq_self_eq_true _⟩
theorem distinct_iff (ns : List Int) : distinct ns = ns.length ↔ ns.Nodup := by
  constructor
  · intro h
    have := (firstMet_full ns ns.length (Nat.le_refl _) h).2
    rwa [List.take_length] at this
  · intro h
    unfold distinct
    rw [RZ.firstMet_nodup h ns.length (Nat.le_refl _), List.take_length]
def tLenSet (K : PySem.W.Frag) (ta : TE) : TE := fun σ H Q => ta σ H fun x H1 => ∃ (l : Addr) (ns : List Int), x = .ref l ∧ SqL K H1 l (ns.map V.int) ∧ ns.length ≤ 4000 ∧ Q (.int (distinct ns : Nat)) H1
theorem pe_lenSet {X : Cx} {a : Expr} {ta : TE} {p p2 q pos : Pos} (hg : Gl X "len") (hm : X.mg "len" = none) (hg2 : Gl X "set") (hm2 : X.mg "set" = none) (ha : PE X a ta) (hc : X.calm = true := by rfl)
    (na : starEach [a] X.env = (false, eval a X.env) :: starEach [] X.env := by rfl) : PE X (.Call (.Name "len" p) [.Call (.Name "set" p2) [a] [] q] [] pos) (tLenSet X.K ta) := by
  refine ⟨fun pins s σ H Q I h => ?_⟩
  refine Call_ (ld_blt I hg hm boot_len ?_)
  refine PyProof.Rows.callWith_builtin1 (PyProof.Rows.args_cons ?_ rfl) rfl rfl
  refine Call_ (ld_blt I hg2 hm2 boot_set ?_)
  refine PyProof.Rows.callWith_type1 (PyProof.Rows.args_cons (thn (ha.run pins s σ H _ I h) fun v s1 ⟨x, H1, I1, r1, q1⟩ => PyProof.Rows.args_nil ?_) na) na rfl
  obtain ⟨l, ns, rfl, hq, hl, q1⟩ := q1
  cases r1
  obtain ⟨its, r, pl, hz⟩ := I1.list hq
  have hlen : its.toArray.size = ns.length := by rw [List.size_toArray, ← r.length, List.length_map]
  refine call_set_list (I1.ok.hd hc) pl.isList (by simpa using RZ.intsAre_vals r) (by rw [hlen]; unfold scanBound; omega) fun h' tk hS hk => ?_
  refine PyProof.Rows.args_nil ?_
  rw [hlen] at hS
  have hle := PyProof.Rows.firstMet_length_le (fun i => ns.getD i 0) ns.length
  obtain ⟨o, es, ep, t, ho, hex, hd, _, _, _, hf, hn⟩ := hS
  have I2 : Inv X pins σ H1 { s1 with heap := h', toks := tk } := I1.kept fun b o e => hk b o (Heap.lt_size e) e
  exact call_len_set ho hex hd hf (by rw [hn] <;> omega) ⟨.int (distinct ns : Nat), H1, I2.tok _, ⟨_, by rw [hn]; rfl⟩, q1⟩

/-- the lowest drop -/
theorem tubeV_low {l : List Nat} (h : l ≠ []) : (tubeV l)[0]? = some (.int ((tubeI l).headD 0)) ∧ l.getLast? = some ((tubeI l).headD 0).toNat ∧ ((((tubeI l).headD 0).toNat : Nat) : Int) = (tubeI l).headD 0 := by
  unfold tubeV tubeI
  rw [List.getElem?_map, List.getElem?_map, ← List.head?_reverse]
  cases e : l.reverse with
  | nil => exact absurd (List.reverse_eq_nil_iff.mp e) h
  | cons c m => exact ⟨rfl, rfl, rfl⟩
theorem take_ints {ns : List Int} {i : Nat} {x : V} (h : (ns.map V.int)[i]? = some x) : ∃ z, x = .int z ∧ ns[i]? = some z ∧ ns.take (i + 1) = ns.take i ++ [z] := by
  rw [List.getElem?_map] at h
  cases e : ns[i]? with
  | none => rw [e] at h; cases h
  | some z =>
    rw [e] at h
    exact ⟨z, (Option.some.inj h).symm, rfl, by rw [List.take_add_one, e]; rfl⟩

section
variable {P : Program} {w : World} {K : PySem.W.Frag} {mg : Str → Option Value} {base : Heap} {a : Adr}
/-! ### is_sorted -/
def spIsSorted : Sp := fun vs H Q _ => ∃ (p : Addr) (rk : Sy71.Rack), vs = [.ref p] ∧ RackAt H p rk ∧ Fits 4 rk ∧ rk.length ≤ 5 ∧ ∀ H', Same H H' → Q (.bl (Sy71.sorted rk)) H'
abbrev scIsSorted_N : List Str := ["rack", "colours", "tube", "drop"]
theorem scIsSorted : FnScope ["rack", "colours", "tube", "drop"] ["rack"] (defScope sIsSorted) := ⟨rfl, rfl, rfl, by decide +kernel, rfl, by decide +kernel, by decide +kernel⟩
theorem ok_IsSorted (T : Txt K mg a) : FnOk P w K mg base CX0 1 a.fIsSorted a.dIsSorted ["rack"] spIsSorted := by
  refine T.oIsSorted.F.ok scIsSorted (fun vs H Q E h => ?_) (fun cdv A outer s H vs Q E hr h => ?_)
  · obtain ⟨_, _, rfl, _⟩ := h
    rfl
  · obtain ⟨p, rk, rfl, hp, hfit, hlen5, q⟩ := h
    refine ⟨_, (pss_cons (ps_set (i := 1) scIsSorted.nd rfl (Or.inl rfl) (pe_lst pa_nil))
      (pss_cons (ps_for PassesOwn.never rfl (pi_tup (pv 0)) (pg_name (i := 2) scIsSorted.nd rfl (Or.inr rfl)) (pss_cons (ps_if (pt_cmpR (op_neD hr.units) (pe_lc (own := [("drop", 3)]) rfl scIsSorted.nd (pi_tup (pv 2)) (blkOk_by (N := scIsSorted_N) (sc := defScope sIsSorted) (by decide +kernel)) (fun _ _ _ _ _ => (pg_name (i := 3) scIsSorted.nd rfl (Or.inl rfl))) (fun _ _ _ _ _ => (pts_one (pt_cmpR op_ne (pv 3) (pe_ix (ix_tupK K rfl) (pv 2) pe_int (fun _ _ => rfl)) (nomark _)))) (fun _ _ _ _ _ => (pv 3))) (pe_lst pa_nil) (nomark _)) (pss_one (ps_ret pe_bl)) pss_nil)
      (pss_one (ps_if (pt_cmpR (op_neD hr.units) (pv 2) (pe_tup pa_nil) (nomark _)) (pss_one (ps_expr (pe_bm PySem.F.plainAttrs_list PySem.F.slot_list_append PySem.F.type_list_append mt_append (pv 1) (pa_cons (pe_ix ix_tup (pv 2) pe_int (fun _ _ => rfl)) pa_nil)))) pss_nil))))
      (pss_one (ps_ret (pe_cmpR op_eq (pe_lenSet (by rfl) T.bLen (by rfl) T.bSet (pv 1)) (pe_callB call_len_seq (by rfl) T.bLen PySem.boot_len (pa_cons (pv 1) pa_nil)) (nomark _)))))), ?_⟩
    obtain ⟨xs, hxs, hlen, hget⟩ := hp.get
    refine ⟨zero_le_line, fun c hc => ?_⟩
    refine ⟨_, rfl, p, rfl, ⟨_, SqT.of (same_upd hc _ _ hxs)⟩, for_tup (xs := xs) (fun i σ H' => ∃ v : Option V, σ = [some (.ref p), some (.ref c), v, none] ∧ Same H H' ∧ H' c = some (.lst ((bottoms (rk.take i)).map fun n => V.int (n : Nat))) ∧ (rk.take i).all uniform = true)
      ⟨none, rfl, same_upd hc, upd_same, rfl⟩ (fun i σ H' _ ⟨_, _, sm, _⟩ => SqT.of (sm _ _ hxs)) ?_ ?_⟩
    · rintro i x σ H' hi ⟨v, rfl, sm, hcl, hu⟩
      obtain ⟨hi2, _⟩ := List.getElem?_eq_some_iff.mp hi
      rw [hlen] at hi2
      obtain ⟨t, ht, tt⟩ := hget i hi2
      rw [hi] at ht
      cases ht
      have hfl := hfit.at i
      have hsnoc := take_snoc hi2
      have hmem : rk.getD i [] ∈ rk := List.mem_of_getElem? (getD_of hi2)
      generalize rk.getD i [] = l at tt hfl hsnoc hmem
      have low := tubeV_low (l := l)
      have fem := filter_empty l
      rw [show l.reverse.map Int.ofNat = tubeI l from rfl] at fem
      generalize (tubeI l).headD 0 = x0 at low fem
      have tt' := tt.same sm
      have tq : H' t = some (.tup ((tubeI l).map V.int)) := tt'
      -- the drops of another colour than the lowest
      refine ⟨_, rfl, t, rfl, ⟨_, SqT.of tq⟩, fun D hD => ?_⟩
      refine lc_tup (xs := (tubeI l).map V.int) (fun j H2 => H2 = upd H' D (.lst ((((tubeI l).take j).filter fun z => z != x0).map V.int))) rfl (fun j H2 _ e => by rw [e]; exact SqT.of (same_upd hD _ _ tq)) ?_ ?_
      · rintro j y H2 hj rfl
        obtain ⟨z, rfl, hz, hz2⟩ := take_ints hj
        have hne : l ≠ [] := fun e => by
          rw [e] at hz
          simp [tubeI] at hz
        refine ⟨rfl, ?_⟩
        refine ⟨_, rfl, _, rfl, t, _, _, _, rfl, rfl, SqT.of (same_upd hD _ _ tq), atI_nat (j := 0) (low hne).1, rfl, _, rfl, ?_⟩
        rw [hz2, List.filter_append, List.map_append]
        by_cases e : z = x0
        · refine if_neg_of (by rw [decide_eq_true (congrArg V.int e)]; rfl) ?_
          rw [e]
          simp
        · refine if_pos_of (by rw [decide_eq_false fun w => e (V.int.inj w)]; rfl) ?_
          refine ⟨_, rfl, _, upd_same, ?_, ?_⟩
          · have h1 : ((((tubeI l).take j).filter fun z => z != x0).map V.int).length ≤ (tubeI l).length := by
              rw [List.length_map]
              exact Nat.le_trans (List.length_filter_le _ _) (List.length_take_le' _ _)
            have h2 : (tubeI l).length = l.length := by simp [tubeI]
            rw [sizeLine_eq]
            omega
          · rw [upd_upd]
            have e3 : (z != x0) = true := by simpa using e
            simp [e3]
      rintro H2 rfl
      rw [List.length_map, List.take_length]
      refine ⟨zero_le_line, fun e he => ?_⟩
      have sD := same_upd (o := .lst (((tubeI l).filter fun z => z != x0).map V.int)) hD
      have s2 : Same H' (upd (upd H' D (.lst (((tubeI l).filter fun z => z != x0).map V.int))) e (.lst [])) := sD.trans (same_upd he)
      refine rNe_lst (SqL.of (same_upd he _ _ upd_same)) (dp_ints _) (lay_ints _) (deep_ints' _) (SqL.of upd_same) ⟨_, rfl, ?_⟩
      have hemp : ((((tubeI l).filter fun z => z != x0).map V.int).isEmpty) = uniform l := by
        rw [← fem]
        cases (tubeI l).filter fun z => z != x0 <;> rfl
      rw [hemp]
      cases hul : uniform l with
      | false =>
        refine if_pos_of rfl ?_
        have z := q _ (sm.trans s2)
        rw [sorted_false hmem hul] at z
        exact z
      | true =>
        refine if_neg_of rfl ?_
        have hall : (rk.take (i + 1)).all uniform = true := by
          rw [hsnoc, List.all_append, hu, List.all_cons, hul]
          rfl
        refine ⟨_, rfl, zero_le_line, fun f hf => ?_⟩
        have s3 := s2.trans (same_upd (o := .tup []) hf)
        refine rNe_tup (SqT.of (s3 _ _ tq)) (dp_ints _) (lay_ints _) (deep_ints' _) (SqT.of upd_same) ⟨_, rfl, ?_⟩
        rw [show ((tubeI l).map V.int).isEmpty = l.isEmpty from tubeV_empty l]
        by_cases hl : l = []
        · refine if_neg_of (by rw [hl]; rfl) ?_
          refine ⟨_, rfl, sm.trans s3, ?_, hall⟩
          have e3 : bottoms (rk.take (i + 1)) = bottoms (rk.take i) := by
            rw [hsnoc, bottoms_snoc, hl]
            simp
          rw [e3]
          exact s3 _ _ hcl
        · refine if_pos_of (by cases l with
            | nil => exact absurd rfl hl
            | cons _ _ => rfl) ?_
          have low := low hl
          refine ⟨_, rfl, .inl ⟨rfl, _, SqL.of (s3 _ _ hcl)⟩, _, rfl, t, _, _, _, rfl, rfl, SqT.of (s3 _ _ tq), atI_nat (j := 0) low.1, c, _, _, rfl, rfl, s3 _ _ hcl, ?_, ?_⟩
          · have h1 : (bottoms (rk.take i)).length ≤ (rk.take i).length := List.length_filterMap_le _ _
            have h2 : (rk.take i).length ≤ rk.length := List.length_take_le' _ _
            rw [List.length_map, sizeLine_eq]
            omega
          · refine ⟨_, rfl, fun b o hb => ?_, ?_, hall⟩
            · rw [upd_ne (ne_of_none hb hc)]
              exact s3 _ _ (sm _ _ hb)
            · rw [upd_same, hsnoc, bottoms_snoc, low.2.1, List.map_append]
              simp only [Option.toList_some, List.map_cons, List.map_nil, low.2.2]
    · rintro σ H' ⟨v, rfl, sm, hcl, hu⟩
      rw [hlen, List.take_length] at hcl hu
      have ecl : ((bottoms rk).map fun n => V.int (n : Nat)) = ((bottoms rk).map Int.ofNat).map V.int := by
        rw [List.map_map]
        rfl
      have hle : (bottoms rk).length ≤ rk.length := List.length_filterMap_le _ _
      refine ⟨_, rfl, c, (bottoms rk).map Int.ofNat, rfl, SqL.of (by rw [← ecl]; exact hcl), by rw [List.length_map]; omega, ?_⟩
      refine ⟨_, rfl, c, _, rfl, Or.inl (SqL.of hcl), ?_⟩
      refine ⟨rfl, ?_⟩
      have z := q H' sm
      have e : decide (V.int ((distinct ((bottoms rk).map Int.ofNat) : Nat) : Int) = V.int ((((bottoms rk).map fun n => V.int (n : Nat)).length : Nat) : Int)) = Sy71.sorted rk := by
        rw [Bool.eq_iff_iff, decide_eq_true_iff, sorted_iff hu, List.length_map]
        have h2 := distinct_iff ((bottoms rk).map Int.ofNat)
        rw [List.length_map] at h2
        constructor
        · intro h
          have h3 := h2.mp (Int.ofNat_inj.mp (V.int.inj h))
          exact List.Pairwise.of_map _ (fun x y n e => n (by rw [e])) h3
        · intro h
          rw [h2.mpr (List.Pairwise.map _ (fun x y n e => n (Int.ofNat.inj e)) h)]
      rw [e]
      exact z
end
end Td

/-! pourings.py: all_pourings. -/
namespace Td
open PySem PySem.Spec PyProof.Rows L2

/-- a pouring on the heap: a tuple -/
def StepAt (H : Hp) (b : Addr) (x : Step) : Prop := ∃ e, H b = some (.tup [.int (x.1 : Nat), .int (x.2.1 : Nat), .ref e]) ∧ RackAt H e x.2.2
/-- a list of pourings -/
def StepsAt (H : Hp) (p : Addr) (l : List Step) : Prop := ∃ bs : List Addr, H p = some (.lst (bs.map V.ref)) ∧ Paired (StepAt H) bs l
theorem StepAt.keeps {H H' : Hp} {b : Addr} {x : Step} (h : StepAt H b x) (k : ∀ b xs, H b = some (.tup xs) → H' b = some (.tup xs)) : StepAt H' b x := by
  obtain ⟨e, h1, h2⟩ := h
  exact ⟨e, k _ _ h1, h2.keeps k⟩
theorem StepsAt.keeps {H H' : Hp} {p : Addr} {l : List Step} (h : StepsAt H p l) (k : ∀ b xs, H b = some (.tup xs) → H' b = some (.tup xs)) (kp : ∀ xs, H p = some (.lst xs) → H' p = some (.lst xs)) : StepsAt H' p l := by
  obtain ⟨bs, h1, h2⟩ := h
  exact ⟨bs, kp _ h1, paired_imp h2 fun _ _ z => z.keeps k⟩
theorem StepsAt.same {H H' : Hp} {p : Addr} {l : List Step} (h : StepsAt H p l) (k : Same H H') : StepsAt H' p l := h.keeps (fun _ _ e => k _ _ e) fun _ e => k _ _ e
theorem paired_snoc {α β : Type} {F : α → β → Prop} {t : α} {y : β} (h : F t y) : ∀ {ts : List α} {r : List β}, Paired F ts r → Paired F (ts ++ [t]) (r ++ [y])
  | _, _, .nil => .cons h .nil
  | _, _, .cons h1 t1 => .cons h1 (paired_snoc h t1)
section
variable {P : Program} {w : World} {K : PySem.W.Frag} {mg : Str → Option Value} {base : Heap} {a : Adr}
def spAllPourings : Sp := fun vs H Q _ => ∃ (p : Addr) (rk : Sy71.Rack) (n : Nat), vs = [.ref p, .int (n : Nat)] ∧ RackAt H p rk ∧ Fits n rk ∧ n ≤ 4 ∧ rk.length ≤ 5 ∧ ∀ e H', Same H H' → H e = none → StepsAt H' e (pourings n rk) → Q (.ref e) H'
abbrev scAllPourings_N : List Str := ["rack", "room", "found", "one", "other", "count"]
theorem scAllPourings : FnScope ["rack", "room", "found", "one", "other", "count"] ["rack", "room"] (defScope sAllPourings) := ⟨rfl, rfl, rfl, by decide +kernel, rfl, by decide +kernel, by decide +kernel⟩
theorem ok_AllPourings (T : Txt K mg a) : FnOk P w K mg base CX0 3 a.fAllPourings a.dAllPourings ["rack", "room"] spAllPourings := by
  refine T.oAllPourings.F.ok scAllPourings (fun vs H Q E h => ?_) (fun cdv A outer s H vs Q E hr h => ?_)
  · obtain ⟨_, _, _, rfl, _⟩ := h
    rfl
  · obtain ⟨p, rk, n, rfl, hp, hfit, hn4, hlen5, q⟩ := h
    refine ⟨_, (pss_cons (ps_set (i := 2) scAllPourings.nd rfl (Or.inl rfl) (pe_lst pa_nil))
      (pss_cons (ps_for PassesOwn.never rfl (pi_range1 rfl T.bRange (pa_cons (pe_callB call_len_seq (by rfl) T.bLen PySem.boot_len (pa_cons (pv 0) pa_nil)) pa_nil)) (pg_name (i := 3) scAllPourings.nd rfl (Or.inl rfl)) (pss_one (ps_for PassesOwn.never rfl (pi_range1 rfl T.bRange (pa_cons (pe_callB call_len_seq (by rfl) T.bLen PySem.boot_len (pa_cons (pv 0) pa_nil)) pa_nil)) (pg_name (i := 4) scAllPourings.nd rfl (Or.inl rfl)) (pss_cons (ps_set (i := 5) scAllPourings.nd rfl (Or.inl rfl) (pe_call (ok_Going T) (hr.mono (by decide)) rfl T.oGoing.g T.oGoing.F.kp T.oGoing.b .nil pass0 (pa_cons (pv 0) (pa_cons (pv 1) (pa_cons (pv 3) (pa_cons (pv 4) pa_nil))))))
      (pss_one (ps_if (pt_cmpR op_gt (pv 5) pe_int (nomark _)) (pss_one (ps_expr (pe_bm PySem.F.plainAttrs_list PySem.F.slot_list_append PySem.F.type_list_append mt_append (pv 2) (pa_cons (pe_tup (pa_cons (pv 3) (pa_cons (pv 4) (pa_cons (pe_call (ok_Poured T) (hr.mono (by decide)) rfl T.oPoured.g T.oPoured.F.kp T.oPoured.b .nil pass0 (pa_cons (pv 0) (pa_cons (pv 3) (pa_cons (pv 4) (pa_cons (pv 5) pa_nil))))) pa_nil)))) pa_nil)))) pss_nil))))))
      (pss_one (ps_ret (pv 2))))), ?_⟩
    have hfit4 : Fits 4 rk := fun l hl => Nat.le_trans (hfit l hl) hn4
    obtain ⟨xs, hxs, hlen, hget⟩ := hp.get
    refine ⟨zero_le_line, fun c hc => ?_⟩
    -- behind some turns: the list at c has the steps so far
    have st0 : ∀ b xs, H b = some (.tup xs) → upd H c (.lst []) b = some (.tup xs) := fun b ys h => same_upd hc _ _ h
    refine ⟨_, rfl, p, _, rfl, Or.inr (SqT.of (st0 _ _ hxs)), _, rfl, by omega, by omega, ?_⟩
    refine for_range (n := xs.length) (fun i σ H' => ∃ v1 v2 v3 : Option V, σ = [some (.ref p), some (.int (n : Nat)), some (.ref c), v1, v2, v3] ∧ Same H H' ∧ StepsAt H' c (soFar n rk i 0))
      ⟨none, none, none, rfl, same_upd hc, [], upd_same, .nil⟩ ?_ ?_
    · rintro i σ H' hi ⟨v1, v2, v3, rfl, sm, hst⟩
      rw [hlen] at hi
      refine ⟨_, rfl, p, _, rfl, Or.inr (SqT.of (sm _ _ hxs)), _, rfl, by omega, by omega, ?_⟩
      refine for_range (n := xs.length) (fun j σ H' => ∃ v2 v3 : Option V, σ = [some (.ref p), some (.int (n : Nat)), some (.ref c), some (.int (i : Nat)), v2, v3] ∧ Same H H' ∧ StepsAt H' c (soFar n rk i j))
        ⟨v2, v3, by rw [Int.zero_add]; rfl, sm, hst⟩ ?_ ?_
      · rintro j σ H2 hj ⟨v2, v3, rfl, sm2, hst2⟩
        rw [hlen] at hj
        rw [Int.zero_add]
        refine ⟨_, rfl, _, rfl, _, rfl, _, rfl, p, rk, n, i, j, rfl, hp.same sm2, hfit, hn4, hi, hj, fun H3 s3 => ?_⟩
        refine ⟨_, rfl, _, _, rfl, rfl, _, rfl, ?_⟩
        have hg := gone_le n rk i j
        by_cases g0 : 0 < gone n rk i j
        · refine if_pos_of (decide_eq_true (by omega)) ?_
          have hij : i ≠ j := fun e => by
            unfold gone at g0
            rw [if_pos e] at g0
            exact Nat.lt_irrefl _ g0
          have sm3 := sm2.trans s3
          obtain ⟨bs, hbs, pbs⟩ := hst2.same s3
          refine ⟨_, rfl, .inl ⟨rfl, _, SqL.of hbs⟩, _, rfl, _, rfl, _, rfl, _, rfl, _, rfl, _, rfl, p, rk, i, j, gone n rk i j, rfl, hp.same sm3, hfit4, hlen5, hi, hj, hij, hg.1, fun e H4 s4 he => ?_⟩
          refine ⟨by show 3 ≤ sizeLine; decide, fun b hb => ?_⟩
          have nbc : c ≠ b := ne_of_none (s4 _ _ hbs) hb
          have hl := soFar_length n rk i j
          have hbl : bs.length = (soFar n rk i j).length := paired_len pbs
          refine ⟨c, _, _, rfl, rfl, (same_upd hb _ _ (s4 _ _ hbs)), ?_, ?_⟩
          · have h1 : i * List.length rk ≤ 5 * 5 := Nat.mul_le_mul (by omega) hlen5
            rw [List.length_map, hbl, sizeLine_eq]
            omega
          · have hcb : H c = none := hc
            have ktup : ∀ x ys, H3 x = some (.tup ys) → upd (upd H4 b (.tup [.int (i : Nat), .int (j : Nat), .ref e])) c (.lst (bs.map V.ref ++ [.ref b])) x = some (.tup ys) := fun x ys h => by
              rw [upd_ne (ne_of h hbs (fun z => nomatch z))]
              exact same_upd hb _ _ (s4 _ _ h)
            refine ⟨_, _, rfl, fun x o h => ?_, bs ++ [b], ?_, ?_⟩
            · rw [upd_ne (ne_of_none h hc)]
              exact same_upd hb _ _ (s4 _ _ (sm3 _ _ h))
            · rw [upd_same, List.map_append]
              rfl
            · have e1 : stepOf n rk (i, j) = some (i, j, pouredR rk i j (gone n rk i j)) := by
                show (Sy71.poured n rk i j).map _ = _
                rw [poured_some hi hj g0]
                rfl
              rw [soFar_turn, e1]
              refine paired_snoc ?_ (paired_imp pbs fun _ _ z => z.keeps ktup)
              refine ⟨e, ?_, ?_⟩
              · rw [upd_ne (Ne.symm nbc), upd_same]
              · refine he.keeps fun x ys h => ?_
                rw [upd_ne (ne_of h (s4 _ _ hbs) (fun z => nomatch z))]
                exact same_upd hb _ _ h
        · refine if_neg_of (decide_eq_false (by omega)) ?_
          have e1 : stepOf n rk (i, j) = none := by
            show (Sy71.poured n rk i j).map _ = none
            rw [poured_none (show gone n rk i j = 0 by omega)]
            rfl
          refine ⟨_, _, rfl, sm2.trans s3, ?_⟩
          rw [soFar_turn, e1]
          show StepsAt H3 c (soFar n rk i j ++ [])
          rw [List.append_nil]
          exact hst2.same s3
      · rintro σ H2 ⟨v2, v3, rfl, sm2, hst2⟩
        rw [hlen, soFar_row] at hst2
        exact ⟨_, v2, v3, rfl, sm2, hst2⟩
    · rintro σ H' ⟨v1, v2, v3, rfl, sm, hst⟩
      rw [hlen, soFar_end] at hst
      exact ⟨_, rfl, q c H' sm hc hst⟩
end
end Td

/-! coming.py: what lies on the heap; the counts, leads_to, first_step, plan. -/
namespace Td
open PySem PySem.Spec PyProof.Rows L2

theorem hu2_of {A : Around} {k : Nat} (hr : Room k A) : A.units + 2 < cLine := Nat.lt_of_le_of_lt (Nat.add_le_add_left (by decide : 2 ≤ 64) _) hr.units
theorem pe_const {X : Cx} {x : Str} {z : Int} {pos : Pos} (h : ∃ t, X.mg x = some (.int z t)) (hg : Gl X x := by rfl) (hd : (x == ("__debug__" : Str)) = false := by decide) : PE X (.Name x pos) (tC (.int z)) := by
  obtain ⟨t, h⟩ := h
  exact pe_glob hg h ⟨t, rfl⟩ hd

/-! ### a comprehension that chooses from a list -/
theorem lc_sel {K : PySem.W.Frag} {p : Addr} {xs : List V} {g : TG} {tt : TT} {te : TE} {vs : List Nat} {σ : L2.St} {H1 : Hp} {D : Addr} {Qd : Hp → Prop} (hD : H1 D = none) (hq : H1 p = some (.lst xs)) (sel : Nat → Bool) (f : Nat → V) (acc : Nat → List V)
    (a0 : acc 0 = []) (a1 : ∀ i, i < xs.length → acc (i + 1) = acc i ++ if sel i = true then [f i] else []) (al : ∀ i, i < xs.length → (acc i).length < sizeLine)
    (hs : ∀ i x H, xs[i]? = some x → Same H1 H → ∀ (E : V → Hp → Prop) (G : Hp → Prop), (sel i = true → ∀ H4, Same H H4 → E (f i) H4) → (sel i = false → ∀ H3, Same H H3 → G H3) →
      g x (wipe σ vs) H fun σ2 H2 => wipe σ2 vs = wipe σ vs ∧ tt σ2 H2 fun b H3 => if b = true then te σ2 H3 E else G H3)
    (hd : ∀ H, Same H1 H → H D = some (.lst (acc xs.length)) → Qd H) :
    ∃ W : Nat → Nat → Hp → Prop, (∃ m, W 0 m (upd H1 D (.lst []))) ∧ ∀ i m H, W i m H →
      ((Itl K p).stop i H ∧ Qd H) ∨ ((Itl K p).go i H ∧ ∃ Nx : Hp → Prop, (∀ H', Nx H' → ∃ m', m' < m ∧ W (i + 1) m' H') ∧ ∀ x H', (Itl K p).yld i H x H' → g x (wipe σ vs) H' fun σ2 H2 => wipe σ2 vs = wipe σ vs ∧ tt σ2 H2 fun b H3 =>
        if b = true then te σ2 H3 fun y H4 => ∃ acc, H4 D = some (.lst acc) ∧ acc.length < sizeLine ∧ Nx (upd H4 D (.lst (acc ++ [y]))) else Nx H3) := by
  refine lc_list (K := K) (xs := xs) (fun i H => Same H1 H ∧ H D = some (.lst (acc i))) ⟨same_upd hD, by rw [a0]; exact upd_same⟩ (fun i H _ h => SqL.of (h.1 _ _ hq)) ?_ fun H h => hd H h.1 h.2
  intro i x H hi ⟨sm, hacc⟩
  have hlt : i < xs.length := (List.getElem?_eq_some_iff.mp hi).1
  refine hs i x H hi sm _ _ (fun hsel H4 s4 => ?_) fun hsel H3 s3 => ?_
  · refine ⟨acc i, s4 _ _ hacc, al i hlt, fun b o h => ?_, ?_⟩
    · rw [upd_ne (ne_of_none h hD)]
      exact s4 _ _ (sm _ _ h)
    · rw [upd_same, a1 i hlt, if_pos hsel]
  · refine ⟨sm.trans s3, ?_⟩
    rw [a1 i hlt, hsel]
    simp only [Bool.false_eq_true, if_false, List.append_nil]
    exact s3 _ _ hacc

/-! ### what Coming holds -/
structure CAd where
  (dx dp lr ds : Addr)
  as : List Addr
structure CAt (a : Adr) (H : Hp) (c : Addr) (u : CAd) (n : Nat) (L : List Sy71.Rack) (D : Sy71.Rack → Option Nat) : Prop where
  ins : H c = some (.ins a.cComing u.dx [("pourings", .ref u.dp), ("racks", .ref u.lr), ("steps", .ref u.ds)])
  lst : H u.lr = some (.lst (u.as.map V.ref))
  rks : Paired (RackAt H) u.as L
  prs : ∃ pv, RDict H u.dp pv ∧ ∀ r ∈ L, ∃ q, valV pv r = some (.ref q) ∧ StepsAt H q (pourings n r)
  sts : ∃ sv, RDict H u.ds sv ∧ ∀ r, valV sv r = (D r).map fun (k : Nat) => V.int (k : Nat)
  sub : ∀ r, (D r).isSome = true → r ∈ L
  ne : u.dp ≠ u.ds
theorem CAt.same {a : Adr} {H H' : Hp} {c : Addr} {u : CAd} {n : Nat} {L : List Sy71.Rack} {D : Sy71.Rack → Option Nat} (h : CAt a H c u n L D) (k : Same H H') : CAt a H' c u n L D := by
  obtain ⟨h1, h2, h3, ⟨pv, h4, h5⟩, ⟨sv, h6, h7⟩, h8, h9⟩ := h
  refine ⟨k _ _ h1, k _ _ h2, paired_imp h3 fun _ _ z => z.same k, ⟨pv, h4.same k, fun r hr => ?_⟩, ⟨sv, h6.same k, h7⟩, h8, h9⟩
  obtain ⟨q, e, z⟩ := h5 r hr
  exact ⟨q, e, z.same k⟩
theorem RDict.at {H : Hp} {p : Addr} {kvs : List (Sy71.Rack × V)} (h : RDict H p kvs) : ∃ xs, H p = some (dictO p xs) := let ⟨xs, e, _⟩ := h; ⟨xs, e⟩
theorem CAt.put {a : Adr} {H H4 : Hp} {c : Addr} {u : CAd} {n : Nat} {L : List Sy71.Rack} {D : Sy71.Rack → Option Nat} {sv : List (Sy71.Rack × V)} {r : Sy71.Rack} {k : Nat} (h : CAt a H c u n L D) (hsv : RDict H u.ds sv) (hD : ∀ r, valV sv r = (D r).map fun (k : Nat) => V.int (k : Nat))
    (hp : RPut H u.ds sv r (.int (k : Nat)) H4) (hr : r ∈ L) : CAt a H4 c u n L fun x => if x = r then some k else D x := by
  obtain ⟨h1, h2, h3, ⟨pv, h4, h5⟩, _, h8, h9⟩ := h
  obtain ⟨p1, p2⟩ := hp
  obtain ⟨xs, hx⟩ := hsv.at
  have ntup : ∀ b ys, H b = some (.tup ys) → H4 b = some (.tup ys) := fun b ys e => by
    rw [p2 b (ne_of e hx dictO_tup)]
    exact e
  have nlst : ∀ b ys, H b = some (.lst ys) → H4 b = some (.lst ys) := fun b ys e => by
    rw [p2 b (ne_of e hx fun z => by unfold dictO at z; cases z)]
    exact e
  refine ⟨?_, nlst _ _ h2, paired_imp h3 fun _ _ z => z.keeps ntup, ⟨pv, h4.keeps ntup fun o e => by rw [p2 _ h9]; exact e, fun q hq => ?_⟩, ⟨_, p1, fun q => ?_⟩, fun q hq => ?_, h9⟩
  · rw [p2 c (ne_of h1 hx fun z => by unfold dictO at z; cases z)]
    exact h1
  · obtain ⟨t, e, z⟩ := h5 q hq
    exact ⟨t, e, z.keeps ntup fun ys => nlst _ ys⟩
  · rw [valV_put]
    by_cases c : q = r
    · rw [if_pos c, if_pos c]; rfl
    · rw [if_neg c, if_neg c]; exact hD q
  · by_cases c : q = r
    · rw [c]; exact hr
    · rw [if_neg c] at hq; exact h8 q hq
theorem lk_pourings {x y z : V} : List.lookup ("pourings" : Str) [("pourings", x), ("racks", y), ("steps", z)] = some x := by simp [List.lookup]
theorem lk_racks {x y z : V} : List.lookup ("racks" : Str) [("pourings", x), ("racks", y), ("steps", z)] = some y := rfl
theorem lk_steps {x y z : V} : List.lookup ("steps" : Str) [("pourings", x), ("racks", y), ("steps", z)] = some z := rfl

/-! ### choosing racks -/
def chosen {β : Type} (as : List Addr) (L : List β) (p : β → Bool) (i : Nat) : List Addr := (((as.zip L).take i).filter fun x => p x.2).map fun x => x.1
theorem chosen_step {β : Type} {F : Addr → β → Prop} {as : List Addr} {L : List β} (h : Paired F as L) (p : β → Bool) {i : Nat} {b : Addr} {r : β} (hb : as[i]? = some b) (hr : L[i]? = some r) :
    chosen as L p (i + 1) = chosen as L p i ++ if p r = true then [b] else [] := by
  unfold chosen
  have e : (as.zip L)[i]? = some (b, r) := by
    rw [List.getElem?_zip_eq_some]
    exact ⟨hb, hr⟩
  rw [List.take_add_one, e, List.filter_append, List.map_append]
  congr 1
  by_cases c : p r = true
  · rw [if_pos c]; simp [c]
  · rw [if_neg c]; simp [c]
theorem chosen_length {β : Type} (as : List Addr) (L : List β) (p : β → Bool) (i : Nat) : (chosen as L p i).length ≤ L.length := by
  unfold chosen
  rw [List.length_map]
  refine Nat.le_trans (List.length_filter_le _ _) (Nat.le_trans (List.length_take_le' _ _) ?_)
  rw [List.length_zip]
  omega
theorem chosen_pairs {β : Type} {F : Addr → β → Prop} (p : β → Bool) : ∀ {as : List Addr} {L : List β}, Paired F as L → Paired F (chosen as L p L.length) (L.filter p)
  | _, _, .nil => .nil
  | b :: as, r :: L, .cons h t => by
    have ih := chosen_pairs p t
    unfold chosen at ih ⊢
    rw [List.length_cons, List.zip_cons_cons, List.take_succ_cons]
    by_cases c : p r = true
    · rw [List.filter_cons_of_pos (by exact c), List.filter_cons_of_pos c]
      exact .cons h ih
    · rw [List.filter_cons_of_neg (by exact c), List.filter_cons_of_neg c]
      exact ih
theorem paired_ix {α β : Type} {F : α → β → Prop} {as : List α} {L : List β} (h : Paired F as L) {i : Nat} {b : α} (hb : as[i]? = some b) : ∃ r, L[i]? = some r ∧ F b r := by
  induction h generalizing i with
  | nil => simp at hb
  | cons h1 t ih =>
    cases i with
    | zero =>
      rw [List.getElem?_cons_zero] at hb
      cases hb
      exact ⟨_, rfl, h1⟩
    | succ i =>
      rw [List.getElem?_cons_succ] at hb
      obtain ⟨r, e, f⟩ := ih hb
      exact ⟨r, by rw [List.getElem?_cons_succ]; exact e, f⟩
theorem refs_get {as : List Addr} {i : Nat} {x : V} (h : (as.map V.ref)[i]? = some x) : ∃ b, as[i]? = some b ∧ x = .ref b := by
  rw [List.getElem?_map] at h
  cases e : as[i]? with
  | none => rw [e] at h; cases h
  | some b =>
    rw [e] at h
    exact ⟨b, rfl, (Option.some.inj h).symm⟩
/-- small racks -/
def Small (L : List Sy71.Rack) : Prop := ∀ r ∈ L, Fits 4 r ∧ r.length ≤ 5

theorem lc_pairs {β : Type} {F : Addr → β → Prop} {K : PySem.W.Frag} {p : Addr} {as : List Addr} {L : List β} {g : TG} {tt : TT} {te : TE} {vs : List Nat} {σ : L2.St} {H1 : Hp} {D : Addr} {Qd : Hp → Prop} (o : Addr → V) (f : β → Bool) (hD : H1 D = none) (hq : H1 p = some (.lst (as.map V.ref))) (pr : Paired F as L) (hlen : L.length ≤ 400)
    (hs : ∀ b r H, r ∈ L → F b r → Same H1 H → ∀ (E : V → Hp → Prop) (G : Hp → Prop), (f r = true → ∀ H4, Same H H4 → E (o b) H4) → (f r = false → ∀ H3, Same H H3 → G H3) →
      g (.ref b) (wipe σ vs) H fun σ2 H2 => wipe σ2 vs = wipe σ vs ∧ tt σ2 H2 fun b H3 => if b = true then te σ2 H3 E else G H3)
    (hd : ∀ H as', Same H1 H → H D = some (.lst (as'.map o)) → Paired F as' (L.filter f) → Qd H) :
    ∃ W : Nat → Nat → Hp → Prop, (∃ m, W 0 m (upd H1 D (.lst []))) ∧ ∀ i m H, W i m H →
      ((Itl K p).stop i H ∧ Qd H) ∨ ((Itl K p).go i H ∧ ∃ Nx : Hp → Prop, (∀ H', Nx H' → ∃ m', m' < m ∧ W (i + 1) m' H') ∧ ∀ x H', (Itl K p).yld i H x H' → g x (wipe σ vs) H' fun σ2 H2 => wipe σ2 vs = wipe σ vs ∧ tt σ2 H2 fun b H3 =>
        if b = true then te σ2 H3 fun y H4 => ∃ acc, H4 D = some (.lst acc) ∧ acc.length < sizeLine ∧ Nx (upd H4 D (.lst (acc ++ [y]))) else Nx H3) := by
  have hl := paired_len pr
  have at_ : ∀ i, i < as.length → ∃ b r, as[i]? = some b ∧ L[i]? = some r ∧ F b r := fun i hi => by
    obtain ⟨r, hr, hf⟩ := paired_ix pr (List.getElem?_eq_getElem hi)
    exact ⟨_, r, List.getElem?_eq_getElem hi, hr, hf⟩
  refine lc_sel hD hq (fun i => (L[i]?.map f).getD false) (fun i => o (as.getD i 0)) (fun i => (chosen as L f i).map o) rfl ?_ ?_ ?_ ?_
  · intro i hi
    rw [List.length_map] at hi
    obtain ⟨b, r, hb, hr, hf⟩ := at_ i hi
    have e2 : as.getD i 0 = b := by rw [List.getD_eq_getElem?_getD, hb]; rfl
    rw [chosen_step pr f hb hr, List.map_append, hr, e2]
    congr 1
    show List.map o (if f r = true then [b] else []) = if f r = true then [o b] else []
    split <;> rfl
  · intro i hi
    have := chosen_length as L f i
    rw [List.length_map, sizeLine_eq]
    omega
  · intro i x H hi sm E G hE hG
    obtain ⟨b, hb, rfl⟩ := refs_get hi
    obtain ⟨r, hr, hf⟩ := paired_ix pr hb
    have e2 : as.getD i 0 = b := by rw [List.getD_eq_getElem?_getD, hb]; rfl
    rw [hr, e2] at hE
    rw [hr] at hG
    exact hs b r H (List.mem_of_getElem? hr) hf sm E G hE hG
  · intro H sm hacc
    rw [List.length_map, hl] at hacc
    exact hd H _ sm hacc (chosen_pairs f pr)

section
variable {P : Program} {w : World} {K : PySem.W.Frag} {mg : Str → Option Value} {base : Heap} {a : Adr}
/-! ### count_sorted, count_lost -/
def spComingCountSorted (a : Adr) : Sp := fun vs H Q _ => ∃ c u n L D, vs = [.ref c] ∧ CAt a H c u n L D ∧ Small L ∧ L.length ≤ 400 ∧ ∀ H', Same H H' → Q (.int ((L.filter Sy71.sorted).length : Nat)) H'
abbrev scComingCountSorted_N : List Str := ["self", "rack"]
theorem scComingCountSorted : FnScope ["self", "rack"] ["self"] (defScope sComingCountSorted) := ⟨rfl, rfl, rfl, by decide +kernel, rfl, by decide +kernel, by decide +kernel⟩
theorem ok_ComingCountSorted (T : Txt K mg a) : FnOk P w K mg base CX0 2 a.fComingCountSorted a.dComingCountSorted ["self"] (spComingCountSorted a) := by
  refine T.oComingCountSorted.F.ok scComingCountSorted (fun vs H Q E h => ?_) (fun cdv A outer s H vs Q E hr h => ?_)
  · obtain ⟨_, _, _, _, _, rfl, _⟩ := h
    rfl
  · obtain ⟨c, u, n, L, D, rfl, hc, hsm, hlen, q⟩ := h
    refine ⟨_, (pss_one (ps_ret (pe_callB call_len_seq (by rfl) T.bLen PySem.boot_len (pa_cons (pe_lc (own := [("rack", 1)]) rfl scComingCountSorted.nd (pi_list (pe_fld (pv 0) rfl)) (blkOk_by (N := scComingCountSorted_N) (sc := defScope sComingCountSorted) (by decide +kernel)) (fun _ _ _ _ _ => (pg_name (i := 1) scComingCountSorted.nd rfl (Or.inl rfl))) (fun _ _ _ _ _ => (pts_one (pt_val (pe_call (ok_IsSorted T) (hr.mono (by decide)) rfl T.oIsSorted.g T.oIsSorted.F.kp T.oIsSorted.b .nil pass0 (pa_cons (pv 1) pa_nil))))) (fun _ _ _ _ _ => (pv 1))) pa_nil)))), ?_⟩
    refine ⟨_, rfl, c, _, _, _, _, rfl, hc.ins, T.clComing, T.nComingRacks, lk_racks, u.lr, rfl, ⟨_, SqL.of hc.lst⟩, fun d hd => ?_⟩
    refine lc_pairs V.ref Sy71.sorted hd hc.lst hc.rks hlen ?_ ?_
    · intro b r H1 hr hb sm E G hE hG
      refine ⟨rfl, _, rfl, b, r, rfl, hb.same sm, (hsm r hr).1, (hsm r hr).2, fun H2 s2 => ⟨_, rfl, ?_⟩⟩
      cases e : Sy71.sorted r with
      | true => exact if_pos_of rfl ⟨_, rfl, hE e H2 s2⟩
      | false => exact if_neg_of rfl (hG e H2 s2)
    · intro H1 as' sm hl pr
      refine ⟨d, _, rfl, Or.inl (SqL.of hl), ?_⟩
      have z := q H1 sm
      rw [List.length_map, paired_len pr]
      exact z
def spComingCountLost (a : Adr) : Sp := fun vs H Q _ => ∃ c u n L D, vs = [.ref c] ∧ CAt a H c u n L D ∧ L.length ≤ 400 ∧ ∀ H', Same H H' → Q (.int ((L.filter fun r => !(D r).isSome).length : Nat)) H'
abbrev scComingCountLost_N : List Str := ["self", "rack"]
theorem scComingCountLost : FnScope ["self", "rack"] ["self"] (defScope sComingCountLost) := ⟨rfl, rfl, rfl, by decide +kernel, rfl, by decide +kernel, by decide +kernel⟩
theorem ok_ComingCountLost (T : Txt K mg a) : FnOk P w K mg base CX0 1 a.fComingCountLost a.dComingCountLost ["self"] (spComingCountLost a) := by
  refine T.oComingCountLost.F.ok scComingCountLost (fun vs H Q E h => ?_) (fun cdv A outer s H vs Q E hr h => ?_)
  · obtain ⟨_, _, _, _, _, rfl, _⟩ := h
    rfl
  · obtain ⟨c, u, n, L, D, rfl, hc, hlen, q⟩ := h
    refine ⟨_, (pss_one (ps_ret (pe_callB call_len_seq (by rfl) T.bLen PySem.boot_len (pa_cons (pe_lc (own := [("rack", 1)]) rfl scComingCountLost.nd (pi_list (pe_fld (pv 0) rfl)) (blkOk_by (N := scComingCountLost_N) (sc := defScope sComingCountLost) (by decide +kernel)) (fun _ _ _ _ _ => (pg_name (i := 1) scComingCountLost.nd rfl (Or.inl rfl))) (fun _ _ _ _ _ => (pts_one (pt_cmp (pc_rnotin (hu2_of hr) (pv 1) (pe_fldK K rfl (pv 0) rfl)) (by rfl)))) (fun _ _ _ _ _ => (pv 1))) pa_nil)))), ?_⟩
    refine ⟨_, rfl, c, _, _, _, _, rfl, hc.ins, T.clComing, T.nComingRacks, lk_racks, u.lr, rfl, ⟨_, SqL.of hc.lst⟩, fun d hd => ?_⟩
    refine lc_pairs V.ref (fun r => !(D r).isSome) hd hc.lst hc.rks hlen ?_ ?_
    · intro b r H1 hr hb sm E G hE hG
      have hc1 := hc.same sm
      obtain ⟨sv, hsv, hD⟩ := hc1.sts
      refine ⟨rfl, _, rfl, _, rfl, c, _, _, _, _, rfl, hc1.ins, T.clComing, T.nComingSteps, lk_steps, u.ds, sv, b, r, rfl, hsv, rfl, hb.same sm, _, rfl, ?_⟩
      rw [hD r, Option.isSome_map]
      cases e : (D r).isSome with
      | true => exact if_neg_of rfl (hG (by rw [e]; rfl) H1 (Same.refl _))
      | false => exact if_pos_of rfl ⟨_, rfl, hE (by rw [e]; rfl) H1 (Same.refl _)⟩
    · intro H1 as' sm hl pr
      refine ⟨d, _, rfl, Or.inl (SqL.of hl), ?_⟩
      have z := q H1 sm
      rw [List.length_map, paired_len pr]
      exact z

/-! ### leads_to -/
def leads (n : Nat) (D : Sy71.Rack → Option Nat) (k : Nat) (r : Sy71.Rack) : Bool := (pourings n r).any fun x => D x.2.2 == some k
theorem steps_is (o : Option Nat) (k : Nat) : decide ((o.map fun (k : Nat) => V.int (k : Nat)).getD (.int (-1)) = V.int (k : Nat)) = (o == some k) := by
  cases o with
  | none =>
    rw [decide_eq_false]
    · rfl
    · intro z
      have := V.int.inj z
      omega
  | some j =>
    rw [Bool.eq_iff_iff, decide_eq_true_iff, beq_iff_eq]
    constructor
    · intro z
      have z' : V.int (j : Nat) = V.int (k : Nat) := z
      have := V.int.inj z'
      rw [Int.ofNat_inj.mp this]
    · intro z
      rw [Option.some.inj z]
      rfl
def spComingLeadsTo (a : Adr) : Sp := fun vs H Q _ => ∃ c u n L D r b k, vs = [.ref c, .ref b, .int (k : Nat)] ∧ CAt a H c u n L D ∧ r ∈ L ∧ RackAt H b r ∧ r.length ≤ 5 ∧ ∀ H', Same H H' → Q (.bl (leads n D k r)) H'
theorem few_pourings {n : Nat} {r : Sy71.Rack} (h : r.length ≤ 5) : (pourings n r).length ≤ 25 := Nat.le_trans (pourings_length n r) (Nat.mul_le_mul h h)
abbrev scComingLeadsTo_N : List Str := ["self", "rack", "count", "one", "other", "behind"]
theorem scComingLeadsTo : FnScope ["self", "rack", "count", "one", "other", "behind"] ["self", "rack", "count"] (defScope sComingLeadsTo) := ⟨rfl, rfl, rfl, by decide +kernel, rfl, by decide +kernel, by decide +kernel⟩
theorem ok_ComingLeadsTo (T : Txt K mg a) : FnOk P w K mg base CX0 1 a.fComingLeadsTo a.dComingLeadsTo ["self", "rack", "count"] (spComingLeadsTo a) := by
  refine T.oComingLeadsTo.F.ok scComingLeadsTo (fun vs H Q E h => ?_) (fun cdv A outer s H vs Q E hr h => ?_)
  · obtain ⟨_, _, _, _, _, _, _, _, rfl, _⟩ := h
    rfl
  · obtain ⟨c, u, n, L, D, r, b, k, rfl, hc, hr1, hb, hr5, q⟩ := h
    refine ⟨_, (pss_one (ps_ret (pe_cmpR (op_neD hr.units) (pe_lc (own := [("one", 3), ("other", 4), ("behind", 5)]) rfl scComingLeadsTo.nd (pi_list (pe_rget (hu2_of hr) (pe_fld (pv 0) rfl) (pv 1) (fun _ _ => rfl))) (blkOk_by (N := scComingLeadsTo_N) (sc := defScope sComingLeadsTo) (by decide +kernel)) (fun _ _ _ _ _ => (pg_tupK K rfl (n := 3) rfl (pgs_cons (pg_name (i := 3) scComingLeadsTo.nd rfl (Or.inl rfl)) (pgs_cons (pg_name (i := 4) scComingLeadsTo.nd rfl (Or.inl rfl)) (pgs_cons (pg_name (i := 5) scComingLeadsTo.nd rfl (Or.inl rfl)) pgs_nil))))) (fun _ _ _ _ _ => (pts_one (pt_cmpR op_eq (pe_rget2 (hu2_of hr) (pe_fldK K rfl (pv 0) rfl) (pv 5) (pe_un un_neg pe_int) ⟨rfl, rfl, rfl, rfl⟩) (pv 2) (nomark _)))) (fun _ _ _ _ _ => pe_int)) (pe_lst pa_nil) (nomark _)))), ?_⟩
    obtain ⟨pv, hpv, hp⟩ := hc.prs
    obtain ⟨st, est, bs, hbs, pbs⟩ := hp r hr1
    have hlen : (pourings n r).length ≤ 400 := Nat.le_trans (few_pourings hr5) (by decide)
    refine ⟨_, rfl, c, _, _, _, _, rfl, hc.ins, T.clComing, T.nComingPourings, lk_pourings, _, rfl, u.dp, pv, b, r, _, rfl, hpv, rfl, hb, est, st, rfl, ⟨_, SqL.of hbs⟩, fun d hd => ?_⟩
    refine lc_pairs (fun _ => .int 1) (fun x : Step => D x.2.2 == some k) hd hbs pbs hlen ?_ ?_
    · intro b1 x H1 hx hbx sm E G hE hG
      obtain ⟨e, he1, he2⟩ := hbx
      have hc1 := hc.same sm
      obtain ⟨sv, hsv, hD⟩ := hc1.sts
      refine ⟨b1, _, rfl, SqT.of (sm _ _ he1), rfl, _, _, rfl, _, _, rfl, _, _, rfl, rfl, ?_⟩
      refine ⟨rfl, _, rfl, c, _, _, _, _, rfl, hc1.ins, T.clComing, T.nComingSteps, lk_steps, u.ds, sv, rfl, hsv, _, rfl, _, rfl, sv, e, x.2.2, hsv, rfl, he2.same sm, _, rfl, by rw [hD]; cases D x.2.2 <;> rfl, _, rfl, ?_⟩
      rw [hD]
      have z := steps_is (D x.2.2) k
      cases e2 : D x.2.2 == some k with
      | true =>
        refine if_pos_of (z.trans e2) ?_
        exact hE e2 H1 (Same.refl _)
      | false =>
        refine if_neg_of (z.trans e2) ?_
        exact hG e2 H1 (Same.refl _)
    · intro H1 as' sm hl pr
      refine ⟨zero_le_line, fun e he => ?_⟩
      have ed : as'.map (fun _ => V.int 1) = (as'.map fun _ => (1 : Int)).map V.int := by rw [List.map_map]; rfl
      refine rNe_lst (SqL.of (same_upd he _ _ hl)) (by rw [ed]; exact dp_ints _) (lay_ints _) (deep_ints' _) (SqL.of upd_same) ?_
      have z := q _ (sm.trans (same_upd (o := .lst []) he))
      have e2 : leads n D k r = !(as'.map (fun _ => V.int 1)).isEmpty := by
        unfold leads
        rw [Bool.eq_iff_iff, List.any_eq_true, Bool.not_eq_true', ← Bool.not_eq_true, List.isEmpty_iff, List.map_eq_nil_iff]
        have hl2 := paired_len pr
        constructor
        · rintro ⟨x, hx, h⟩ e3
          rw [e3] at hl2
          have : x ∈ (pourings n r).filter fun x : Step => D x.2.2 == some k := List.mem_filter.mpr ⟨hx, h⟩
          rw [List.eq_nil_of_length_eq_zero hl2.symm] at this
          cases this
        · intro e3
          cases e4 : (pourings n r).filter fun x : Step => D x.2.2 == some k with
          | nil =>
            rw [e4] at hl2
            exact absurd (List.eq_nil_of_length_eq_zero hl2) e3
          | cons x l =>
            have : x ∈ (pourings n r).filter fun x : Step => D x.2.2 == some k := by rw [e4]; exact List.mem_cons_self
            obtain ⟨h1, h2⟩ := List.mem_filter.mp this
            exact ⟨x, h1, h2⟩
      rw [e2] at z
      exact z

/-! ### first_step -/
theorem steps_is' (o : Option Nat) (k : Nat) {z : Int} (hz : z = (k : Nat)) : decide ((o.map fun (k : Nat) => V.int (k : Nat)).getD (.int (-1)) = V.int z) = (o == some k) := by
  subst hz
  exact steps_is o k
theorem scal_steps (o : Option Nat) (z : Int) : scal ((o.map fun (k : Nat) => V.int (k : Nat)).getD (.int (-1))) (.int z) = true := by
  cases o <;> rfl
def spComingFirstStep (a : Adr) : Sp := fun vs H Q _ => ∃ c u n L D r b k x, vs = [.ref c, .ref b] ∧ CAt a H c u n L D ∧ r ∈ L ∧ RackAt H b r ∧ r.length ≤ 5 ∧ D r = some (k + 1) ∧ (pourings n r).find? (fun x => D x.2.2 == some k) = some x ∧
  ∀ t H', Same H H' → StepAt H' t x → Q (.ref t) H'
abbrev scComingFirstStep_N : List Str := ["self", "rack", "some", "step"]
theorem scComingFirstStep : FnScope ["self", "rack", "some", "step"] ["self", "rack"] (defScope sComingFirstStep) := ⟨rfl, rfl, rfl, by decide +kernel, rfl, by decide +kernel, by decide +kernel⟩
theorem ok_ComingFirstStep (T : Txt K mg a) : FnOk P w K mg base CX0 1 a.fComingFirstStep a.dComingFirstStep ["self", "rack"] (spComingFirstStep a) := by
  refine T.oComingFirstStep.F.ok scComingFirstStep (fun vs H Q E h => ?_) (fun cdv A outer s H vs Q E hr h => ?_)
  · obtain ⟨_, _, _, _, _, _, _, _, _, rfl, _⟩ := h
    rfl
  · obtain ⟨c, u, n, L, D, r, b, k, x, rfl, hc, hr1, hb, hr5, hDr, hx, q⟩ := h
    refine ⟨_, (pss_cons (ps_setLc (i := 2) (own := [("step", 3)]) rfl scComingFirstStep.nd rfl rfl (sw_true rfl rfl rfl (by decide +kernel)) (pi_list (pe_rget (hu2_of hr) (pe_fld (pv 0) rfl) (pv 1) (fun _ _ => rfl))) (blkOk_by (N := scComingFirstStep_N) (sc := defScope sComingFirstStep) (by decide +kernel)) (fun _ _ _ _ _ => (pg_name (i := 3) scComingFirstStep.nd rfl (Or.inl rfl))) (fun _ _ _ _ _ => (pts_one (pt_cmpR op_eq (pe_rget2 (hu2_of hr) (pe_fldK K rfl (pv 0) rfl) (pe_ix (ix_tupK K rfl) (pv 3) pe_int (fun _ _ => rfl)) (pe_un un_neg pe_int) ⟨rfl, rfl, rfl, rfl⟩) (pe_op op_sub (pe_rget (hu2_of hr) (pe_fldK K rfl (pv 0) rfl) (pv 1) (fun _ _ => rfl)) pe_int) (nomark _)))) (fun _ _ _ _ _ => (pv 3)))
      (pss_one (ps_ret (pe_ix ix_list (pv 2) pe_int (fun _ _ => rfl))))), ?_⟩
    obtain ⟨pv, hpv, hp⟩ := hc.prs
    obtain ⟨st, est, bs, hbs, pbs⟩ := hp r hr1
    have hlen : (pourings n r).length ≤ 400 := Nat.le_trans (few_pourings hr5) (by decide)
    refine ⟨_, rfl, c, _, _, _, _, rfl, hc.ins, T.clComing, T.nComingPourings, lk_pourings, _, rfl, u.dp, pv, b, r, _, rfl, hpv, rfl, hb, est, st, rfl, ⟨_, SqL.of hbs⟩, fun d hd => ?_⟩
    refine lc_pairs V.ref (fun x : Step => D x.2.2 == some k) hd hbs pbs hlen ?_ ?_
    · intro b1 x H1 hx hbx sm E G hE hG
      obtain ⟨e, he1, he2⟩ := hbx
      have hc1 := hc.same sm
      obtain ⟨sv, hsv, hD⟩ := hc1.sts
      refine ⟨rfl, _, rfl, c, _, _, _, _, rfl, hc1.ins, T.clComing, T.nComingSteps, lk_steps, u.ds, sv, rfl, hsv, _, rfl, b1, _, _, _, rfl, rfl, SqT.of (sm _ _ he1), rfl, _, rfl, sv, e, x.2.2, hsv, rfl, he2.same sm, ?_⟩
      refine ⟨_, rfl, c, _, _, _, _, rfl, hc1.ins, T.clComing, T.nComingSteps, lk_steps, _, rfl, u.ds, sv, b, r, .int ((k + 1 : Nat) : Nat), rfl, hsv, rfl, hb.same sm, by rw [hD, hDr]; rfl, _, _, rfl, rfl, by rw [hD]; exact scal_steps _ _, _, rfl, ?_⟩
      rw [hD]
      have e1 : (((k + 1 : Nat) : Nat) : Int) - 1 = (k : Nat) := by omega
      have z := steps_is' (D x.2.2) k e1
      cases e2 : D x.2.2 == some k with
      | true =>
        refine if_pos_of (z.trans e2) ?_
        exact ⟨_, rfl, hE e2 H1 (Same.refl _)⟩
      | false =>
        refine if_neg_of (z.trans e2) ?_
        exact hG e2 H1 (Same.refl _)
    · intro H1 as' sm hl pr
      have hf : ((pourings n r).filter fun x : Step => D x.2.2 == some k)[0]? = some x := by
        rw [← List.head?_eq_getElem?, List.head?_filter]
        exact hx
      obtain ⟨t, ht, hst⟩ := paired_get pr hf
      refine ⟨_, rfl, d, _, _, .ref t, rfl, rfl, SqL.of hl, atI_nat (j := 0) (by rw [List.getElem?_map, ht]; rfl), ?_⟩
      exact q t H1 sm (hst.keeps fun _ _ h => sm _ _ h)
end
end Td

/-! coming.py: plan, tell_steps. -/
namespace Td
open PySem PySem.Spec PyProof.Rows L2

def PairAt (H : Hp) (b : Addr) (x : Nat × Nat) : Prop := H b = some (.tup [.int (x.1 : Nat), .int (x.2 : Nat)])
/-- the plan by the distances D -/
def planD (n : Nat) (D : Sy71.Rack → Option Nat) : Nat → Sy71.Rack → List (Nat × Nat)
  | 0, _ => []
  | k + 1, r => match (pourings n r).find? fun x => D x.2.2 == some k with
    | none => []
    | some x => (x.1, x.2.1) :: planD n D k x.2.2
theorem planD_length (n : Nat) (D : Sy71.Rack → Option Nat) : ∀ (k : Nat) (r : Sy71.Rack), (planD n D k r).length ≤ k
  | 0, _ => Nat.le_refl _
  | k + 1, r => by
    unfold planD
    cases (pourings n r).find? fun x => D x.2.2 == some k with
    | none => exact Nat.zero_le _
    | some x =>
      show (planD n D k x.2.2).length + 1 ≤ k + 1
      have := planD_length n D k x.2.2
      omega
/-- the racks are all that pourings lead to; from one at k + 1 a pouring leads to one at k -/
structure Good (n : Nat) (L : List Sy71.Rack) (D : Sy71.Rack → Option Nat) : Prop where
  closed : ∀ r ∈ L, ∀ x ∈ pourings n r, x.2.2 ∈ L
  down : ∀ r ∈ L, ∀ k, D r = some (k + 1) → ∃ x, (pourings n r).find? (fun x => D x.2.2 == some k) = some x
  small : Small L
section
variable {P : Program} {w : World} {K : PySem.W.Frag} {mg : Str → Option Value} {base : Heap} {a : Adr}
theorem lk_first_step {x y z : V} : List.lookup ("first_step" : Str) [("pourings", x), ("racks", y), ("steps", z)] = none := rfl
theorem lk_leads_to {x y z : V} : List.lookup ("leads_to" : Str) [("pourings", x), ("racks", y), ("steps", z)] = none := rfl
def spComingPlan (a : Adr) : Sp := fun vs H Q _ => ∃ c u n L D r b k, vs = [.ref c, .ref b] ∧ CAt a H c u n L D ∧ Good n L D ∧ r ∈ L ∧ RackAt H b r ∧ D r = some k ∧ k ≤ 400 ∧
  ∀ e H' bs, Same H H' → H' e = some (.lst (bs.map V.ref)) → Paired (PairAt H') bs (planD n D k r) → Q (.ref e) H'
abbrev scComingPlan_N : List Str := ["self", "rack", "found", "one", "other", "behind"]
theorem scComingPlan : FnScope ["self", "rack", "found", "one", "other", "behind"] ["self", "rack"] (defScope sComingPlan) := ⟨rfl, rfl, rfl, by decide +kernel, rfl, by decide +kernel, by decide +kernel⟩
theorem ok_ComingPlan (T : Txt K mg a) : FnOk P w K mg base CX0 2 a.fComingPlan a.dComingPlan ["self", "rack"] (spComingPlan a) := by
  refine T.oComingPlan.F.ok scComingPlan (fun vs H Q E h => ?_) (fun cdv A outer s H vs Q E hr h => ?_)
  · obtain ⟨_, _, _, _, _, _, _, _, rfl, _⟩ := h
    rfl
  · obtain ⟨c, u, n, L, D, r, b, k, rfl, hc, hg, hr1, hb, hDr, hk, q⟩ := h
    refine ⟨_, (pss_cons (ps_set (i := 2) scComingPlan.nd rfl (Or.inl rfl) (pe_lst pa_nil))
      (pss_cons (ps_while PassesOwn.never (pt_cmpR op_gt (pe_rget (hu2_of hr) (pe_fld (pv 0) rfl) (pv 1) (fun _ _ => rfl)) pe_int (nomark _)) (pss_cons (ps_asg (pe_meth (pv 0) T.clComing T.oComingFirstStep.M (ok_ComingFirstStep T) (hr.mono (by decide)) T.oComingFirstStep.b .nil pass0 (pa_cons (pv 1) pa_nil)) (pg_tup (n := 3) rfl (pgs_cons (pg_name (i := 3) scComingPlan.nd rfl (Or.inl rfl)) (pgs_cons (pg_name (i := 4) scComingPlan.nd rfl (Or.inl rfl)) (pgs_cons (pg_name (i := 5) scComingPlan.nd rfl (Or.inl rfl)) pgs_nil)))))
      (pss_cons (ps_expr (pe_bm PySem.F.plainAttrs_list PySem.F.slot_list_append PySem.F.type_list_append mt_append (pv 2) (pa_cons (pe_tup (pa_cons (pv 3) (pa_cons (pv 4) pa_nil))) pa_nil)))
      (pss_one (ps_set (i := 1) scComingPlan.nd rfl (Or.inl rfl) (pv 5))))))
      (pss_one (ps_ret (pv 2))))), ?_⟩
    refine ⟨zero_le_line, fun f hf => ?_⟩
    refine ⟨fun m σ H1 => ∃ (b1 : Addr) (r1 : Sy71.Rack) (bs : List Addr) (done : List (Nat × Nat)) (v1 v2 v3 : Option V), σ = [some (.ref c), some (.ref b1), some (.ref f), v1, v2, v3] ∧ Same H H1 ∧ RackAt H1 b1 r1 ∧ r1 ∈ L ∧ D r1 = some m ∧ m ≤ k ∧ H1 f = some (.lst (bs.map V.ref)) ∧ Paired (PairAt H1) bs done ∧ done ++ planD n D m r1 = planD n D k r,
      ⟨k, b, r, [], [], none, none, none, rfl, same_upd hf, hb.same (same_upd hf), hr1, hDr, Nat.le_refl _, upd_same, .nil, rfl⟩, ?_⟩
    rintro m σ H1 ⟨b1, r1, bs, done, v1, v2, v3, rfl, sm, hb1, hr2, hD1, hm, hbs, pbs, hpl⟩
    have hc1 := hc.same sm
    obtain ⟨sv, hsv, hD⟩ := hc1.sts
    refine ⟨_, rfl, c, _, _, _, _, rfl, hc1.ins, T.clComing, T.nComingSteps, lk_steps, _, rfl, u.ds, sv, b1, r1, .int ((m : Nat) : Nat), rfl, hsv, rfl, hb1, by rw [hD, hD1]; rfl, _, _, rfl, rfl, _, rfl, ?_⟩
    have hdl : done.length ≤ k := by
      have h1 := planD_length n D k r
      rw [← hpl, List.length_append] at h1
      omega
    cases m with
    | zero =>
      refine if_neg_of rfl ?_
      refine ⟨_, rfl, ?_⟩
      refine q f H1 bs sm hbs ?_
      rw [← hpl]
      show Paired _ _ (done ++ [])
      rw [List.append_nil]
      exact pbs
    | succ m =>
      refine if_pos_of (decide_eq_true (by omega)) ?_
      obtain ⟨x, hx⟩ := hg.down r1 hr2 m hD1
      have hxm := List.mem_of_find?_eq_some hx
      have hDx : D x.2.2 = some m := by simpa using List.find?_some hx
      refine ⟨fun σ' H' => ∃ (b2 : Addr) (bs' : List Addr) (v1 v2 v3 : Option V), σ' = [some (.ref c), some (.ref b2), some (.ref f), v1, v2, v3] ∧ Same H H' ∧ RackAt H' b2 x.2.2 ∧ H' f = some (.lst (bs'.map V.ref)) ∧ Paired (PairAt H') bs' (done ++ [(x.1, x.2.1)]), ?_, ?_⟩
      · rintro σ' H' ⟨b2, bs', v1, v2, v3, rfl, sm2, hb2, hbs2, pbs2⟩
        refine ⟨m, Nat.lt_succ_self _, b2, x.2.2, bs', done ++ [(x.1, x.2.1)], v1, v2, v3, rfl, sm2, hb2, hg.closed r1 hr2 x hxm, hDx, by omega, hbs2, pbs2, ?_⟩
        rw [List.append_assoc, ← hpl]
        congr 1
        show (x.1, x.2.1) :: planD n D m x.2.2 = planD n D (m + 1) r1
        conv => rhs; unfold planD
        rw [hx]
      refine ⟨_, rfl, c, _, _, rfl, hc1.ins, lk_first_step, _, rfl, c, u, n, L, D, r1, b1, m, x, rfl, hc1, hr2, hb1, (hg.small r1 hr2).2, hD1, hx, fun t H2 s2 ht => ?_⟩
      obtain ⟨e, he1, he2⟩ := ht
      refine ⟨t, _, rfl, SqT.of he1, rfl, _, _, rfl, _, _, rfl, _, _, rfl, rfl, ?_⟩
      refine ⟨_, rfl, .inl ⟨rfl, _, SqL.of (s2 _ _ hbs)⟩, _, rfl, _, rfl, by show 2 ≤ sizeLine; decide, fun p hp => ?_⟩
      refine ⟨f, _, _, rfl, rfl, same_upd hp _ _ (s2 _ _ hbs), ?_, ?_⟩
      · rw [List.length_map, paired_len pbs, sizeLine_eq]
        omega
      · have npf : f ≠ p := ne_of_none (s2 _ _ hbs) hp
        have kt : ∀ z o, z ≠ f → H2 z = some o → upd (upd H2 p (.tup [.int (x.1 : Nat), .int (x.2.1 : Nat)])) f (.lst (bs.map V.ref ++ [.ref p])) z = some o := fun z o nz h => by
          rw [upd_ne nz]
          exact same_upd hp _ _ h
        have ktup : ∀ z ys, H2 z = some (.tup ys) → upd (upd H2 p (.tup [.int (x.1 : Nat), .int (x.2.1 : Nat)])) f (.lst (bs.map V.ref ++ [.ref p])) z = some (.tup ys) := fun z ys h => kt z _ (ne_of h (s2 _ _ hbs) (fun z => nomatch z)) h
        refine ⟨_, rfl, e, bs ++ [p], _, _, _, rfl, fun z o h => kt z o (ne_of_none h hf) (s2 _ _ (sm _ _ h)), he2.keeps ktup, ?_, ?_⟩
        · rw [upd_same, List.map_append]
          rfl
        · refine paired_snoc ?_ (paired_imp pbs fun y z h => ktup _ _ (s2 _ _ h))
          show upd _ _ _ p = _
          rw [upd_ne (Ne.symm npf), upd_same]

/-! ### tell_steps -/
theorem dp_rack {K : PySem.W.Frag} {H : Hp} : ∀ {ts : List Addr} {r : Sy71.Rack}, Paired (TubeAt H) ts r → DpAll K H (ts.map V.ref) (r.map fun l => PyData.tuple ((tubeI l).map PyData.int))
  | _, _, .nil => .nil
  | _, _, .cons h t => .cons (.tup (SqT.of h) (dp_ints _)) (dp_rack t)
theorem dp_racks {K : PySem.W.Frag} {H : Hp} : ∀ {as : List Addr} {L : List Sy71.Rack}, Paired (RackAt H) as L → DpAll K H (as.map V.ref) (L.map fun r => PyData.tuple (r.map fun l => PyData.tuple ((tubeI l).map PyData.int)))
  | _, _, .nil => .nil
  | _, _, .cons h t => by
    obtain ⟨ts, h1, h2⟩ := h
    exact .cons (.tup (SqT.of h1) (dp_rack h2)) (dp_racks t)
theorem lay_rack : ∀ r : Sy71.Rack, PyData.canLayAll0 (r.map fun l => PyData.tuple ((tubeI l).map PyData.int)) = true ∧ PyData.depthAll (r.map fun l => PyData.tuple ((tubeI l).map PyData.int)) ≤ 1
  | [] => ⟨rfl, Nat.zero_le _⟩
  | l :: r => by
    obtain ⟨h1, h2⟩ := lay_rack r
    refine ⟨?_, ?_⟩
    · show (PyData.canLayAll0 ((tubeI l).map PyData.int) && PyData.canLayAll0 (r.map fun l => PyData.tuple ((tubeI l).map PyData.int))) = true
      rw [lay_ints, h1]
      rfl
    · show max (PyData.depthAll ((tubeI l).map PyData.int) + 1) (PyData.depthAll (r.map fun l => PyData.tuple ((tubeI l).map PyData.int))) ≤ 1
      rw [deep_ints]
      omega
theorem lay_racks : ∀ L : List Sy71.Rack, PyData.canLayAll0 (L.map fun r => PyData.tuple (r.map fun l => PyData.tuple ((tubeI l).map PyData.int))) = true ∧ PyData.depthAll (L.map fun r => PyData.tuple (r.map fun l => PyData.tuple ((tubeI l).map PyData.int))) ≤ 2
  | [] => ⟨rfl, Nat.zero_le _⟩
  | r :: L => by
    obtain ⟨h1, h2⟩ := lay_racks L
    obtain ⟨h3, h4⟩ := lay_rack r
    refine ⟨?_, ?_⟩
    · show (PyData.canLayAll0 (r.map fun l => PyData.tuple ((tubeI l).map PyData.int)) && PyData.canLayAll0 (L.map fun r => PyData.tuple (r.map fun l => PyData.tuple ((tubeI l).map PyData.int)))) = true
      rw [h3, h1]
      rfl
    · show max (PyData.depthAll (r.map fun l => PyData.tuple ((tubeI l).map PyData.int)) + 1) (PyData.depthAll (L.map fun r => PyData.tuple (r.map fun l => PyData.tuple ((tubeI l).map PyData.int)))) ≤ 2
      omega
theorem rNe_racks {K : PySem.W.Frag} {H : Hp} {p e : Addr} {as : List Addr} {L : List Sy71.Rack} {Q : VK} (h : SqL K H p (as.map V.ref)) (pr : Paired (RackAt H) as L) (he : SqL K H e []) (q : Q (.bl (!(as.map V.ref).isEmpty)) H) : rNeD K (.ref p) (.ref e) H Q :=
  rNe_lst h (dp_racks pr) (lay_racks L).1 (Nat.le_trans (lay_racks L).2 (by decide)) he q
/-- the racks one further -/
def more (n : Nat) (L : List Sy71.Rack) (D : Sy71.Rack → Option Nat) (c : Nat) : List Sy71.Rack := L.filter fun r => !(D r).isSome && leads n D c r
/-- some of them told -/
def toldD (D : Sy71.Rack → Option Nat) (M : List Sy71.Rack) (c : Nat) (r : Sy71.Rack) : Option Nat := if M.contains r = true then some (c + 1) else D r
/-- the distances told behind so many turns -/
def distD (n : Nat) (L : List Sy71.Rack) (D : Sy71.Rack → Option Nat) : Nat → Sy71.Rack → Option Nat
  | 0 => D
  | c + 1 => toldD (distD n L D c) (more n L (distD n L D c) c) c
def blank (L : List Sy71.Rack) (D : Sy71.Rack → Option Nat) : Nat := (L.filter fun r => !(D r).isSome).length
theorem filter_len_le {α : Type} (p q : α → Bool) (h : ∀ x, p x = true → q x = true) : ∀ l : List α, (l.filter p).length ≤ (l.filter q).length
  | [] => Nat.le_refl _
  | x :: l => by
    have ih := filter_len_le p q h l
    by_cases c : p x = true
    · rw [List.filter_cons_of_pos c, List.filter_cons_of_pos (h x c), List.length_cons, List.length_cons]
      omega
    · rw [List.filter_cons_of_neg c]
      by_cases d : q x = true
      · rw [List.filter_cons_of_pos d, List.length_cons]
        omega
      · rw [List.filter_cons_of_neg d]
        exact ih
theorem filter_len_lt {α : Type} (p q : α → Bool) (h : ∀ x, p x = true → q x = true) : ∀ {l : List α} {y : α}, y ∈ l → q y = true → p y = false → (l.filter p).length < (l.filter q).length
  | x :: l, y, hy, h1, h2 => by
    rcases List.mem_cons.mp hy with e | hy
    · subst e
      rw [List.filter_cons_of_pos h1, List.filter_cons_of_neg (by rw [h2]; exact Bool.false_ne_true), List.length_cons]
      have := filter_len_le p q h l
      omega
    · have ih := filter_len_lt p q h hy h1 h2
      by_cases c : p x = true
      · rw [List.filter_cons_of_pos c, List.filter_cons_of_pos (h x c), List.length_cons, List.length_cons]
        omega
      · rw [List.filter_cons_of_neg c]
        by_cases d : q x = true
        · rw [List.filter_cons_of_pos d, List.length_cons]
          omega
        · rw [List.filter_cons_of_neg d]
          exact ih
theorem blank_less {n : Nat} {L : List Sy71.Rack} {D : Sy71.Rack → Option Nat} {c : Nat} (h : more n L D c ≠ []) : blank L (toldD D (more n L D c) c) < blank L D := by
  cases e : more n L D c with
  | nil => exact absurd e h
  | cons y l =>
    have hy : y ∈ more n L D c := by rw [e]; exact List.mem_cons_self
    obtain ⟨h1, h2⟩ := List.mem_filter.mp hy
    rw [Bool.and_eq_true] at h2
    rw [← e]
    refine filter_len_lt _ _ (fun x hx => ?_) h1 h2.1 ?_
    · unfold toldD at hx
      split at hx
      · cases hx
      · exact hx
    · unfold toldD
      rw [if_pos (List.contains_iff_mem.mpr hy)]
      rfl
theorem told_none {D : Sy71.Rack → Option Nat} {c : Nat} : toldD D [] c = D := by
  funext r
  unfold toldD
  rw [if_neg (by simp)]
def spComingTellSteps (a : Adr) : Sp := fun vs H Q _ => ∃ c u n L D, vs = [.ref c] ∧ CAt a H c u n L D ∧ Small L ∧ L.length ≤ 400 ∧
  ∀ k H', more n L (distD n L D k) k = [] → (∀ j, j < k → more n L (distD n L D j) j ≠ []) → CAt a H' c u n L (distD n L D k) → (∀ b o, b ≠ u.ds → H b = some o → H' b = some o) → Q .non H'
abbrev scComingTellSteps_N : List Str := ["self", "count", "grows", "rack", "more"]
theorem scComingTellSteps : FnScope ["self", "count", "grows", "rack", "more"] ["self"] (defScope sComingTellSteps) := ⟨rfl, rfl, rfl, by decide +kernel, rfl, by decide +kernel, by decide +kernel⟩
theorem ok_ComingTellSteps (T : Txt K mg a) : FnOk P w K mg base CX0 2 a.fComingTellSteps a.dComingTellSteps ["self"] (spComingTellSteps a) := by
  refine T.oComingTellSteps.F.ok scComingTellSteps (fun vs H Q E h => ?_) (fun cdv A outer s H vs Q E hr h => ?_)
  · obtain ⟨_, _, _, _, _, rfl, _⟩ := h
    rfl
  · obtain ⟨c, u, n, L, D, rfl, hc, hsm, hlen, q⟩ := h
    refine ⟨_, (pss_cons (ps_set (i := 1) scComingTellSteps.nd rfl (Or.inr rfl) pe_int)
      (pss_cons (ps_set (i := 2) scComingTellSteps.nd rfl (Or.inl rfl) pe_bl)
      (pss_one (ps_while PassesOwn.never (pt_val (pv 2)) (pss_cons (ps_setLc (i := 4) (own := [("rack", 3)]) rfl scComingTellSteps.nd rfl rfl (sw_true rfl rfl rfl (by decide +kernel)) (pi_list (pe_fld (pv 0) rfl)) (blkOk_by (N := scComingTellSteps_N) (sc := defScope sComingTellSteps) (by decide +kernel)) (fun _ _ _ _ _ => (pg_name (i := 3) scComingTellSteps.nd rfl (Or.inl rfl))) (fun _ _ _ _ _ => (pts_one (PW.pt (pw_and (pt_cmp (pc_rnotin (hu2_of hr) (pv 3) (pe_fldK K rfl (pv 0) rfl)) (by rfl)) (pw_and1 (pt_val (pe_meth (pv 0) T.clComing T.oComingLeadsTo.M (ok_ComingLeadsTo T) (hr.mono (by decide)) T.oComingLeadsTo.b .nil pass0 (pa_cons (pv 3) (pa_cons (pv 1) pa_nil))))))))) (fun _ _ _ _ _ => (pv 3)))
      (pss_cons (ps_aug (i := 1) scComingTellSteps.nd rfl (Or.inr rfl) pe_int ip_add)
      (pss_cons (ps_for PassesOwn.never rfl (pi_list (pv 4)) (pg_name (i := 3) scComingTellSteps.nd rfl (Or.inl rfl)) (pss_one (ps_rput (hu2_of hr) (pe_fld (pv 0) rfl) (pv 3) (pv 1) rfl)))
      (pss_one (ps_set (i := 2) scComingTellSteps.nd rfl (Or.inl rfl) (pe_cmpR (op_neD hr.units) (pv 4) (pe_lst pa_nil) (nomark _))))))))))), ?_⟩
    refine ⟨fun m σ H1 => ∃ (k : Nat) (g : Bool) (v1 v2 : Option V), σ = [some (.ref c), some (.int (k : Nat)), some (.bl g), v1, v2] ∧ CAt a H1 c u n L (distD n L D k) ∧ (∀ b o, b ≠ u.ds → H b = some o → H1 b = some o) ∧
      (g = true → m = blank L (distD n L D k) + 1 ∧ ∀ j, j < k → more n L (distD n L D j) j ≠ []) ∧ (g = false → ∃ k', k = k' + 1 ∧ more n L (distD n L D k') k' = [] ∧ ∀ j, j < k' → more n L (distD n L D j) j ≠ []),
      ⟨_, 0, true, none, none, rfl, hc, fun _ _ _ h => h, fun _ => ⟨rfl, fun j hj => absurd hj (Nat.not_lt_zero _)⟩, fun z => Bool.noConfusion z⟩, ?_⟩
    rintro m σ H1 ⟨k, g, v1, v2, rfl, hc1, keep, hgt, hgf⟩
    refine ⟨_, rfl, _, rfl, ?_⟩
    cases g with
    | false =>
      refine if_neg_of rfl ?_
      obtain ⟨k', rfl, h1, h2⟩ := hgf rfl
      have e : distD n L D (k' + 1) = distD n L D k' := by
        show toldD (distD n L D k') (more n L (distD n L D k') k') k' = _
        rw [h1, told_none]
      rw [e] at hc1
      exact q k' H1 h1 h2 hc1 keep
    | true =>
      refine if_pos_of rfl ?_
      obtain ⟨rfl, hne⟩ := hgt rfl
      clear hgt hgf
      generalize hDk : distD n L D k = Dk at hc1
      generalize hM : more n L Dk k = M
      have hsucc : distD n L D (k + 1) = toldD Dk M k := by
        show toldD (distD n L D k) (more n L (distD n L D k) k) k = _
        rw [hDk, hM]
      refine ⟨fun σ' H' => ∃ (v1 v2 : Option V), σ' = [some (.ref c), some (.int ((k + 1 : Nat) : Nat)), some (.bl (!M.isEmpty)), v1, v2] ∧ CAt a H' c u n L (toldD Dk M k) ∧ (∀ b o, b ≠ u.ds → H b = some o → H' b = some o), ?_, ?_⟩
      · rintro σ' H' ⟨v1, v2, rfl, hc2, keep2⟩
        rw [← hsucc] at hc2
        by_cases hMe : M = []
        · refine ⟨0, Nat.succ_pos _, k + 1, !M.isEmpty, v1, v2, rfl, hc2, keep2, fun z => ?_, fun _ => ⟨k, rfl, by rw [hDk, hM, hMe], hne⟩⟩
          rw [hMe] at z
          cases z
        · refine ⟨blank L (distD n L D (k + 1)) + 1, ?_, k + 1, !M.isEmpty, v1, v2, rfl, hc2, keep2, fun _ => ⟨rfl, fun j hj => ?_⟩, fun z => ?_⟩
          · have := blank_less (n := n) (L := L) (D := Dk) (c := k) (by rw [hM]; exact hMe)
            rw [hM] at this
            rw [hsucc]
            omega
          · by_cases e : j = k
            · rw [e, hDk, hM]
              exact hMe
            · exact hne j (by omega)
          · cases M with
            | nil => exact absurd rfl hMe
            | cons _ _ => cases z
      -- the racks one further
      refine ⟨_, rfl, c, _, _, _, _, rfl, hc1.ins, T.clComing, T.nComingRacks, lk_racks, u.lr, rfl, ⟨_, SqL.of hc1.lst⟩, fun d hd => ?_⟩
      refine lc_pairs V.ref (fun r => !(Dk r).isSome && leads n Dk k r) hd hc1.lst hc1.rks hlen ?_ ?_
      · intro b r H2 hr2 hb sm E G hE hG
        have hc2 := hc1.same sm
        obtain ⟨sv, hsv, hD⟩ := hc2.sts
        refine ⟨rfl, _, rfl, _, rfl, c, _, _, _, _, rfl, hc2.ins, T.clComing, T.nComingSteps, lk_steps, u.ds, sv, b, r, rfl, hsv, rfl, hb.same sm, _, rfl, ?_⟩
        rw [hD r, Option.isSome_map]
        cases e : (Dk r).isSome with
        | true => exact if_neg_of rfl (if_neg_of rfl (hG (by rw [e]; rfl) H2 (Same.refl _)))
        | false =>
          refine if_pos_of rfl ?_
          refine ⟨_, rfl, c, _, _, rfl, hc2.ins, lk_leads_to, _, rfl, _, rfl, c, u, n, L, Dk, r, b, k, rfl, hc2, hr2, hb.same sm, (hsm r hr2).2, fun H3 s3 => ⟨_, rfl, ?_⟩⟩
          cases e2 : leads n Dk k r with
          | true => exact if_pos_of rfl ⟨_, rfl, hE (by rw [e, e2]; rfl) H3 s3⟩
          | false => exact if_neg_of rfl (hG (by rw [e, e2]; rfl) H3 s3)
      intro H2 as' sm hl pr
      rw [show (L.filter fun r => !(Dk r).isSome && leads n Dk k r) = M from hM] at pr
      have hc2 := hc1.same sm
      have hML : ∀ r ∈ M, r ∈ L := fun r hr => by
        rw [← hM] at hr
        exact (List.mem_filter.mp hr).1
      refine ⟨_, rfl, _, _, rfl, rfl, ?_⟩
      have pr2 : Paired (RackAt H2) as' M := paired_imp pr fun _ _ z => z.same sm
      have hla := paired_len pr
      have hMl : M.length ≤ L.length := by
        rw [← hM]
        exact List.length_filter_le _ _
      refine ⟨_, rfl, d, rfl, ⟨_, SqL.of hl⟩, for_list (xs := as'.map V.ref) (fun i σ H3 => ∃ v3 : Option V, σ = [some (.ref c), some (.int ((k + 1 : Nat) : Nat)), some (.bl true), v3, some (.ref d)] ∧ CAt a H3 c u n L (toldD Dk (M.take i) k) ∧ (∀ b o, b ≠ u.ds → H2 b = some o → H3 b = some o))
        ⟨v1, rfl, by rw [List.take_zero, told_none]; exact hc2, fun _ _ _ h => h⟩ (fun i σ H3 _ ⟨_, _, _, kp⟩ => ?_) ?_ ?_⟩
      · obtain ⟨sv, hsv, _⟩ := hc2.sts
        obtain ⟨xs, hx⟩ := hsv.at
        exact SqL.of (kp _ _ (ne_of hl hx fun z => by unfold dictO at z; cases z) hl)
      · rintro i x σ H3 hi ⟨v3, rfl, hc3, kp⟩
        obtain ⟨b, hb, rfl⟩ := refs_get hi
        obtain ⟨r, hr3, hrb⟩ := paired_ix pr2 hb
        have hrL := hML r (List.mem_of_getElem? hr3)
        obtain ⟨sv, hsv, hD⟩ := hc3.sts
        obtain ⟨sv2, hsv2, _⟩ := hc2.sts
        obtain ⟨xs2, hx2⟩ := hsv2.at
        have hrb3 : RackAt H3 b r := hrb.keeps fun z ys h => kp _ _ (ne_of h hx2 dictO_tup) h
        have hsl : sv.length ≤ L.length := hsv.length_le fun q hq => hc3.sub q (by rw [hD q, Option.isSome_map] at hq; exact hq)
        refine ⟨_, rfl, _, rfl, c, _, _, _, _, rfl, hc3.ins, T.clComing, T.nComingSteps, lk_steps, _, rfl, u.ds, sv, b, r, rfl, hsv, rfl, hrb3, by rw [sizeLine_eq]; omega, fun H4 hp => ?_⟩
        have hc4 := hc3.put hsv hD hp hrL
        refine ⟨_, rfl, ?_, fun z o nz h => by rw [hp.2 z nz]; exact kp z o nz h⟩
        have e : (fun x => if x = r then some (k + 1) else toldD Dk (M.take i) k x) = toldD Dk (M.take (i + 1)) k := by
          funext x
          unfold toldD
          rw [List.take_add_one, hr3]
          by_cases e1 : x = r
          · rw [if_pos e1, if_pos (by rw [e1]; simp)]
          · rw [if_neg e1]
            by_cases e2 : (M.take i).contains x = true
            · rw [if_pos e2, if_pos (by simp only [List.contains_iff_mem, List.mem_append] at e2 ⊢; exact .inl e2)]
            · rw [if_neg e2, if_neg (by
                simp only [List.contains_iff_mem, List.mem_append] at e2 ⊢
                rintro (z | z)
                · exact e2 z
                · exact e1 (by simpa using z))]
        rw [← e]
        exact hc4
      · rintro σ H3 ⟨v3, rfl, hc3, kp⟩
        rw [List.length_map, hla, List.take_length] at hc3
        obtain ⟨sv2, hsv2, _⟩ := hc2.sts
        obtain ⟨xs2, hx2⟩ := hsv2.at
        have hl3 : H3 d = some (.lst (as'.map V.ref)) := kp _ _ (ne_of hl hx2 fun z => by unfold dictO at z; cases z) hl
        have pr3 : Paired (RackAt H3) as' M := paired_imp pr2 fun _ _ z => z.keeps fun z ys h => kp _ _ (ne_of h hx2 dictO_tup) h
        refine ⟨_, rfl, zero_le_line, fun e he => ?_⟩
        refine rNe_racks (SqL.of (same_upd he _ _ hl3)) (paired_imp pr3 fun _ _ z => z.same (same_upd he)) (SqL.of upd_same) ?_
        have hemp : (as'.map V.ref).isEmpty = M.isEmpty := by
          cases pr with
          | nil => rfl
          | cons _ _ => rfl
        rw [hemp]
        refine ⟨_, _, rfl, hc3.same (same_upd he), fun z o nz h => same_upd he _ _ (kp z o nz (sm _ _ (keep z o nz h)))⟩
end
end Td

/-! coming.py: Coming.__init__. -/
namespace Td
open PySem PySem.Spec PyProof.Rows L2

/-! ### a def that raises where nothing is handled (its exception's context is None) -/
section
variable {P : Program} {w : World} {K : PySem.W.Frag} {mg : Str → Option Value} {base : Heap}
theorem okN {x qual : Str} {st : Stmt} {f : Addr} {fd : FuncData} {N ps : List Str} {k : Nat} {sp : Sp} (F : Fun K x qual st f fd) (S : FnScope N ps (defScope st)) (len : ∀ vs H Q E, sp vs H Q E → vs.length = ps.length)
    (hbody : ∀ (cdv : Value) (A : Around) (outer : List Env) (s : Shared) (H : Hp) (vs : List V) (Q : VK) (E : XK), Room k (A.deeper (envOfC qual (defScope st) s.heap.objs.size f cdv)) → sp vs H Q E →
      ∃ t, PSs (cxOf (L2N.CX P w) P w K mg base N qual (defScope st) f cdv A outer s H E) (defBody st) t ∧ t { nx := fun _ H' => Q .non H', rt := Q } (L2.start N vs) H) : FnOk P w K mg base (L2N.CX P w) (k + 1) f fd ps sp := by
  obtain ⟨oc, od, kV, doc, pm, an, cdv, ct, osl, rfl, lk, hcd⟩ := F.ex
  exact fn_of lk hcd S len fun A outer s H vs Q E hr hsp => hbody cdv A outer s H vs Q E hr hsp
end
theorem pmk_own0N {X : Cx} {C : Addr} {bmB : List Value} {B newId initId : String} {x : Str} {p pos : Pos} (F : ExcBaseFacts B newId initId bmB) (q : PySem.W.excIn X.K C bmB newId = true) (gC : X.mg x = some (.ref C)) (kC : PySem.W.keepIn X.K (.ref C) = true) (r : Raises X (.ref C)) (hg : Gl X x)
    (hdb : (x == ("__debug__" : Str)) = false := by decide) : L2N.PMk X (.Call (.Name x p) [] [] pos) (fun _ H Q => Q (.ref C) none H) := by
  intro pins s σ H Q I h
  refine wpAny_Call_Name_kw (ld_glob I hg gC ?_ hdb)
  refine PySem.W.callWith_K0 I.kIn kC ?_
  show wpAny _ _ (call (.ref C) []) _ _ _
  obtain ⟨bm, N, nm, qn, bs, hdct, sn, sub, ab, col, dd, k0, k1, k2, k3, k5, mN, hC, hN, hni, T⟩ := exc_obj I.kIn q
  refine wpAny_call_exc_subT F T hC hN hni (fun h' e hm => ?_) (by show 0 ≤ sizeLine; exact Nat.zero_le _)
  exact L2N.mk_of I hm r h (I.hok.gone hm.new)

/-! ### the queue -/
inductive Reach (n : Nat) (r0 : Sy71.Rack) : Sy71.Rack → Prop
  | refl : Reach n r0 r0
  | step {r : Sy71.Rack} {x : Step} : Reach n r0 r → x ∈ pourings n r → Reach n r0 x.2.2
def addU (L : List Sy71.Rack) (u : Sy71.Rack) : List Sy71.Rack := if L.contains u = true then L else L ++ [u]
structure Que (n : Nat) (r0 : Sy71.Rack) (L : List Sy71.Rack) (k : Nat) : Prop where
  nd : L.Nodup
  first : r0 ∈ L
  reach : ∀ r ∈ L, Reach n r0 r
  closed : ∀ j r, j < k → L[j]? = some r → ∀ x ∈ pourings n r, x.2.2 ∈ L
  fits : ∀ r ∈ L, Fits n r ∧ r.length = r0.length
theorem addU_mem {L : List Sy71.Rack} {u x : Sy71.Rack} : x ∈ addU L u ↔ x ∈ L ∨ x = u := by
  unfold addU
  split
  · rename_i c
    exact ⟨.inl, fun h => h.elim id fun e => by rw [e]; exact List.contains_iff_mem.mp c⟩
  · rw [List.mem_append, List.mem_singleton]
theorem addU_nodup {L : List Sy71.Rack} (h : L.Nodup) (u : Sy71.Rack) : (addU L u).Nodup := by
  unfold addU
  split
  · exact h
  · rename_i c
    rw [List.nodup_append]
    refine ⟨h, by simp, fun x hx y hy e => c ?_⟩
    rw [List.mem_singleton.mp hy] at e
    rw [← e]
    exact List.contains_iff_mem.mpr hx
theorem addU_get {L : List Sy71.Rack} {u r : Sy71.Rack} {j : Nat} (h : L[j]? = some r) : (addU L u)[j]? = some r := by
  unfold addU
  split
  · exact h
  · rw [List.getElem?_append_left (List.getElem?_eq_some_iff.mp h).1]
    exact h
/-- a rack that is led to comes -/
theorem Que.add {n : Nat} {r0 r : Sy71.Rack} {L : List Sy71.Rack} {k : Nat} (h : Que n r0 L k) (hk : k ≤ L.length) (hr : r ∈ L) {x : Step} (hx : x ∈ pourings n r) : Que n r0 (addU L x.2.2) k where
  nd := addU_nodup h.nd _
  first := addU_mem.mpr (.inl h.first)
  reach := fun q hq => (addU_mem.mp hq).elim (h.reach q) fun e => by rw [e]; exact .step (h.reach r hr) hx
  closed := fun j q hj hq y hy => by
    have hjl : j < L.length := by omega
    have hq' := addU_get (u := x.2.2) (List.getElem?_eq_getElem hjl)
    rw [hq] at hq'
    cases hq'
    exact addU_mem.mpr (.inl (h.closed j _ hj (List.getElem?_eq_getElem hjl) y hy))
  fits := fun q hq => (addU_mem.mp hq).elim (h.fits q) fun e => by
    obtain ⟨f1, f2⟩ := h.fits r hr
    obtain ⟨g1, g2⟩ := pourings_fits f1 hx
    rw [e]
    exact ⟨g1, g2.trans f2⟩

/-! ### what is on the heap meanwhile -/
structure BAd where
  (dx lr dp sn : Addr)
structure BAt (a : Adr) (H : Hp) (c : Addr) (u : BAd) (n : Nat) (L : List Sy71.Rack) (k : Nat) (as : List Addr) (pv kv : List (Sy71.Rack × V)) : Prop where
  ins : H c = some (.ins a.cComing u.dx [("pourings", .ref u.dp), ("racks", .ref u.lr)])
  lst : H u.lr = some (.lst (as.map V.ref))
  rks : Paired (RackAt H) as L
  prs : RDict H u.dp pv
  pok : ∀ j r, j < k → L[j]? = some r → ∃ q, valV pv r = some (.ref q) ∧ q ≠ u.lr ∧ StepsAt H q (pourings n r)
  psub : ∀ r, (valV pv r).isSome = true → r ∈ L
  sen : RDict H u.sn kv
  sok : ∀ r, (valV kv r).isSome = L.contains r
  ne : u.dp ≠ u.sn
section
variable {a : Adr} {H H' : Hp} {c : Addr} {u : BAd} {n k : Nat} {L : List Sy71.Rack} {as : List Addr} {pv kv : List (Sy71.Rack × V)}
theorem BAt.same (h : BAt a H c u n L k as pv kv) (s : Same H H') : BAt a H' c u n L k as pv kv where
  ins := s _ _ h.ins
  lst := s _ _ h.lst
  rks := paired_imp h.rks fun _ _ z => z.same s
  prs := h.prs.same s
  pok := fun j r hj hr => let ⟨q, e, nq, z⟩ := h.pok j r hj hr; ⟨q, e, nq, z.same s⟩
  psub := h.psub
  sen := h.sen.same s
  sok := h.sok
  ne := h.ne
/-- a rack's pourings are told -/
theorem BAt.told (h : BAt a H c u n L k as pv kv) {r : Sy71.Rack} {q : Addr} (hr : L[k]? = some r) (nq : q ≠ u.lr) (hq : StepsAt H q (pourings n r)) (hp : RPut H u.dp pv r (.ref q) H') : BAt a H' c u n L (k + 1) as (putK pv r (.ref q)) kv ∧ StepsAt H' q (pourings n r) := by
  obtain ⟨p1, p2⟩ := hp
  obtain ⟨xs, hx⟩ := h.prs.at
  have ntup : ∀ b ys, H b = some (.tup ys) → H' b = some (.tup ys) := fun b ys e => by
    rw [p2 b (ne_of e hx dictO_tup)]
    exact e
  have nlst : ∀ b ys, H b = some (.lst ys) → H' b = some (.lst ys) := fun b ys e => by
    rw [p2 b (ne_of e hx fun z => by unfold dictO at z; cases z)]
    exact e
  have hq' := hq.keeps ntup fun ys => nlst q ys
  refine ⟨⟨?_, nlst _ _ h.lst, paired_imp h.rks fun _ _ z => z.keeps ntup, p1, fun j r' hj hr' => ?_, fun r' hr' => ?_, h.sen.keeps ntup fun o e => by rw [p2 _ (Ne.symm h.ne)]; exact e, h.sok, h.ne⟩, hq'⟩
  · rw [p2 c (ne_of h.ins hx fun z => by unfold dictO at z; cases z)]
    exact h.ins
  · by_cases e : r' = r
    · rw [e]
      exact ⟨q, by rw [valV_put, if_pos rfl], nq, hq'⟩
    · have hjk : j ≠ k := fun z => e (by rw [z, hr] at hr'; exact (Option.some.inj hr').symm)
      obtain ⟨t, e1, nt, z⟩ := h.pok j r' (by omega) hr'
      exact ⟨t, by rw [valV_put, if_neg e]; exact e1, nt, z.keeps ntup fun ys => nlst t ys⟩
  · rw [valV_put] at hr'
    by_cases e : r' = r
    · rw [e]
      exact List.mem_of_getElem? hr
    · rw [if_neg e] at hr'
      exact h.psub r' hr'
/-- a new rack comes -/
theorem BAt.more (h : BAt a H c u n L k as pv kv) (hk : k ≤ L.length) {r : Sy71.Rack} {b : Addr} (hb : RackAt H b r) (hr : L.contains r = false) {H2 : Hp} (hp : RPut H u.sn kv r (.bl true) H2) :
    H2 u.lr = some (.lst (as.map V.ref)) ∧ RackAt H2 b r ∧ BAt a (upd H2 u.lr (.lst (as.map V.ref ++ [.ref b]))) c u n (addU L r) k (as ++ [b]) pv (putK kv r (.bl true)) ∧
    (∀ z o, z ≠ u.sn → z ≠ u.lr → H z = some o → upd H2 u.lr (.lst (as.map V.ref ++ [.ref b])) z = some o) := by
  obtain ⟨p1, p2⟩ := hp
  obtain ⟨xs, hx⟩ := h.sen.at
  have nl : u.lr ≠ u.sn := ne_of h.lst hx fun z => by unfold dictO at z; cases z
  have hl2 : H2 u.lr = some (.lst (as.map V.ref)) := by rw [p2 _ nl]; exact h.lst
  have ntup2 : ∀ b ys, H b = some (.tup ys) → H2 b = some (.tup ys) := fun b ys e => by
    rw [p2 b (ne_of e hx dictO_tup)]
    exact e
  have keep : ∀ z o, z ≠ u.sn → z ≠ u.lr → H z = some o → upd H2 u.lr (.lst (as.map V.ref ++ [.ref b])) z = some o := fun z o n1 n2 e => by
    rw [upd_ne n2, p2 z n1]
    exact e
  have ntup : ∀ b' ys, H b' = some (.tup ys) → upd H2 u.lr (.lst (as.map V.ref ++ [.ref b])) b' = some (.tup ys) := fun b' ys e =>
    keep b' _ (ne_of e hx dictO_tup) (ne_of e h.lst fun z => nomatch z) e
  have ntup3 : ∀ b' ys, H2 b' = some (.tup ys) → upd H2 u.lr (.lst (as.map V.ref ++ [.ref b])) b' = some (.tup ys) := fun b' ys e => by
    rw [upd_ne (ne_of e hl2 fun z => nomatch z)]
    exact e
  have eadd : addU L r = L ++ [r] := by
    unfold addU
    rw [if_neg (by rw [hr]; exact Bool.false_ne_true)]
  refine ⟨hl2, hb.keeps ntup2, ⟨?_, ?_, ?_, ?_, ?_, ?_, ?_, ?_, h.ne⟩, keep⟩
  · exact keep c _ (ne_of h.ins hx fun z => by unfold dictO at z; cases z) (ne_of h.ins h.lst fun z => nomatch z) h.ins
  · rw [upd_same, List.map_append]
    rfl
  · rw [eadd]
    exact paired_snoc (hb.keeps ntup) (paired_imp h.rks fun _ _ z => z.keeps ntup)
  · obtain ⟨ys, hy⟩ := h.prs.at
    exact h.prs.keeps ntup fun o e => keep _ o h.ne (ne_of hy h.lst fun z => by unfold dictO at z; cases z) e
  · intro j r' hj hr'
    have hjl : j < L.length := by omega
    have hq' := addU_get (u := r) (List.getElem?_eq_getElem hjl)
    rw [hr'] at hq'
    cases hq'
    obtain ⟨q, e, nq, z⟩ := h.pok j _ hj (List.getElem?_eq_getElem hjl)
    exact ⟨q, e, nq, z.keeps ntup fun ys e => keep q _ (ne_of e hx fun z => by unfold dictO at z; cases z) nq e⟩
  · exact fun r' hr' => addU_mem.mpr (.inl (h.psub r' hr'))
  · exact p1.keeps ntup3 fun o e => by rw [upd_ne (Ne.symm nl)]; exact e
  · intro r'
    rw [valV_put]
    by_cases e : r' = r
    · rw [if_pos e, eadd, e]
      simp
    · rw [if_neg e, h.sok r', eadd]
      simp [e]
end
/-- those of the first that are sorted: at 0 -/
def zeros (L : List Sy71.Rack) (r : Sy71.Rack) : Option Nat := if L.contains r = true ∧ Sy71.sorted r = true then some 0 else none
section
variable {P : Program} {w : World} {K : PySem.W.Frag} {mg : Str → Option Value} {base : Heap} {a : Adr}
theorem lk_b1 {x y : V} : List.lookup ("pourings" : Str) [("pourings", x), ("racks", y)] = some x := rfl
theorem lk_b2 {x y : V} : List.lookup ("racks" : Str) [("pourings", x), ("racks", y)] = some y := rfl
theorem lk_tell_steps {x y z : V} : List.lookup ("tell_steps" : Str) [("pourings", x), ("racks", y), ("steps", z)] = none := rfl
def spComingInit (a : Adr) : Sp := fun vs H Q E => ∃ c dx p r0 n, vs = [.ref c, .ref p, .int (n : Nat)] ∧ H c = some (.ins a.cComing dx []) ∧ RackAt H p r0 ∧ Fits n r0 ∧ n ≤ 4 ∧ r0.length ≤ 5 ∧
  (∀ (L : List Sy71.Rack) (H' : Hp), L.Nodup → (∀ r ∈ L, Reach n r0 r) → 300 < L.length → (∀ b o, b ≠ c → H b = some o → H' b = some o) → E (.ref a.cTooMany) none H') ∧
  (∀ (u : CAd) (L : List Sy71.Rack) (k : Nat) (H' : Hp), Que n r0 L L.length → L.length ≤ 300 → more n L (distD n L (zeros L) k) k = [] → (∀ j, j < k → more n L (distD n L (zeros L) j) j ≠ []) → CAt a H' c u n L (distD n L (zeros L) k) → (∀ b o, b ≠ c → H b = some o → H' b = some o) → Q .non H')
abbrev scComingInit_N : List Str := ["self", "rack", "room", "at", "seen", "here", "one", "other", "behind"]
theorem scComingInit : FnScope ["self", "rack", "room", "at", "seen", "here", "one", "other", "behind"] ["self", "rack", "room"] (defScope sComingInit) := ⟨rfl, rfl, rfl, by decide +kernel, rfl, by decide +kernel, by decide +kernel⟩
theorem ok_ComingInit (T : Txt K mg a) : FnOk P w K mg base (L2N.CX P w) 4 a.fComingInit a.dComingInit ["self", "rack", "room"] (spComingInit a) := by
  refine okN T.oComingInit.F scComingInit (fun vs H Q E h => ?_) (fun cdv A outer s H vs Q E hr h => ?_)
  · obtain ⟨_, _, _, _, _, rfl, _⟩ := h
    rfl
  · obtain ⟨c, dx, p, r0, n, rfl, hc, hp, hfit, hn4, hlen5, qe, q⟩ := h
    refine ⟨_, (pss_cons (ps_fld (pv 0) pe_rnew rfl)
      (pss_cons (ps_fld (pv 0) (pe_lst (pa_cons (pv 1) pa_nil)) rfl)
      (pss_cons (ps_set (i := 3) scComingInit.nd rfl (Or.inl rfl) pe_int)
      (pss_cons (ps_set (i := 4) scComingInit.nd rfl (Or.inl rfl) (pe_rdisp (hu2_of hr) (pv 1) pe_bl))
      (pss_cons (ps_while (L2.passes_of rfl) (pt_cmpR op_lt (pv 3) (pe_callB call_len_seq (by rfl) T.bLen PySem.boot_len (pa_cons (pe_fld (pv 0) rfl) pa_nil)) (nomark _)) (pss_cons (ps_set (i := 5) scComingInit.nd rfl (Or.inl rfl) (pe_ix ix_list (pe_fld (pv 0) rfl) (pv 3) (fun _ _ => rfl)))
      (pss_cons (ps_aug (i := 3) scComingInit.nd rfl (Or.inl rfl) pe_int ip_add)
      (pss_cons (ps_rput (hu2_of hr) (pe_fld (pv 0) rfl) (pv 5) (pe_call (ok_AllPourings T) (hr.mono (by decide)) rfl T.oAllPourings.g T.oAllPourings.F.kp T.oAllPourings.b .nil pass0 (pa_cons (pv 5) (pa_cons (pv 2) pa_nil))) rfl)
      (pss_cons (ps_for (L2.passes_of rfl) rfl (pi_list (pe_rget (hu2_of hr) (pe_fld (pv 0) rfl) (pv 5) (fun _ _ => rfl))) (pg_tup (n := 3) rfl (pgs_cons (pg_name (i := 6) scComingInit.nd rfl (Or.inl rfl)) (pgs_cons (pg_name (i := 7) scComingInit.nd rfl (Or.inl rfl)) (pgs_cons (pg_name (i := 8) scComingInit.nd rfl (Or.inl rfl)) pgs_nil)))) (pss_one (ps_if (pt_cmp (pc_rnotin (hu2_of hr) (pv 8) (pv 4)) (by rfl)) (pss_cons (ps_rput (hu2_of hr) (pv 4) (pv 8) pe_bl rfl)
      (pss_one (ps_expr (pe_bm PySem.F.plainAttrs_list PySem.F.slot_list_append PySem.F.type_list_append mt_append (pe_fld (pv 0) rfl) (pa_cons (pv 8) pa_nil))))) pss_nil)))
      (pss_one (ps_if (pt_cmpR op_gt (pe_callB call_len_seq (by rfl) T.bLen PySem.boot_len (pa_cons (pe_fld (pv 0) rfl) pa_nil)) (pe_const T.vMostRacks) (nomark _)) (pss_one (L2N.ps_raise rfl (L2N.takes_of rfl rfl rfl rfl) (pmk_own0N PySem.F.excBase_ValueError T.xTooMany T.gTooMany T.kTooMany (raises_own T.bTooMany T.tTooMany) rfl))) pss_nil)))))))
      (pss_cons (ps_fld (pv 0) pe_rnew rfl)
      (pss_cons (ps_for (L2.passes_of rfl) rfl (pi_list (pe_fld (pv 0) rfl)) (pg_name (i := 6) scComingInit.nd rfl (Or.inl rfl)) (pss_one (ps_if (pt_val (pe_call (ok_IsSorted T) (hr.mono (by decide)) rfl T.oIsSorted.g T.oIsSorted.F.kp T.oIsSorted.b .nil pass0 (pa_cons (pv 6) pa_nil))) (pss_one (ps_rput (hu2_of hr) (pe_fld (pv 0) rfl) (pv 6) pe_int rfl)) pss_nil)))
      (pss_one (ps_expr (pe_meth0 (pv 0) T.clComing T.oComingTellSteps.M (ok_ComingTellSteps T) (hr.mono (by decide)) T.oComingTellSteps.b .nil pass0)))))))))), ?_⟩
    -- self.pourings = {}; self.racks = [rack]; at = 0; seen = {rack: True}
    intro dp hdp
    refine ⟨_, rfl, c, _, dx, [], rfl, same_upd hdp _ _ hc, T.clComing, T.nComingPourings, (by show 0 < 1000; decide), ?_⟩
    have ncdp : c ≠ dp := ne_of_none hc hdp
    generalize e1 : upd (upd H dp (dictO dp [])) c (.ins a.cComing dx (putF "pourings" (.ref dp) [])) = G1
    have g1c : G1 c = some (.ins a.cComing dx [("pourings", .ref dp)]) := by rw [← e1, upd_same]; rfl
    have g1k : ∀ z o, z ≠ c → H z = some o → G1 z = some o := fun z o nz h => by rw [← e1, upd_ne nz]; exact same_upd hdp _ _ h
    have g1d : G1 dp = some (dictO dp []) := by rw [← e1, upd_ne (Ne.symm ncdp), upd_same]
    refine ⟨_, rfl, (by show 1 ≤ sizeLine; decide), fun lr hlr => ⟨_, rfl, c, _, dx, _, rfl, same_upd hlr _ _ g1c, T.clComing, T.nComingRacks, (by show 1 < 1000; decide), ?_⟩⟩
    have nclr : c ≠ lr := ne_of_none g1c hlr
    have ndlr : dp ≠ lr := ne_of_none g1d hlr
    generalize e2 : upd (upd G1 lr (.lst [.ref p])) c (.ins a.cComing dx (putF "racks" (.ref lr) [("pourings", .ref dp)])) = G2
    have g2c : G2 c = some (.ins a.cComing dx [("pourings", .ref dp), ("racks", .ref lr)]) := by rw [← e2, upd_same]; rfl
    have g2k : ∀ z o, z ≠ c → H z = some o → G2 z = some o := fun z o nz h => by rw [← e2, upd_ne nz]; exact same_upd hlr _ _ (g1k z o nz h)
    have g2d : G2 dp = some (dictO dp []) := by rw [← e2, upd_ne (Ne.symm ncdp), upd_ne ndlr]; exact g1d
    have g2l : G2 lr = some (.lst [.ref p]) := by rw [← e2, upd_ne (Ne.symm nclr), upd_same]
    have ntupc : ∀ {z ys}, H z = some (.tup ys) → z ≠ c := fun h => ne_of h hc fun z => nomatch z
    have hp2 : RackAt G2 p r0 := hp.keeps fun z ys h => g2k z _ (ntupc h) h
    intro sn hsn
    refine ⟨_, rfl, p, r0, _, rfl, hp2.same (same_upd hsn), RDict.new, fun G3 hp3 => ?_⟩
    obtain ⟨g3s, g3k⟩ := hp3
    have g3 : ∀ z o, G2 z = some o → G3 z = some o := fun z o h => by
      rw [g3k z (ne_of_none h hsn)]
      exact same_upd hsn _ _ h
    have hlrN : H lr = none := by
      cases e : H lr with
      | none => rfl
      | some o =>
        have := g1k lr o (Ne.symm nclr) e
        rw [hlr] at this
        cases this
    have ncsn : c ≠ sn := ne_of_none g2c hsn
    have hsnN : H sn = none := by
      cases e : H sn with
      | none => rfl
      | some o =>
        have := g2k sn o (Ne.symm ncsn) e
        rw [hsn] at this
        cases this
    -- the walk over the queue
    refine ⟨fun m σ H1 => ∃ (L : List Sy71.Rack) (k : Nat) (as : List Addr) (pv kv : List (Sy71.Rack × V)) (v5 v6 v7 v8 : Option V), σ = [some (.ref c), some (.ref p), some (.int (n : Nat)), some (.int (k : Nat)), some (.ref sn), v5, v6, v7, v8] ∧ m = 301 - k ∧ k ≤ L.length ∧ L.length ≤ 300 ∧
      Que n r0 L k ∧ BAt a H1 c ⟨dx, lr, dp, sn⟩ n L k as pv kv ∧ (∀ b o, b ≠ c → H b = some o → H1 b = some o),
      ⟨_, [r0], 0, [p], [], putK [] r0 (.bl true), none, none, none, none, rfl, rfl, Nat.zero_le _, by simp, ?_, ?_, fun b o nb h => g3 _ _ (g2k b o nb h)⟩, ?_⟩
    · refine ⟨by simp, List.mem_cons_self, fun r hr => ?_, fun j r hj => absurd hj (Nat.not_lt_zero _), fun r hr => ?_⟩
      · rw [List.mem_singleton.mp hr]
        exact .refl
      · rw [List.mem_singleton.mp hr]
        exact ⟨hfit, rfl⟩
    · refine ⟨g3 _ _ g2c, g3 _ _ g2l, .cons (hp2.keeps fun z ys h => g3 _ _ h) .nil, ⟨[], g3 _ _ g2d, rfl, (fun _ z => nomatch z), List.nodup_nil⟩, fun j r hj => absurd hj (Nat.not_lt_zero _), fun r hr => by simp [valV] at hr, g3s, fun r => ?_, ne_of_none g2d hsn⟩
      rw [valV_put]
      by_cases e : r = r0
      · rw [if_pos e, e]; simp
      · rw [if_neg e]; simp [e, valV]
    rintro m σ H1 ⟨L, k, as, pv, kv, v5, v6, v7, v8, rfl, rfl, hkl, hl300, hQ, hB, keep⟩
    have hasl := paired_len hB.rks
    refine ⟨_, rfl, _, rfl, c, _, _, _, _, rfl, hB.ins, T.clComing, T.nComingRacks, lk_b2, lr, _, rfl, Or.inl (SqL.of hB.lst), _, _, rfl, rfl, _, rfl, ?_⟩
    rw [List.length_map, hasl]
    by_cases hk : k < L.length
    · refine if_pos_of (decide_eq_true (by omega)) ?_
      have hkL : L[k]? = some L[k] := List.getElem?_eq_getElem hk
      generalize L[k] = r at hkL
      obtain ⟨b, hb, hrb⟩ := paired_get hB.rks hkL
      have hrL := List.mem_of_getElem? hkL
      have hfr := hQ.fits r hrL
      have hf4 : Fits 4 r := fun l hl => Nat.le_trans (hfr.1 l hl) hn4
      have hr5 : r.length ≤ 5 := by rw [hfr.2]; exact hlen5
      refine ⟨_, fun σ' H' z => ⟨301 - (k + 1), by omega, z⟩, ?_⟩
      refine ⟨_, rfl, c, _, _, _, _, rfl, hB.ins, T.clComing, T.nComingRacks, lk_b2, _, rfl, lr, _, _, _, rfl, rfl, SqL.of hB.lst, atI_nat (j := k) (by rw [List.getElem?_map, hb]; rfl), ?_⟩
      refine ⟨_, rfl, _, _, rfl, rfl, ?_⟩
      refine ⟨_, rfl, _, rfl, b, r, n, rfl, hrb, hfr.1, hn4, hr5, fun pq H2 s2 hqN hst => ?_⟩
      have hB2 := hB.same s2
      have nqlr : pq ≠ lr := fun e => by
        rw [e, hB.lst] at hqN
        cases hqN
      have hpl : pv.length ≤ L.length := hB2.prs.length_le hB2.psub
      refine ⟨_, rfl, c, _, _, _, _, rfl, hB2.ins, T.clComing, T.nComingPourings, lk_b1, _, rfl, dp, pv, b, r, rfl, hB2.prs, rfl, hrb.same s2, by rw [sizeLine_eq]; omega, fun H3 hp3 => ?_⟩
      obtain ⟨hB3, hst3⟩ := hB2.told hkL nqlr hst hp3
      obtain ⟨xs3, hx3⟩ := hB2.prs.at
      have hdpN : H dp = none := hdp
      have keep3 : ∀ z o, z ≠ c → H z = some o → H3 z = some o := fun z o nz h => by
        rw [hp3.2 z (ne_of_none h hdpN)]
        exact s2 _ _ (keep z o nz h)
      have hrb3 : RackAt H3 b r := by
        refine (hrb.same s2).keeps fun z ys h => ?_
        rw [hp3.2 z (ne_of h hx3 dictO_tup)]
        exact h
      obtain ⟨bs, hbs, pbs⟩ := id hst3
      have hfew := few_pourings (n := n) hr5
      have hbl := paired_len pbs
      refine ⟨_, rfl, c, _, _, _, _, rfl, hB3.ins, T.clComing, T.nComingPourings, lk_b1, _, rfl, dp, _, b, r, .ref pq, rfl, hB3.prs, rfl, hrb3, by rw [valV_put, if_pos rfl], pq, rfl, ⟨_, SqL.of hbs⟩, ?_⟩
      refine for_list (xs := bs.map V.ref) (fun i σ H4 => ∃ (L' : List Sy71.Rack) (as' : List Addr) (kv' : List (Sy71.Rack × V)) (v6 v7 v8 : Option V), σ = [some (.ref c), some (.ref p), some (.int (n : Nat)), some (.int ((k + 1 : Nat) : Nat)), some (.ref sn), some (.ref b), v6, v7, v8] ∧
        Que n r0 L' k ∧ L'[k]? = some r ∧ L'.length ≤ L.length + i ∧ (∀ x ∈ (pourings n r).take i, x.2.2 ∈ L') ∧ BAt a H4 c ⟨dx, lr, dp, sn⟩ n L' (k + 1) as' (putK pv r (.ref pq)) kv' ∧ H4 pq = some (.lst (bs.map V.ref)) ∧ Paired (StepAt H4) bs (pourings n r) ∧ (∀ b o, b ≠ c → H b = some o → H4 b = some o))
        ⟨L, as, kv, v6, v7, v8, rfl, hQ, hkL, Nat.le_refl _, (fun x hx => by simp at hx), hB3, hbs, pbs, keep3⟩ (fun i σ H4 hi z => ?_) ?_ ?_
      · obtain ⟨L', as', kv', v6, v7, v8, _, _, _, _, _, _, h1, _⟩ := z
        exact SqL.of h1
      · rintro i y σ H4 hi ⟨L', as', kv', v6, v7, v8, rfl, hQ', hkL', hlL', hin', hB', hbs', pbs', keep'⟩
        obtain ⟨t, ht, rfl⟩ := refs_get hi
        have hib : i < bs.length := (List.getElem?_eq_some_iff.mp ht).1
        obtain ⟨x, hx, e, he1, he2⟩ := paired_ix pbs' ht
        have hxm := List.mem_of_getElem? hx
        have hkl' : k ≤ L'.length := Nat.le_of_lt (List.getElem?_eq_some_iff.mp hkL').1
        have hkl2 : k + 1 ≤ L'.length := (List.getElem?_eq_some_iff.mp hkL').1
        have hQ2 := hQ'.add hkl' (List.mem_of_getElem? hkL') hxm
        have hin2 : ∀ x' ∈ (pourings n r).take (i + 1), x'.2.2 ∈ addU L' x.2.2 := fun x' hx' => by
          rw [List.take_add_one, hx, List.mem_append] at hx'
          rcases hx' with hx' | hx'
          · exact addU_mem.mpr (.inl (hin' x' hx'))
          · have e' : x' = x := by simpa using hx'
            rw [e']
            exact addU_mem.mpr (.inr rfl)
        have hkv : kv'.length ≤ L'.length := hB'.sen.length_le fun q hq => by
          rw [hB'.sok q] at hq
          exact List.contains_iff_mem.mp hq
        refine ⟨t, _, rfl, SqT.of he1, rfl, _, _, rfl, _, _, rfl, _, _, rfl, rfl, ?_⟩
        refine ⟨_, rfl, _, rfl, sn, kv', e, x.2.2, rfl, hB'.sen, rfl, he2, _, rfl, ?_⟩
        rw [hB'.sok]
        cases hcon : L'.contains x.2.2 with
        | true =>
          refine if_neg_of rfl ?_
          have eL : addU L' x.2.2 = L' := by unfold addU; rw [if_pos hcon]
          rw [eL] at hQ2 hin2
          exact ⟨L', as', kv', _, _, _, rfl, hQ2, hkL', by omega, hin2, hB', hbs', pbs', keep'⟩
        | false =>
          refine if_pos_of rfl ?_
          refine ⟨_, rfl, _, rfl, sn, kv', e, x.2.2, rfl, hB'.sen, rfl, he2, by rw [sizeLine_eq]; omega, fun H5 hp5 => ?_⟩
          obtain ⟨m1, m2, m3, m4⟩ := hB'.more hkl2 he2 hcon hp5
          have i5 : H5 c = some (.ins a.cComing dx [("pourings", .ref dp), ("racks", .ref lr)]) := by rw [hp5.2 c ncsn]; exact hB'.ins
          have hasl' := paired_len hB'.rks
          refine ⟨_, rfl, c, _, _, _, _, rfl, i5, T.clComing, T.nComingRacks, lk_b2, .inl ⟨rfl, _, SqL.of m1⟩, _, rfl, lr, _, _, rfl, rfl, m1, by rw [List.length_map, hasl', sizeLine_eq]; omega, ?_⟩
          have eL : addU L' x.2.2 = L' ++ [x.2.2] := by unfold addU; rw [if_neg (by rw [hcon]; exact Bool.false_ne_true)]
          have nsnT : ∀ {z ys}, H4 z = some (.tup ys) → z ≠ sn ∧ z ≠ lr := fun {z ys} h => by
            obtain ⟨xs, hx⟩ := hB'.sen.at
            exact ⟨ne_of h hx dictO_tup, ne_of h hB'.lst fun z => nomatch z⟩
          refine ⟨addU L' x.2.2, _, _, _, _, _, rfl, hQ2, addU_get hkL', by rw [eL, List.length_append, List.length_singleton]; omega, hin2, m3, ?_, ?_, fun z o nz h => ?_⟩
          · obtain ⟨xs, hx⟩ := hB'.sen.at
            exact m4 pq _ (ne_of hbs' hx fun z => by unfold dictO at z; cases z) nqlr hbs'
          · exact paired_imp pbs' fun _ _ z => z.keeps fun z ys h => m4 z _ (nsnT h).1 (nsnT h).2 h
          · exact m4 z o (ne_of_none h hsnN) (ne_of_none h hlrN) (keep' z o nz h)
      · rintro σ H4 ⟨L', as', kv', v6, v7, v8, rfl, hQ', hkL', hlL', hin', hB', hbs', pbs', keep'⟩
        rw [List.length_map, hbl, List.take_length] at hin'
        rw [List.length_map, hbl] at hlL'
        have hasl' := paired_len hB'.rks
        refine ⟨_, rfl, c, _, _, _, _, rfl, hB'.ins, T.clComing, T.nComingRacks, lk_b2, lr, _, rfl, Or.inl (SqL.of hB'.lst), _, _, rfl, rfl, _, rfl, ?_⟩
        rw [List.length_map, hasl']
        by_cases hmany : 300 < L'.length
        · refine if_pos_of (decide_eq_true (by omega)) ?_
          exact qe L' H4 hQ'.nd hQ'.reach hmany keep'
        · refine if_neg_of (decide_eq_false (by omega)) ?_
          refine ⟨L', k + 1, as', _, kv', _, _, _, _, rfl, rfl, (List.getElem?_eq_some_iff.mp hkL').1, by omega, ?_, hB', keep'⟩
          refine ⟨hQ'.nd, hQ'.first, hQ'.reach, fun j r' hj hr' => ?_, hQ'.fits⟩
          by_cases e : j = k
          · rw [e, hkL'] at hr'
            cases hr'
            exact hin'
          · exact hQ'.closed j r' (by omega) hr'
    · refine if_neg_of (decide_eq_false (by omega)) ?_
      obtain rfl : k = L.length := by omega
      intro ds hds
      refine ⟨_, rfl, c, _, dx, _, rfl, same_upd hds _ _ hB.ins, T.clComing, T.nComingSteps, (by show 2 < 1000; decide), ?_⟩
      have ncds : c ≠ ds := ne_of_none hB.ins hds
      generalize e5 : upd (upd H1 ds (dictO ds [])) c (.ins a.cComing dx (putF "steps" (.ref ds) [("pourings", .ref dp), ("racks", .ref lr)])) = G5
      have g5c : G5 c = some (.ins a.cComing dx [("pourings", .ref dp), ("racks", .ref lr), ("steps", .ref ds)]) := by rw [← e5, upd_same]; rfl
      have g5k : ∀ z o, z ≠ c → H1 z = some o → G5 z = some o := fun z o nz h => by rw [← e5, upd_ne nz]; exact same_upd hds _ _ h
      have g5d : G5 ds = some (dictO ds []) := by rw [← e5, upd_ne (Ne.symm ncds), upd_same]
      have g5t : ∀ z ys, H1 z = some (.tup ys) → G5 z = some (.tup ys) := fun z ys h => g5k z _ (ne_of h hB.ins fun z => nomatch z) h
      have hdsN : H ds = none := by
        cases e : H ds with
        | none => rfl
        | some o =>
          have := keep ds o (Ne.symm ncds) e
          rw [hds] at this
          cases this
      obtain ⟨xd, hxd⟩ := hB.prs.at
      have hC5 : CAt a G5 c ⟨dx, dp, lr, ds, as⟩ n L (zeros []) := by
        refine ⟨g5c, g5k _ _ (ne_of hB.lst hB.ins fun z => nomatch z) hB.lst, paired_imp hB.rks fun _ _ z => z.keeps g5t, ⟨pv, hB.prs.keeps g5t fun o e => g5k dp o (ne_of hxd hB.ins fun z => by unfold dictO at z; cases z) e, fun r hr => ?_⟩, ⟨[], ⟨[], g5d, rfl, (fun _ z => nomatch z), List.nodup_nil⟩, fun r => ?_⟩, fun r hr => ?_, ne_of_none hxd hds⟩
        · obtain ⟨j, hj⟩ := List.mem_iff_getElem?.mp hr
          obtain ⟨t, e, _, z⟩ := hB.pok j r (List.getElem?_eq_some_iff.mp hj).1 hj
          exact ⟨t, e, z.keeps g5t fun ys h => g5k t _ (ne_of h hB.ins fun z => nomatch z) h⟩
        · unfold zeros
          rw [if_neg (by simp)]
          rfl
        · unfold zeros at hr
          rw [if_neg (by simp)] at hr
          cases hr
      have keep5 : ∀ z o, z ≠ c → H z = some o → G5 z = some o := fun z o nz h => g5k z o nz (keep z o nz h)
      have hsmall : Small L := fun r hr => by
        obtain ⟨f1, f2⟩ := hQ.fits r hr
        exact ⟨fun l hl => Nat.le_trans (f1 l hl) hn4, by rw [f2]; exact hlen5⟩
      refine ⟨_, rfl, c, _, _, _, _, rfl, hC5.ins, T.clComing, T.nComingRacks, lk_racks, lr, rfl, ⟨_, SqL.of hC5.lst⟩, ?_⟩
      refine for_list (xs := as.map V.ref) (fun i σ H2 => ∃ v6' : Option V, σ = [some (.ref c), some (.ref p), some (.int (n : Nat)), some (.int (L.length : Nat)), some (.ref sn), v5, v6', v7, v8] ∧ CAt a H2 c ⟨dx, dp, lr, ds, as⟩ n L (zeros (L.take i)) ∧ (∀ b o, b ≠ c → H b = some o → H2 b = some o))
        ⟨v6, rfl, by rw [List.take_zero]; exact hC5, keep5⟩ (fun i σ H2 _ ⟨_, _, h, _⟩ => SqL.of h.lst) ?_ ?_
      · rintro i y σ H2 hi ⟨v6', rfl, hC, keep2⟩
        obtain ⟨b, hb, rfl⟩ := refs_get hi
        obtain ⟨r, hr, hrb⟩ := paired_ix hC.rks hb
        have hrL := List.mem_of_getElem? hr
        refine ⟨_, rfl, b, r, rfl, hrb, (hsmall r hrL).1, (hsmall r hrL).2, fun H3 s3 => ⟨_, rfl, ?_⟩⟩
        have hC3 := hC.same s3
        cases hso : Sy71.sorted r with
        | true =>
          refine if_pos_of rfl ?_
          obtain ⟨sv, hsv, hD⟩ := hC3.sts
          have hsl : sv.length ≤ L.length := hsv.length_le fun q hq => hC3.sub q (by rw [hD q, Option.isSome_map] at hq; exact hq)
          refine ⟨_, rfl, c, _, _, _, _, rfl, hC3.ins, T.clComing, T.nComingSteps, lk_steps, _, rfl, ds, sv, b, r, rfl, hsv, rfl, hrb.same s3, by rw [sizeLine_eq]; omega, fun H4 hp => ?_⟩
          have hC4 := hC3.put (k := 0) hsv hD hp hrL
          refine ⟨_, rfl, ?_, fun z o nz h => by rw [hp.2 z (ne_of_none h hdsN)]; exact s3 _ _ (keep2 z o nz h)⟩
          have e : (fun x => if x = r then some 0 else zeros (L.take i) x) = zeros (L.take (i + 1)) := by
            funext x
            unfold zeros
            rw [List.take_add_one, hr]
            by_cases e1 : x = r
            · rw [if_pos e1, if_pos (by rw [e1]; exact ⟨by simp, hso⟩)]
            · rw [if_neg e1]
              have e2 : (L.take i ++ (some r).toList).contains x = (L.take i).contains x := by simp [e1]
              rw [e2]
          rw [← e]
          exact hC4
        | false =>
          refine if_neg_of rfl ?_
          refine ⟨_, rfl, ?_, fun z o nz h => s3 _ _ (keep2 z o nz h)⟩
          have e : zeros (L.take (i + 1)) = zeros (L.take i) := by
            funext x
            unfold zeros
            rw [List.take_add_one, hr]
            by_cases e1 : x = r
            · rw [if_neg (by rw [e1, hso]; simp), if_neg (by rw [e1, hso]; simp)]
            · have e2 : (L.take i ++ (some r).toList).contains x = (L.take i).contains x := by simp [e1]
              rw [e2]
          rw [e]
          exact hC3
      · rintro σ H2 ⟨v6', rfl, hC, keep2⟩
        rw [List.length_map, hasl, List.take_length] at hC
        refine ⟨_, rfl, c, _, _, rfl, hC.ins, lk_tell_steps, c, _, n, L, zeros L, rfl, hC, hsmall, by omega, fun k H3 hm hne hC3 keep3 => ?_⟩
        exact q _ L k H3 hQ hl300 hm hne hC3 fun z o nz h => keep3 z o (ne_of_none h hdsN) (keep2 z o nz h)
end
end Td

/-! keeper.py: the refusal, the small defs, the keeper's own. -/
namespace Td
open PySem PySem.Spec PyProof.Rows L2

theorem call_len_seqK {X : Cx} (K : PySem.W.Frag) (h : X.K = K) : CallR X (.builtin "len") (rLenR K) := by subst h; exact call_len_seq
/-- a refusal by a number: an error of the class whose own dict (new) holds it -/
def Refuses (a : Adr) (E : XK) (z : Int) (H : Hp) : Prop := ∀ d H', Same H H' → H' d = some (.xd [(("answer" : Str), .int z)]) → E (.ref a.cRefused) (some d) H'
theorem Refuses.same {a : Adr} {E : XK} {z : Int} {H H' : Hp} (h : Refuses a E z H) (s : Same H H') : Refuses a E z H' := fun d H2 s2 e => h d H2 (s.trans s2) e
section
variable {P : Program} {w : World} {K : PySem.W.Frag} {mg : Str → Option Value} {base : Heap} {a : Adr}
/-! ### Refused.__init__ -/
def spRefusedInit (a : Adr) : Sp := fun vs H Q _ => ∃ (e : Addr) (v : V), vs = [.ref e, v] ∧ H e = some (exo e a.cRefused none) ∧ ∀ dx, H dx = none → dx ≠ e → Q .non (upd (upd H dx (exd dx [(("answer" : Str), v)])) e (exo e a.cRefused (some dx)))
abbrev scRefusedInit_N : List Str := ["self", "answer"]
theorem scRefusedInit : FnScope ["self", "answer"] ["self", "answer"] (defScope sRefusedInit) := ⟨rfl, rfl, rfl, by decide +kernel, rfl, by decide +kernel, by decide +kernel⟩
theorem ok_RefusedInit (T : Txt K mg a) : FnOk P w K mg base CX0 1 a.fRefusedInit a.dRefusedInit ["self", "answer"] (spRefusedInit a) := by
  refine T.oRefusedInit.ok scRefusedInit (fun vs H Q E h => ?_) (fun cdv A outer s H vs Q E hr h => ?_)
  · obtain ⟨_, _, rfl, _⟩ := h
    rfl
  · obtain ⟨e, v, rfl, he, q⟩ := h
    refine ⟨_, pss_one (ps_ost (pv 0) (pv 1)), ?_⟩
    exact ⟨_, rfl, _, rfl, e, _, rfl, T.oexRefused, T.naRefused, .inl ⟨he, fun dx h1 h2 => q dx h1 h2⟩⟩
theorem hot_RefusedInit (T : Txt K mg a) : L2H.FnH P w K mg base CX0 1 a.fRefusedInit a.dRefusedInit ["self", "answer"] (spRefusedInit a) := by
  obtain ⟨oc, od, kV, doc, pm, an, cdv, ct, osl, e, lk, hcd⟩ := T.oRefusedInit.ex
  rw [e] at lk ⊢
  refine L2H.fn_ofH lk hcd scRefusedInit (fun vs H Q E h => ?_) (fun A outer s H vs Q E p hp hr h => ?_)
  · obtain ⟨_, _, rfl, _⟩ := h
    rfl
  · obtain ⟨e, v, rfl, he, q⟩ := h
    refine ⟨_, pss_one (ps_ost (pv 0) (pv 1)), ?_⟩
    exact ⟨_, rfl, _, rfl, e, _, rfl, T.oexRefused, T.naRefused, .inl ⟨he, fun dx h1 h2 => q dx h1 h2⟩⟩
/-- what a new refusal leaves -/
theorem refused_end {H : Hp} {e d : Addr} {C : Addr} {v : V} (he : H e = none) (hd : (upd H e (exo e C none)) d = none) (hde : d ≠ e) :
    Same H (upd (del (upd (upd (upd H e (exo e C none)) d (exd d [(("answer" : Str), v)])) e (exo e C (some d))) e) d (.xd [(("answer" : Str), v)])) := fun b o h => by
  have n1 : b ≠ e := ne_of_none h he
  have n2 : b ≠ d := fun z => by
    rw [z] at h
    rw [upd_ne hde, h] at hd
    cases hd
  rw [upd_ne n2, del_ne n1, upd_ne n1, upd_ne n2, upd_ne n1]
  exact h
/-! ### need -/
def spNeed (a : Adr) : Sp := fun vs H Q E => ∃ (t : Bool) (z : Int), vs = [.bl t, .int z] ∧ (t = true → Q .non H) ∧ (t = false → Refuses a E z H)
abbrev scNeed_N : List Str := ["truth", "answer"]
theorem scNeed : FnScope ["truth", "answer"] ["truth", "answer"] (defScope sNeed) := ⟨rfl, rfl, rfl, by decide +kernel, rfl, by decide +kernel, by decide +kernel⟩
theorem ok_Need (T : Txt K mg a) : FnOk P w K mg base (L2.CX P w) 3 a.fNeed a.dNeed ["truth", "answer"] (spNeed a) := by
  refine T.oNeed.F.okX scNeed (fun vs H Q E h => ?_) (fun cdv A outer s H vs Q E hr h => ?_)
  · obtain ⟨_, _, rfl, _⟩ := h
    rfl
  · obtain ⟨t, z, rfl, q1, q2⟩ := h
    refine ⟨_, (pss_one (ps_if (pt_not (pt_val (pv 0))) (pss_one (L2.ps_raise rfl (L2.takes_of rfl rfl rfl rfl) (pmk_oex T.oexRefused T.iRefused T.tRefused (ok_RefusedInit T) (hr.mono (by decide)) T.bRefusedInit .nil pass0 rfl T.gRefused (pa_cons (pv 1) pa_nil)))) pss_nil)), ?_⟩
    refine ⟨_, rfl, _, rfl, ?_⟩
    cases t with
    | true => exact if_neg_of rfl (q1 rfl)
    | false =>
      refine if_pos_of rfl ?_
      refine ⟨_, rfl, (by show 1 ≤ 1000; decide), fun e he => ⟨e, _, rfl, upd_same, fun dx h1 h2 => ⟨rfl, dx, [("answer", .int z)], upd_same, ?_, ?_, ?_⟩⟩⟩
      · rw [upd_ne h2, upd_same]
      · rw [upd_ne h2] at h1
        exact h1
      · exact q2 rfl dx _ (refused_end he h1 h2) upd_same

/-! ### listed -/
def spListed : Sp := fun vs H Q _ => ∃ p xs, vs = [.ref p] ∧ (H p = some (.lst xs) ∨ H p = some (.tup xs)) ∧ xs.length ≤ 1000000 ∧ ∀ e H', Same H H' → H' e = some (.lst (.int (xs.length : Nat) :: xs)) → Q (.ref e) H'
abbrev scListed_N : List Str := ["row"]
theorem scListed : FnScope ["row"] ["row"] (defScope sListed) := ⟨rfl, rfl, rfl, by decide +kernel, rfl, by decide +kernel, by decide +kernel⟩
theorem ok_Listed (T : Txt K mg a) : FnOk P w K mg base CX0 1 a.fListed a.dListed ["row"] spListed := by
  refine T.oListed.F.ok scListed (fun vs H Q E h => ?_) (fun cdv A outer s H vs Q E hr h => ?_)
  · obtain ⟨_, _, rfl, _⟩ := h
    rfl
  · obtain ⟨p, xs, rfl, hp, hl, q⟩ := h
    refine ⟨_, (pss_one (ps_ret (pe_op op_cat (pe_lst (pa_cons (pe_callB call_len_seq (by rfl) T.bLen PySem.boot_len (pa_cons (pv 0) pa_nil)) pa_nil)) (pe_callTy call_list_of (by rfl) T.bList (by decide +kernel) (pa_cons (pv 0) pa_nil))))), ?_⟩
    have sq : ∀ H', Same H H' → SqL K H' p xs ∨ SqT K H' p xs := fun H' sm => hp.elim (fun h => .inl (SqL.of (sm _ _ h))) fun h => .inr (SqT.of (sm _ _ h))
    refine ⟨_, rfl, p, xs, rfl, sq H (Same.refl H), (by show 1 ≤ sizeLine; decide), fun e1 h1 => ?_⟩
    have s1 := same_upd (o := .lst [.int (xs.length : Nat)]) h1
    refine ⟨_, rfl, p, xs, rfl, sq _ s1, fun e2 h2 => ?_⟩
    have s2 := same_upd (o := .lst xs) h2
    refine ⟨e1, e2, _, _, rfl, rfl, s2 _ _ upd_same, upd_same, ?_, fun e3 h3 => ?_⟩
    · rw [sizeLine_eq]
      show 1 + xs.length ≤ _
      omega
    · exact q e3 _ ((s1.trans s2).trans (same_upd h3)) upd_same
/-! ### the keeper -/
/-- a keeper on the heap -/
structure KAt (a : Adr) (H : Hp) (k : Addr) (dx r : Addr) (s : Sy71.St) : Prop where
  ins : H k = some (.ins a.cKeeper dx [("room", .int (s.holds : Nat)), ("rack", .ref r), ("count", .int (s.done : Nat))])
  rack : RackAt H r s.rack
def KeeperAt (a : Adr) (H : Hp) (k : Addr) (s : Sy71.St) : Prop := ∃ dx r, KAt a H k dx r s
theorem KAt.same {H H' : Hp} {k dx r : Addr} {s : Sy71.St} (h : KAt a H k dx r s) (sm : Same H H') : KAt a H' k dx r s := ⟨sm _ _ h.ins, h.rack.same sm⟩
theorem KeeperAt.same {H H' : Hp} {k : Addr} {s : Sy71.St} (h : KeeperAt a H k s) (sm : Same H H') : KeeperAt a H' k s := let ⟨dx, r, h⟩ := h; ⟨dx, r, h.same sm⟩
/-- a state as the program keeps it -/
structure Fine (s : Sy71.St) : Prop where
  h1 : 1 ≤ s.holds
  h4 : s.holds ≤ 4
  t2 : 2 ≤ s.rack.length
  t5 : s.rack.length ≤ 5
  fits : Fits s.holds s.rack
theorem Fine.fits4 {s : Sy71.St} (f : Fine s) : Fits 4 s.rack := fun l hl => Nat.le_trans (f.fits l hl) f.h4
theorem lk_room {x y z : V} : List.lookup ("room" : Str) [("room", x), ("rack", y), ("count", z)] = some x := rfl
theorem lk_rack {x y z : V} : List.lookup ("rack" : Str) [("room", x), ("rack", y), ("count", z)] = some y := rfl
theorem lk_count {x y z : V} : List.lookup ("count" : Str) [("room", x), ("rack", y), ("count", z)] = some z := rfl
theorem flat_rep (e : Addr) : ∀ t : Nat, (List.replicate t [V.ref e]).flatten = (List.replicate t e).map V.ref
  | 0 => rfl
  | t + 1 => by
    rw [List.replicate_succ, List.replicate_succ, List.flatten_cons, List.map_cons, flat_rep e t]
    rfl
theorem paired_replicate {α β : Type} {F : α → β → Prop} {x : α} {y : β} (h : F x y) : ∀ n, Paired F (List.replicate n x) (List.replicate n y)
  | 0 => .nil
  | n + 1 => .cons h (paired_replicate h n)
def spKeeperInit (a : Adr) : Sp := fun vs H Q _ => ∃ (k dx : Addr) (r t : Nat), vs = [.ref k, .int (r : Nat), .int (t : Nat)] ∧ H k = some (.ins a.cKeeper dx []) ∧ 2 ≤ t ∧ t ≤ 5 ∧
  ∀ H', KeeperAt a H' k ⟨r, List.replicate t [], 0⟩ → (∀ b o, b ≠ k → H b = some o → H' b = some o) → Q .non H'
abbrev scKeeperInit_N : List Str := ["self", "room", "tubes"]
theorem scKeeperInit : FnScope ["self", "room", "tubes"] ["self", "room", "tubes"] (defScope sKeeperInit) := ⟨rfl, rfl, rfl, by decide +kernel, rfl, by decide +kernel, by decide +kernel⟩
theorem ok_KeeperInit (T : Txt K mg a) : FnOk P w K mg base CX0 1 a.fKeeperInit a.dKeeperInit ["self", "room", "tubes"] (spKeeperInit a) := by
  refine T.oKeeperInit.F.ok scKeeperInit (fun vs H Q E h => ?_) (fun cdv A outer s H vs Q E hr h => ?_)
  · obtain ⟨_, _, _, _, rfl, _⟩ := h
    rfl
  · obtain ⟨k, dx, r, t, rfl, hk, ht2, ht5, q⟩ := h
    refine ⟨_, (pss_cons (ps_fld (pv 0) (pv 1) rfl)
      (pss_cons (ps_fld (pv 0) (pe_op op_repT (pe_tup (pa_cons (pe_tup pa_nil) pa_nil)) (pv 2)) rfl)
      (pss_one (ps_fld (pv 0) pe_int rfl)))), ?_⟩
    refine ⟨_, rfl, _, rfl, k, _, dx, [], rfl, hk, T.clKeeper, T.nKeeperRoom, (by show 0 < 1000; decide), ?_⟩
    generalize e1 : upd H k (.ins a.cKeeper dx (putF "room" (.int (r : Nat)) [])) = G1
    have g1 : G1 k = some (.ins a.cKeeper dx [("room", .int (r : Nat))]) := by rw [← e1, upd_same]; rfl
    have k1 : ∀ b o, b ≠ k → H b = some o → G1 b = some o := fun b o nb h => by rw [← e1, upd_ne nb]; exact h
    refine ⟨zero_le_line, fun e he => ?_⟩
    have s2 := same_upd (o := .tup []) he
    refine ⟨(by show 1 ≤ sizeLine; decide), fun f hf => ?_⟩
    have s3 := same_upd (o := .tup [.ref e]) hf
    refine ⟨_, rfl, f, _, [.ref e], rfl, rfl, SqT.of upd_same, (by simp), by omega, by omega, (by show 1 ≤ 1000; decide), fun g hg => ?_⟩
    have s4 := same_upd (o := .tup (List.replicate ((t : Nat) : Int).toNat [.ref e]).flatten) hg
    have s14 := (s2.trans s3).trans s4
    refine ⟨_, rfl, k, _, dx, _, rfl, s14 _ _ g1, T.clKeeper, T.nKeeperRack, (by show 1 < 1000; decide), ?_⟩
    refine ⟨_, rfl, k, _, dx, _, rfl, upd_same, T.clKeeper, T.nKeeperCount, (by show 2 < 1000; decide), ?_⟩
    have ngk : g ≠ k := fun z => by
      rw [z] at hg
      have := (s2.trans s3) _ _ g1
      rw [hg] at this
      cases this
    have nek : e ≠ k := fun z => by
      rw [z, g1] at he
      cases he
    rw [upd_upd]
    refine q _ ⟨dx, g, upd_same, List.replicate t e, ?_, ?_⟩ fun b o nb h => ?_
    · rw [upd_ne ngk, upd_same]
      congr 2
      rw [Int.toNat_natCast]
      exact flat_rep e t
    · refine paired_replicate ?_ t
      show upd _ k _ e = _
      rw [upd_ne nek]
      exact s4 _ _ (s3 _ _ upd_same)
    · rw [upd_ne nb]
      exact s14 _ _ (k1 b o nb h)

/-! ### begun -/
def spBegun (a : Adr) : Sp := fun vs H Q E => ∃ (r t : Nat), vs = [.int (r : Nat), .int (t : Nat)] ∧ ((r < 1 ∨ 4 < r ∨ t < 2 ∨ 5 < t) → Refuses a E (-1) H) ∧
  (¬ (r < 1 ∨ 4 < r ∨ t < 2 ∨ 5 < t) → ∀ k H', Same H H' → KeeperAt a H' k ⟨r, List.replicate t [], 0⟩ → Q (.ref k) H')
abbrev scBegun_N : List Str := ["room", "tubes"]
theorem scBegun : FnScope ["room", "tubes"] ["room", "tubes"] (defScope sBegun) := ⟨rfl, rfl, rfl, by decide +kernel, rfl, by decide +kernel, by decide +kernel⟩
theorem ok_Begun (T : Txt K mg a) : FnOk P w K mg base (L2.CX P w) 4 a.fBegun a.dBegun ["room", "tubes"] (spBegun a) := by
  refine T.oBegun.F.okX scBegun (fun vs H Q E h => ?_) (fun cdv A outer s H vs Q E hr h => ?_)
  · obtain ⟨_, _, rfl, _⟩ := h
    rfl
  · obtain ⟨r, t, rfl, qb, q⟩ := h
    refine ⟨_, (pss_cons (ps_expr (pe_call (ok_Need T) (hr.mono (by decide)) rfl T.oNeed.g T.oNeed.F.kp T.oNeed.b .nil (passes_call (takes_of rfl rfl rfl rfl) (fun _ _ _ _ h => h)) (pa_cons (pe_and (pe_cmpR op_le pe_int (pv 0) (nomark _)) (pe_and (pe_cmpR op_le (pv 0) (pe_const T.vMostRoom) (nomark _)) (pe_and (pe_cmpR op_le (pe_const T.vLeastTubes) (pv 1) (nomark _)) (pe_one (pe_cmpR op_le (pv 1) (pe_const T.vMostTubes) (nomark _)))))) (pa_cons (pe_const T.vNotSo) pa_nil))))
      (pss_one (ps_ret (pe_make T.oKeeperInit.M (ok_KeeperInit T) (hr.mono (by decide)) rfl T.gKeeper T.oKeeperInit.b .nil pass0 (pa_cons (pv 0) (pa_cons (pv 1) pa_nil)))))), ?_⟩
    -- behind the test
    have fin : ∀ b : Bool, b = !decide (r < 1 ∨ 4 < r ∨ t < 2 ∨ 5 < t) → spNeed a [.bl b, .int (-1)] H
        (fun _ H1 => (tRet (tMake a.cKeeper (spKeeperInit a) [] E0 (tCons (tVar 0) (tCons (tVar 1) tNil)))) { nx := fun _ H' => Q .non H', rt := Q } (L2.start ["room", "tubes"] [.int (r : Nat), .int (t : Nat)]) H1) E := fun b hb => by
      refine ⟨b, -1, rfl, fun e => ?_, fun e => ?_⟩
      · have h : ¬ (r < 1 ∨ 4 < r ∨ t < 2 ∨ 5 < t) := by
          rw [e] at hb
          intro z
          rw [decide_eq_true z] at hb
          cases hb
        refine ⟨_, rfl, _, rfl, fun k dx hk hd hdk => ⟨k, dx, r, t, rfl, upd_same, by omega, by omega, fun H' hK keep => ⟨rfl, q h k H' (fun b o hb => ?_) hK⟩⟩⟩
        refine keep b o (ne_of_none hb hk) ?_
        rw [upd_ne (ne_of_none hb hk), upd_ne (ne_of_none hb hd)]
        exact hb
      · refine qb ?_
        rw [e] at hb
        by_cases h : r < 1 ∨ 4 < r ∨ t < 2 ∨ 5 < t
        · exact h
        · rw [decide_eq_false h] at hb
          cases hb
    refine ⟨_, rfl, _, _, rfl, rfl, _, rfl, ?_⟩
    by_cases c1 : 1 ≤ r
    · refine if_pos_of (decide_eq_true (by omega)) ?_
      refine ⟨_, rfl, _, _, rfl, rfl, _, rfl, ?_⟩
      by_cases c2 : r ≤ 4
      · refine if_pos_of (decide_eq_true (by omega)) ?_
        refine ⟨_, rfl, _, _, rfl, rfl, _, rfl, ?_⟩
        by_cases c3 : 2 ≤ t
        · refine if_pos_of (decide_eq_true (by omega)) ?_
          refine ⟨_, rfl, _, _, rfl, rfl, ?_⟩
          by_cases c4 : t ≤ 5
          · exact fin _ (by rw [decide_eq_true (show ((t : Nat) : Int) ≤ 5 by omega), decide_eq_false (by omega)]; rfl)
          · exact fin _ (by rw [decide_eq_false (show ¬ ((t : Nat) : Int) ≤ 5 by omega), decide_eq_true (by omega)]; rfl)
        · refine if_neg_of (decide_eq_false (by omega)) ?_
          exact fin _ (by rw [decide_eq_true (by omega)]; rfl)
      · refine if_neg_of (decide_eq_false (by omega)) ?_
        exact fin _ (by rw [decide_eq_true (by omega)]; rfl)
    · refine if_neg_of (decide_eq_false (by omega)) ?_
      exact fin _ (by rw [decide_eq_true (by omega)]; rfl)
/-! ### need_tube -/
def spKeeperNeedTube (a : Adr) : Sp := fun vs H Q E => ∃ k s i, vs = [.ref k, .int (i : Nat)] ∧ KeeperAt a H k s ∧ (i < s.rack.length → Q .non H) ∧ (s.rack.length ≤ i → Refuses a E (-2) H)
abbrev scKeeperNeedTube_N : List Str := ["self", "tube"]
theorem scKeeperNeedTube : FnScope ["self", "tube"] ["self", "tube"] (defScope sKeeperNeedTube) := ⟨rfl, rfl, rfl, by decide +kernel, rfl, by decide +kernel, by decide +kernel⟩
theorem ok_KeeperNeedTube (T : Txt K mg a) : FnOk P w K mg base (L2.CX P w) 4 a.fKeeperNeedTube a.dKeeperNeedTube ["self", "tube"] (spKeeperNeedTube a) := by
  refine T.oKeeperNeedTube.F.okX scKeeperNeedTube (fun vs H Q E h => ?_) (fun cdv A outer s H vs Q E hr h => ?_)
  · obtain ⟨_, _, _, rfl, _⟩ := h
    rfl
  · obtain ⟨k, s, i, rfl, ⟨dx, r, hK⟩, q1, q2⟩ := h
    refine ⟨_, (pss_one (ps_expr (pe_call (ok_Need T) (hr.mono (by decide)) rfl T.oNeed.g T.oNeed.F.kp T.oNeed.b .nil (passes_call (takes_of rfl rfl rfl rfl) (fun _ _ _ _ h => h)) (pa_cons (pe_cmpR op_lt (pv 1) (pe_callB call_len_seq (by rfl) T.bLen PySem.boot_len (pa_cons (pe_fld (pv 0) rfl) pa_nil)) (nomark _)) (pa_cons (pe_const T.vAbsent) pa_nil))))), ?_⟩
    obtain ⟨xs, hxs, hlen, _⟩ := hK.rack.get
    refine ⟨_, rfl, _, rfl, k, _, _, _, _, rfl, hK.ins, T.clKeeper, T.nKeeperRack, lk_rack, r, xs, rfl, Or.inr (SqT.of hxs), _, _, rfl, rfl, _, _, rfl, fun e => ?_, fun e => ?_⟩
    · exact q1 (by have := of_decide_eq_true e; omega)
    · exact q2 (by have := of_decide_eq_false e; omega)
/-! ### drops -/
def spKeeperDrops (a : Adr) : Sp := fun vs H Q _ => ∃ k s, vs = [.ref k] ∧ KeeperAt a H k s ∧ s.rack.length ≤ 5 ∧ ∀ H', Same H H' → Q (.int ((s.rack.map List.length).sum : Nat)) H'
abbrev scKeeperDrops_N : List Str := ["self", "tube"]
theorem scKeeperDrops : FnScope ["self", "tube"] ["self"] (defScope sKeeperDrops) := ⟨rfl, rfl, rfl, by decide +kernel, rfl, by decide +kernel, by decide +kernel⟩
theorem ok_KeeperDrops (T : Txt K mg a) : FnOk P w K mg base CX0 1 a.fKeeperDrops a.dKeeperDrops ["self"] (spKeeperDrops a) := by
  refine T.oKeeperDrops.F.ok scKeeperDrops (fun vs H Q E h => ?_) (fun cdv A outer s H vs Q E hr h => ?_)
  · obtain ⟨_, _, rfl, _⟩ := h
    rfl
  · obtain ⟨k, s, rfl, ⟨dx, r, hK⟩, hl5, q⟩ := h
    refine ⟨_, (pss_one (ps_ret (pe_callB (cr_sum rfl) (by rfl) T.bSum (by decide +kernel) (pa_cons (pe_lc (own := [("tube", 1)]) rfl scKeeperDrops.nd (pi_tup (pe_fld (pv 0) rfl)) (blkOk_by (N := scKeeperDrops_N) (sc := defScope sKeeperDrops) (by decide +kernel)) (fun _ _ _ _ _ => (pg_name (i := 1) scKeeperDrops.nd rfl (Or.inl rfl))) (fun _ _ _ _ _ => pts_nil) (fun _ _ _ _ _ => (pe_callB (call_len_seqK K rfl) (by rfl) T.bLen PySem.boot_len (pa_cons (pv 1) pa_nil)))) pa_nil)))), ?_⟩
    obtain ⟨ts, hts, pr⟩ := hK.rack
    have hl := paired_len pr
    refine ⟨_, rfl, k, _, _, _, _, rfl, hK.ins, T.clKeeper, T.nKeeperRack, lk_rack, r, rfl, ⟨_, SqT.of hts⟩, fun D hD => ?_⟩
    refine lc_tup (xs := ts.map V.ref) (fun i H2 => Same H H2 ∧ H2 D = some (.lst (((s.rack.take i).map fun l => (l.length : Int)).map V.int))) ⟨same_upd hD, upd_same⟩ (fun i H2 _ z => SqT.of (z.1 _ _ hts)) ?_ ?_
    · rintro i x H2 hi ⟨sm, hd⟩
      obtain ⟨t, ht, rfl⟩ := refs_get hi
      obtain ⟨l, hl2, htl⟩ := paired_ix pr ht
      have tq : H2 t = some (.tup (tubeV l)) := sm _ _ htl
      refine ⟨rfl, ?_⟩
      refine ⟨_, rfl, t, _, rfl, Or.inr (SqT.of tq), _, hd, ?_, fun b o h => ?_, ?_⟩
      · have := List.length_take_le' i s.rack
        rw [List.length_map, List.length_map, sizeLine_eq]
        omega
      · rw [upd_ne (ne_of_none h hD)]
        exact sm _ _ h
      · rw [upd_same, List.take_add_one, hl2, tubeV_length]
        simp
    · rintro H2 ⟨sm, hd⟩
      rw [List.length_map, hl, List.take_length] at hd
      refine ⟨D, _, rfl, SqL.of hd, ?_⟩
      have z := q H2 sm
      have e : ∀ l : List (List Nat), (l.map fun l => (l.length : Int)).sum = ((l.map List.length).sum : Nat) := fun l => by
        induction l with
        | nil => rfl
        | cons x l ih => rw [List.map_cons, List.map_cons, List.sum_cons, List.sum_cons, ih]; omega
      rw [e]
      exact z
end
end Td

/-! keeper.py: fill, goes, pour, may, sorted_told, tube, state. -/
namespace Td
open PySem PySem.Spec PyProof.Rows L2

/-- e is new, all else as it was -/
def New (H H' : Hp) (e : Addr) : Prop := Same H H' ∧ H e = none
theorem New.of {H H1 : Hp} {e : Addr} {o : HO} (s : Same H H1) (he : H1 e = none) : New H (upd H1 e o) e := ⟨s.trans (same_upd he), s.free he⟩
theorem free_of {H X : Hp} {k e : Addr} {o' : HO} (kp : ∀ b o, b ≠ k → H b = some o → X b = some o) (hk : X k = some o') (he : X e = none) : H e = none := by
  cases h : H e with
  | none => rfl
  | some o =>
    by_cases c : e = k
    · rw [c, hk] at he
      cases he
    · rw [kp e o c h] at he
      cases he
theorem cut_to {xs : List V} {i : Nat} (h : i ≤ xs.length) : cutV xs none (some ((i : Nat) : Int)) = xs.take i := by
  unfold cutV
  rw [HT.sIx_nat, HT.sIx_none, List.drop_zero]
  have e : min i xs.length - 0 = i := by omega
  rw [e]
theorem cut_from {xs : List V} {i : Nat} {z : Int} (hz : z = (i : Nat)) : cutV xs (some z) none = xs.drop i := by
  subst hz
  unfold cutV
  rw [HT.sIx_nat, HT.sIx_none]
  by_cases h : i ≤ xs.length
  · have e : min i xs.length = i := by omega
    rw [e, List.take_of_length_le (by rw [List.length_drop]; omega)]
  · rw [List.drop_eq_nil_of_le (as := xs) (i := i) (by omega), List.drop_eq_nil_of_le (by omega), List.take_nil]
theorem set_parts {α : Type} : ∀ (xs : List α) (i : Nat) (y : α), i < xs.length → xs.take i ++ [y] ++ xs.drop (i + 1) = xs.set i y
  | x :: xs, 0, y, _ => rfl
  | x :: xs, i + 1, y, h => by
    show x :: (xs.take i ++ [y] ++ xs.drop (i + 1)) = x :: xs.set i y
    rw [set_parts xs i y (by rw [List.length_cons] at h; omega)]
theorem tubeV_rev (cs : List Nat) : tubeV cs.reverse = cs.map fun n => V.int (n : Nat) := by
  unfold tubeV tubeI
  rw [List.reverse_reverse, List.map_map]
  rfl
section
variable {P : Program} {w : World} {K : PySem.W.Frag} {mg : Str → Option Value} {base : Heap} {a : Adr}
theorem lk_need_tube {x y z : V} : List.lookup ("need_tube" : Str) [("room", x), ("rack", y), ("count", z)] = none := rfl
theorem lk_drops {x y z : V} : List.lookup ("drops" : Str) [("room", x), ("rack", y), ("count", z)] = none := rfl
/-- more than it holds, or no colour -/
def badFill (s : Sy71.St) (cs : List Nat) : Prop := s.holds < cs.length ∨ cs.any (fun c => decide (5 < c)) = true
def spKeeperFill (a : Adr) : Sp := fun vs H Q E => ∃ (k q : Addr) (s : Sy71.St) (i : Nat) (cs : List Nat), vs = [.ref k, .int (i : Nat), .ref q] ∧ KeeperAt a H k s ∧ Fine s ∧ H q = some (.lst (cs.map fun n => V.int (n : Nat))) ∧ cs.length ≤ 1000 ∧
  (s.rack.length ≤ i → Refuses a E (-2) H) ∧ (i < s.rack.length → badFill s cs → ∀ H', Same H H' → Refuses a E (-1) H') ∧
  (i < s.rack.length → ¬ badFill s cs → ∀ e H', KeeperAt a H' k { s with rack := s.rack.set i cs.reverse } → (∀ b o, b ≠ k → H b = some o → H' b = some o) → H e = none → H' e = some (.lst [.int (((s.rack.set i cs.reverse).map List.length).sum : Nat)]) → Q (.ref e) H')
abbrev scKeeperFill_N : List Str := ["self", "tube", "colours", "one"]
theorem scKeeperFill : FnScope ["self", "tube", "colours", "one"] ["self", "tube", "colours"] (defScope sKeeperFill) := ⟨rfl, rfl, rfl, by decide +kernel, rfl, by decide +kernel, by decide +kernel⟩
theorem ok_KeeperFill (T : Txt K mg a) : FnOk P w K mg base (L2.CX P w) 5 a.fKeeperFill a.dKeeperFill ["self", "tube", "colours"] (spKeeperFill a) := by
  refine T.oKeeperFill.F.okX scKeeperFill (fun vs H Q E h => ?_) (fun cdv A outer s H vs Q E hr h => ?_)
  · obtain ⟨_, _, _, _, _, rfl, _⟩ := h
    rfl
  · obtain ⟨k, cq, s, i, cs, rfl, hK, hF, hcs, hcl, q2, q1, q⟩ := h
    refine ⟨_, (pss_cons (ps_expr (pe_meth (pv 0) T.clKeeper T.oKeeperNeedTube.M (ok_KeeperNeedTube T) (hr.mono (by decide)) T.oKeeperNeedTube.b .nil (passes_call (takes_of rfl rfl rfl rfl) (fun _ _ _ _ h => h)) (pa_cons (pv 1) pa_nil)))
      (pss_cons (ps_expr (pe_call (ok_Need T) (hr.mono (by decide)) rfl T.oNeed.g T.oNeed.F.kp T.oNeed.b .nil (passes_call (takes_of rfl rfl rfl rfl) (fun _ _ _ _ h => h)) (pa_cons (pe_and (pe_cmpR op_le (pe_callB call_len_seq (by rfl) T.bLen PySem.boot_len (pa_cons (pv 2) pa_nil)) (pe_fld (pv 0) rfl) (nomark _)) (pe_one (pe_cmpR (op_eqD hr.units) (pe_lc (own := [("one", 3)]) rfl scKeeperFill.nd (pi_list (pv 2)) (blkOk_by (N := scKeeperFill_N) (sc := defScope sKeeperFill) (by decide +kernel)) (fun _ _ _ _ _ => (pg_name (i := 3) scKeeperFill.nd rfl (Or.inl rfl))) (fun _ _ _ _ _ => (pts_one (pt_cmpR op_gt (pv 3) (pe_const T.vMostColour) (nomark _)))) (fun _ _ _ _ _ => (pv 3))) (pe_lst pa_nil) (nomark _)))) (pa_cons (pe_const T.vNotSo) pa_nil))))
      (pss_cons (ps_fld (pv 0) (pe_op op_catB (pe_op op_catB (pe_slice sl_tupB (pe_fld (pv 0) rfl) po_none (po_some (pv 1))) (pe_tup (pa_cons (pe_callTy call_tuple_of (by rfl) T.bTuple (by decide +kernel) (pa_cons (pv 2) pa_nil)) pa_nil))) (pe_slice sl_tupB (pe_fld (pv 0) rfl) (po_some (pe_op op_add (pv 1) pe_int)) po_none)) rfl)
      (pss_one (ps_ret (pe_lst (pa_cons (pe_meth0 (pv 0) T.clKeeper T.oKeeperDrops.M (ok_KeeperDrops T) (hr.mono (by decide)) T.oKeeperDrops.b .nil pass0) pa_nil))))))), ?_⟩
    obtain ⟨dx, r, hKa⟩ := id hK
    refine ⟨_, rfl, k, _, _, rfl, hKa.ins, lk_need_tube, _, rfl, k, s, i, rfl, hK, fun hi => ?_, fun hi => q2 hi⟩
    -- the two tests
    refine ⟨_, rfl, cq, _, rfl, Or.inl (SqL.of hcs), ?_⟩
    refine ⟨_, rfl, k, _, _, _, _, rfl, hKa.ins, T.clKeeper, T.nKeeperRoom, lk_room, _, _, rfl, rfl, _, rfl, ?_⟩
    rw [List.length_map]
    by_cases hlen : cs.length ≤ s.holds
    · refine if_pos_of (decide_eq_true (by omega)) ?_
      refine ⟨_, rfl, cq, rfl, ⟨_, SqL.of hcs⟩, fun D hD => ?_⟩
      refine lc_list (xs := cs.map fun n => V.int (n : Nat)) (fun j H2 => H2 = upd H D (.lst (((cs.take j).filter fun c => decide (5 < c)).map fun n => V.int (n : Nat)))) rfl (fun j H2 _ e => by rw [e]; exact SqL.of (same_upd hD _ _ hcs)) ?_ ?_
      · rintro j y H2 hj rfl
        rw [List.getElem?_map] at hj
        cases ec : cs[j]? with
        | none => rw [ec] at hj; cases hj
        | some c =>
          rw [ec] at hj
          cases hj
          refine ⟨rfl, _, rfl, _, _, rfl, rfl, _, rfl, ?_⟩
          have et : cs.take (j + 1) = cs.take j ++ [c] := by rw [List.take_add_one, ec]; rfl
          rw [et, List.filter_append, List.map_append]
          by_cases c5 : 5 < c
          · refine if_pos_of (decide_eq_true (by omega)) ?_
            refine ⟨_, rfl, _, upd_same, ?_, ?_⟩
            · have h1 := List.length_filter_le (fun c => decide (5 < c)) (cs.take j)
              have h2 := List.length_take_le' j cs
              rw [List.length_map, sizeLine_eq]
              omega
            · rw [upd_upd]
              have e3 : [c].filter (fun c => decide (5 < c)) = [c] := by simp [c5]
              rw [e3]
              rfl
          · refine if_neg_of (decide_eq_false (by omega)) ?_
            have e3 : [c].filter (fun c => decide (5 < c)) = [] := by simp; omega
            rw [e3, List.map_nil, List.append_nil]
      rintro H2 rfl
      rw [List.length_map, List.take_length]
      refine ⟨zero_le_line, fun f hf => ?_⟩
      have ei : ((cs.filter fun c => decide (5 < c)).map fun n => V.int (n : Nat)) = ((cs.filter fun c => decide (5 < c)).map Int.ofNat).map V.int := by rw [List.map_map]; rfl
      have sD := same_upd (o := .lst ((cs.filter fun c => decide (5 < c)).map fun n => V.int (n : Nat))) hD
      have s2 := sD.trans (same_upd (o := .lst []) hf)
      refine rEq_lst (SqL.of (same_upd hf _ _ upd_same)) (by rw [ei]; exact dp_ints _) (lay_ints _) (deep_ints' _) (SqL.of upd_same) ⟨_, _, rfl, fun hb => ?_, fun hb => ?_⟩
      · -- all is well
        have hgood : ¬ badFill s cs := by
          rintro (z | z)
          · omega
          · obtain ⟨c, hc, h5⟩ := List.any_eq_true.mp z
            have : c ∈ cs.filter fun c => decide (5 < c) := List.mem_filter.mpr ⟨hc, h5⟩
            rw [List.isEmpty_iff, List.map_eq_nil_iff] at hb
            rw [hb] at this
            cases this
        have hKb := hKa.same s2
        obtain ⟨ts, hts, pr⟩ := hKb.rack
        have hl := paired_len pr
        have hcs2 := s2 _ _ hcs
        generalize upd (upd H D (.lst ((cs.filter fun c => decide (5 < c)).map fun n => V.int (n : Nat)))) f (.lst []) = H2 at s2 hKb hts pr hcs2
        refine ⟨_, rfl, k, _, _, _, _, rfl, hKb.ins, T.clKeeper, T.nKeeperRack, lk_rack, _, rfl, _, rfl, r, _, rfl, hts, fun e1 H3 s3 he1 => ?_⟩
        rw [cut_to (by rw [List.length_map]; omega)] at he1
        refine ⟨_, rfl, cq, _, rfl, Or.inl ⟨SqL.of (s3 _ _ hcs2), fun e2 he2 => ?_⟩⟩
        have s4 := same_upd (o := .tup (cs.map fun n => V.int (n : Nat))) he2
        refine ⟨(by show 1 ≤ sizeLine; decide), fun e3 he3 => ?_⟩
        have s5 := same_upd (o := .tup [.ref e2]) he3
        refine ⟨e1, e3, _, _, rfl, rfl, s5 _ _ (s4 _ _ he1), upd_same, ?_, fun e6 H6 s6 he6 => ?_⟩
        · have := List.length_take_le' i (ts.map V.ref)
          rw [List.length_map] at this
          rw [sizeLine_eq]
          show _ + 1 ≤ _
          have := hF.t5
          omega
        have s36 := ((s3.trans s4).trans s5).trans s6
        have hK6 := hKb.same s36
        refine ⟨_, rfl, k, _, _, _, _, rfl, hK6.ins, T.clKeeper, T.nKeeperRack, lk_rack, _, rfl, _, _, rfl, rfl, _, rfl, r, _, rfl, s36 _ _ hts, fun e7 H7 s7 he7 => ?_⟩
        rw [cut_from (i := i + 1) (by omega)] at he7
        refine ⟨e6, e7, _, _, rfl, rfl, s7 _ _ he6, he7, ?_, fun e8 H8 s8 he8 => ?_⟩
        · have h1 := List.length_take_le' i (ts.map V.ref)
          rw [List.length_append, List.length_drop, List.length_map, List.length_singleton, sizeLine_eq]
          rw [List.length_map] at h1
          have := hF.t5
          omega
        rw [set_parts _ _ _ (by rw [List.length_map]; omega)] at he8
        have s28 := (s36.trans s7).trans s8
        have hK8 := hKb.same s28
        refine ⟨_, rfl, k, _, _, _, rfl, hK8.ins, T.clKeeper, T.nKeeperRack, (by show 3 < 1000; decide), ?_⟩
        have he2' : H8 e2 = some (.tup (cs.map fun n => V.int (n : Nat))) := s8 _ _ (s7 _ _ (s6 _ _ (s5 _ _ upd_same)))
        generalize e9 : upd H8 k (.ins a.cKeeper dx (putF "rack" (.ref e8) [("room", .int (s.holds : Nat)), ("rack", .ref r), ("count", .int (s.done : Nat))])) = H9
        have g9 : H9 k = some (.ins a.cKeeper dx [("room", .int (s.holds : Nat)), ("rack", .ref e8), ("count", .int (s.done : Nat))]) := by rw [← e9, upd_same]; rfl
        have k9 : ∀ b o, b ≠ k → H8 b = some o → H9 b = some o := fun b o nb h => by rw [← e9, upd_ne nb]; exact h
        have t9 : ∀ b ys, H8 b = some (.tup ys) → H9 b = some (.tup ys) := fun b ys h => k9 b _ (ne_of h hK8.ins fun z => nomatch z) h
        have hK9 : KAt a H9 k dx e8 { s with rack := s.rack.set i cs.reverse } := by
          refine ⟨g9, ts.set i e2, ?_, ?_⟩
          · rw [t9 _ _ he8, List.map_set]
          · refine paired_set ?_ i (paired_imp pr fun t l h => t9 _ _ (s28 _ _ h))
            show H9 e2 = _
            rw [tubeV_rev]
            exact t9 _ _ he2'
        refine ⟨_, rfl, k, _, _, rfl, hK9.ins, lk_drops, k, _, rfl, ⟨_, _, hK9⟩, by show (s.rack.set i cs.reverse).length ≤ 5; rw [List.length_set]; exact hF.t5, fun H10 s10 => ⟨(by show 1 ≤ sizeLine; decide), fun e11 he11 => ?_⟩⟩
        refine q hi hgood e11 _ ⟨_, _, (hK9.same s10).same (same_upd he11)⟩ (fun b o nb h => same_upd he11 _ _ (s10 _ _ (k9 b o nb (s28 _ _ (s2 _ _ h))))) (free_of (fun b o nb h => s10 _ _ (k9 b o nb (s28 _ _ (s2 _ _ h)))) (hK9.same s10).ins he11) upd_same
      · refine q1 hi (.inr ?_) _ s2
        cases e4 : cs.filter fun c => decide (5 < c) with
        | nil => rw [e4] at hb; cases hb
        | cons c l =>
          have : c ∈ cs.filter fun c => decide (5 < c) := by rw [e4]; exact List.mem_cons_self
          obtain ⟨h1, h2⟩ := List.mem_filter.mp this
          exact List.any_eq_true.mpr ⟨c, h1, h2⟩
    · refine if_neg_of (decide_eq_false (by omega)) ?_
      exact ⟨_, _, rfl, fun z => Bool.noConfusion z, fun _ => q1 hi (.inl (by omega)) H (Same.refl H)⟩

/-! ### goes -/
def spKeeperGoes (a : Adr) : Sp := fun vs H Q E => ∃ (k : Addr) (s : Sy71.St) (i j : Nat), vs = [.ref k, .int (i : Nat), .int (j : Nat)] ∧ KeeperAt a H k s ∧ Fine s ∧
  (s.rack.length ≤ i ∨ s.rack.length ≤ j → Refuses a E (-2) H) ∧ (i < s.rack.length → j < s.rack.length → ∀ H', Same H H' → Q (.int (gone s.holds s.rack i j : Nat)) H')
abbrev scKeeperGoes_N : List Str := ["self", "one", "other"]
theorem scKeeperGoes : FnScope ["self", "one", "other"] ["self", "one", "other"] (defScope sKeeperGoes) := ⟨rfl, rfl, rfl, by decide +kernel, rfl, by decide +kernel, by decide +kernel⟩
theorem ok_KeeperGoes (T : Txt K mg a) : FnOk P w K mg base (L2.CX P w) 5 a.fKeeperGoes a.dKeeperGoes ["self", "one", "other"] (spKeeperGoes a) := by
  refine T.oKeeperGoes.F.okX scKeeperGoes (fun vs H Q E h => ?_) (fun cdv A outer s H vs Q E hr h => ?_)
  · obtain ⟨_, _, _, _, rfl, _⟩ := h
    rfl
  · obtain ⟨k, s, i, j, rfl, hK, hF, q2, q⟩ := h
    refine ⟨_, (pss_cons (ps_expr (pe_meth (pv 0) T.clKeeper T.oKeeperNeedTube.M (ok_KeeperNeedTube T) (hr.mono (by decide)) T.oKeeperNeedTube.b .nil (passes_call (takes_of rfl rfl rfl rfl) (fun _ _ _ _ h => h)) (pa_cons (pv 1) pa_nil)))
      (pss_cons (ps_expr (pe_meth (pv 0) T.clKeeper T.oKeeperNeedTube.M (ok_KeeperNeedTube T) (hr.mono (by decide)) T.oKeeperNeedTube.b .nil (passes_call (takes_of rfl rfl rfl rfl) (fun _ _ _ _ h => h)) (pa_cons (pv 2) pa_nil)))
      (pss_one (ps_ret (pe_call (ok_Going T) (hr.mono (by decide)) rfl T.oGoing.g T.oGoing.F.kp T.oGoing.b .nil pass0 (pa_cons (pe_fld (pv 0) rfl) (pa_cons (pe_fld (pv 0) rfl) (pa_cons (pv 1) (pa_cons (pv 2) pa_nil))))))))), ?_⟩
    obtain ⟨dx, r, hKa⟩ := id hK
    refine ⟨_, rfl, k, _, _, rfl, hKa.ins, lk_need_tube, _, rfl, k, s, i, rfl, hK, fun hi => ?_, fun hi => q2 (.inl hi)⟩
    refine ⟨_, rfl, k, _, _, rfl, hKa.ins, lk_need_tube, _, rfl, k, s, j, rfl, hK, fun hj => ?_, fun hj => q2 (.inr hj)⟩
    refine ⟨_, rfl, k, _, _, _, _, rfl, hKa.ins, T.clKeeper, T.nKeeperRack, lk_rack, _, rfl, k, _, _, _, _, rfl, hKa.ins, T.clKeeper, T.nKeeperRoom, lk_room, _, rfl, _, rfl, r, s.rack, s.holds, i, j, rfl, hKa.rack, hF.fits, hF.h4, hi, hj, fun H' sm => ?_⟩
    exact q hi hj H' sm
theorem lk_goes {x y z : V} : List.lookup ("goes" : Str) [("room", x), ("rack", y), ("count", z)] = none := rfl
/-! ### pour -/
def spKeeperPour (a : Adr) : Sp := fun vs H Q E => ∃ (k : Addr) (s : Sy71.St) (i j : Nat), vs = [.ref k, .int (i : Nat), .int (j : Nat)] ∧ KeeperAt a H k s ∧ Fine s ∧
  (s.rack.length ≤ i ∨ s.rack.length ≤ j → Refuses a E (-2) H) ∧ (i < s.rack.length → j < s.rack.length → gone s.holds s.rack i j = 0 → ∀ H', Same H H' → Refuses a E (-6) H') ∧
  (i < s.rack.length → j < s.rack.length → 0 < gone s.holds s.rack i j → ∀ e H', KeeperAt a H' k { s with rack := pouredR s.rack i j (gone s.holds s.rack i j), done := s.done + 1 } → (∀ b o, b ≠ k → H b = some o → H' b = some o) → H e = none →
    H' e = some (.lst [.int (gone s.holds s.rack i j : Nat)]) → Q (.ref e) H')
abbrev scKeeperPour_N : List Str := ["self", "one", "other", "count"]
theorem scKeeperPour : FnScope ["self", "one", "other", "count"] ["self", "one", "other"] (defScope sKeeperPour) := ⟨rfl, rfl, rfl, by decide +kernel, rfl, by decide +kernel, by decide +kernel⟩
theorem ok_KeeperPour (T : Txt K mg a) : FnOk P w K mg base (L2.CX P w) 6 a.fKeeperPour a.dKeeperPour ["self", "one", "other"] (spKeeperPour a) := by
  refine T.oKeeperPour.F.okX scKeeperPour (fun vs H Q E h => ?_) (fun cdv A outer s H vs Q E hr h => ?_)
  · obtain ⟨_, _, _, _, rfl, _⟩ := h
    rfl
  · obtain ⟨k, s, i, j, rfl, hK, hF, q2, q6, q⟩ := h
    refine ⟨_, (pss_cons (ps_set (i := 3) scKeeperPour.nd rfl (Or.inl rfl) (pe_meth (pv 0) T.clKeeper T.oKeeperGoes.M (ok_KeeperGoes T) (hr.mono (by decide)) T.oKeeperGoes.b .nil (passes_call (takes_of rfl rfl rfl rfl) (fun _ _ _ _ h => h)) (pa_cons (pv 1) (pa_cons (pv 2) pa_nil))))
      (pss_cons (ps_expr (pe_call (ok_Need T) (hr.mono (by decide)) rfl T.oNeed.g T.oNeed.F.kp T.oNeed.b .nil (passes_call (takes_of rfl rfl rfl rfl) (fun _ _ _ _ h => h)) (pa_cons (pe_cmpR op_gt (pv 3) pe_int (nomark _)) (pa_cons (pe_const T.vCannot) pa_nil))))
      (pss_cons (ps_fld (pv 0) (pe_call (ok_Poured T) (hr.mono (by decide)) rfl T.oPoured.g T.oPoured.F.kp T.oPoured.b .nil pass0 (pa_cons (pe_fld (pv 0) rfl) (pa_cons (pv 1) (pa_cons (pv 2) (pa_cons (pv 3) pa_nil))))) rfl)
      (pss_cons (ps_fldaug (pv 0) pe_int in_add)
      (pss_one (ps_ret (pe_lst (pa_cons (pv 3) pa_nil)))))))), ?_⟩
    obtain ⟨dx, r, hKa⟩ := id hK
    refine ⟨_, rfl, k, _, _, rfl, hKa.ins, lk_goes, _, rfl, _, rfl, k, s, i, j, rfl, hK, hF, q2, fun hi hj H1 s1 => ?_⟩
    have g1 := gone_le s.holds s.rack i j
    generalize hg : gone s.holds s.rack i j = g at q6 q g1
    refine ⟨_, rfl, _, _, rfl, rfl, _, _, rfl, fun hb => ?_, fun hb => ?_⟩
    · have g0 : 0 < g := by have := of_decide_eq_true hb; omega
      have hij : i ≠ j := fun e => by
        unfold gone at hg
        rw [if_pos e] at hg
        omega
      have hK1 := hKa.same s1
      refine ⟨_, rfl, k, _, _, _, _, rfl, hK1.ins, T.clKeeper, T.nKeeperRack, lk_rack, _, rfl, _, rfl, _, rfl, r, s.rack, i, j, g, rfl, hK1.rack, hF.fits4, hF.t5, hi, hj, hij, g1.1, fun e H2 s2 he => ?_⟩
      have hK2 := hK1.same s2
      refine ⟨_, rfl, k, _, _, _, rfl, hK2.ins, T.clKeeper, T.nKeeperRack, (by show 3 < 1000; decide), ?_⟩
      refine ⟨_, rfl, k, _, dx, [("room", .int (s.holds : Nat)), ("rack", .ref e), ("count", .int (s.done : Nat))], .int (s.done : Nat), rfl, by rw [upd_same]; rfl, T.clKeeper, T.nKeeperCount, lk_count, _, _, rfl, rfl, dx, [("room", .int (s.holds : Nat)), ("rack", .ref e), ("count", .int (s.done : Nat))], by rw [upd_same]; rfl, (by show 3 < 1000; decide), ?_⟩
      rw [upd_upd]
      refine ⟨_, rfl, (by show 1 ≤ sizeLine; decide), fun f hf => ?_⟩
      have k3 : ∀ b o, b ≠ k → H2 b = some o → upd H2 k (.ins a.cKeeper dx (putF "count" (.int ((s.done : Int) + 1)) [("room", .int (s.holds : Nat)), ("rack", .ref e), ("count", .int (s.done : Nat))])) b = some o := fun b o nb h => by rw [upd_ne nb]; exact h
      refine q hi hj g0 f _ ⟨dx, e, same_upd hf _ _ upd_same, ?_⟩ (fun b o nb h => same_upd hf _ _ (k3 b o nb (s2 _ _ (s1 _ _ h)))) (free_of (fun b o nb h => k3 b o nb (s2 _ _ (s1 _ _ h))) upd_same hf) upd_same
      exact (he.keeps fun z ys h => k3 z _ (ne_of h hK2.ins fun z => nomatch z) h).same (same_upd hf)
    · exact q6 hi hj (by have := of_decide_eq_false hb; omega) H1 s1
/-! ### may -/
def spKeeperMay (a : Adr) : Sp := fun vs H Q E => ∃ (k : Addr) (s : Sy71.St) (i j : Nat), vs = [.ref k, .int (i : Nat), .int (j : Nat)] ∧ KeeperAt a H k s ∧ Fine s ∧
  (s.rack.length ≤ i ∨ s.rack.length ≤ j → Refuses a E (-2) H) ∧ (i < s.rack.length → j < s.rack.length → i = j → ∀ H', Same H H' → Refuses a E (-1) H') ∧
  (i < s.rack.length → j < s.rack.length → i ≠ j → ∀ e H', New H H' e → H' e = some (.lst [.int (gone s.holds s.rack i j : Nat)]) → Q (.ref e) H')
abbrev scKeeperMay_N : List Str := ["self", "one", "other", "count"]
theorem scKeeperMay : FnScope ["self", "one", "other", "count"] ["self", "one", "other"] (defScope sKeeperMay) := ⟨rfl, rfl, rfl, by decide +kernel, rfl, by decide +kernel, by decide +kernel⟩
theorem ok_KeeperMay (T : Txt K mg a) : FnOk P w K mg base (L2.CX P w) 6 a.fKeeperMay a.dKeeperMay ["self", "one", "other"] (spKeeperMay a) := by
  refine T.oKeeperMay.F.okX scKeeperMay (fun vs H Q E h => ?_) (fun cdv A outer s H vs Q E hr h => ?_)
  · obtain ⟨_, _, _, _, rfl, _⟩ := h
    rfl
  · obtain ⟨k, s, i, j, rfl, hK, hF, q2, q1, q⟩ := h
    refine ⟨_, (pss_cons (ps_set (i := 3) scKeeperMay.nd rfl (Or.inl rfl) (pe_meth (pv 0) T.clKeeper T.oKeeperGoes.M (ok_KeeperGoes T) (hr.mono (by decide)) T.oKeeperGoes.b .nil (passes_call (takes_of rfl rfl rfl rfl) (fun _ _ _ _ h => h)) (pa_cons (pv 1) (pa_cons (pv 2) pa_nil))))
      (pss_cons (ps_expr (pe_call (ok_Need T) (hr.mono (by decide)) rfl T.oNeed.g T.oNeed.F.kp T.oNeed.b .nil (passes_call (takes_of rfl rfl rfl rfl) (fun _ _ _ _ h => h)) (pa_cons (pe_cmpR op_ne (pv 1) (pv 2) (nomark _)) (pa_cons (pe_const T.vNotSo) pa_nil))))
      (pss_one (ps_ret (pe_lst (pa_cons (pv 3) pa_nil)))))), ?_⟩
    obtain ⟨dx, r, hKa⟩ := id hK
    refine ⟨_, rfl, k, _, _, rfl, hKa.ins, lk_goes, _, rfl, _, rfl, k, s, i, j, rfl, hK, hF, q2, fun hi hj H1 s1 => ?_⟩
    refine ⟨_, rfl, _, rfl, rfl, _, _, rfl, fun hb => ?_, fun hb => ?_⟩
    · refine ⟨_, rfl, (by show 1 ≤ sizeLine; decide), fun e he => q hi hj (fun z => ?_) e _ (New.of s1 he) upd_same⟩
      rw [z] at hb
      simp at hb
    · refine q1 hi hj ?_ H1 s1
      simp only [Bool.not_eq_false', decide_eq_true_eq] at hb
      exact Int.ofNat_inj.mp (V.int.inj hb)
/-! ### sorted_told -/
def spKeeperSortedTold (a : Adr) : Sp := fun vs H Q _ => ∃ (k : Addr) (s : Sy71.St), vs = [.ref k] ∧ KeeperAt a H k s ∧ Fine s ∧ ∀ e H', New H H' e → H' e = some (.lst [.int (if Sy71.sorted s.rack = true then 1 else 0)]) → Q (.ref e) H'
abbrev scKeeperSortedTold_N : List Str := ["self"]
theorem scKeeperSortedTold : FnScope ["self"] ["self"] (defScope sKeeperSortedTold) := ⟨rfl, rfl, rfl, by decide +kernel, rfl, by decide +kernel, by decide +kernel⟩
theorem ok_KeeperSortedTold (T : Txt K mg a) : FnOk P w K mg base CX0 2 a.fKeeperSortedTold a.dKeeperSortedTold ["self"] (spKeeperSortedTold a) := by
  refine T.oKeeperSortedTold.F.ok scKeeperSortedTold (fun vs H Q E h => ?_) (fun cdv A outer s H vs Q E hr h => ?_)
  · obtain ⟨_, _, rfl, _⟩ := h
    rfl
  · obtain ⟨k, s, rfl, ⟨dx, r, hKa⟩, hF, q⟩ := h
    refine ⟨_, (pss_one (ps_ret (pe_lst (pa_cons (pe_callTy call_int1 (by rfl) T.bInt (by decide +kernel) (pa_cons (pe_call (ok_IsSorted T) (hr.mono (by decide)) rfl T.oIsSorted.g T.oIsSorted.F.kp T.oIsSorted.b .nil pass0 (pa_cons (pe_fld (pv 0) rfl) pa_nil)) pa_nil)) pa_nil)))), ?_⟩
    refine ⟨_, rfl, k, _, _, _, _, rfl, hKa.ins, T.clKeeper, T.nKeeperRack, lk_rack, r, s.rack, rfl, hKa.rack, hF.fits4, hF.t5, fun H' sm => .inr ⟨_, rfl, (by show 1 ≤ sizeLine; decide), fun e he => ?_⟩⟩
    exact q e _ (New.of sm he) upd_same
/-! ### tube -/
def spKeeperTube (a : Adr) : Sp := fun vs H Q E => ∃ (k : Addr) (s : Sy71.St) (i : Nat), vs = [.ref k, .int (i : Nat)] ∧ KeeperAt a H k s ∧ Fine s ∧ (s.rack.length ≤ i → Refuses a E (-2) H) ∧
  (i < s.rack.length → ∀ e H', New H H' e → H' e = some (.lst (.int ((s.rack.getD i []).length : Nat) :: .int ((s.rack.getD i []).length : Nat) :: tubeV (s.rack.getD i []))) → Q (.ref e) H')
abbrev scKeeperTube_N : List Str := ["self", "tube"]
theorem scKeeperTube : FnScope ["self", "tube"] ["self", "tube"] (defScope sKeeperTube) := ⟨rfl, rfl, rfl, by decide +kernel, rfl, by decide +kernel, by decide +kernel⟩
theorem ok_KeeperTube (T : Txt K mg a) : FnOk P w K mg base (L2.CX P w) 5 a.fKeeperTube a.dKeeperTube ["self", "tube"] (spKeeperTube a) := by
  refine T.oKeeperTube.F.okX scKeeperTube (fun vs H Q E h => ?_) (fun cdv A outer s H vs Q E hr h => ?_)
  · obtain ⟨_, _, _, rfl, _⟩ := h
    rfl
  · obtain ⟨k, s, i, rfl, hK, hF, q2, q⟩ := h
    refine ⟨_, (pss_cons (ps_expr (pe_meth (pv 0) T.clKeeper T.oKeeperNeedTube.M (ok_KeeperNeedTube T) (hr.mono (by decide)) T.oKeeperNeedTube.b .nil (passes_call (takes_of rfl rfl rfl rfl) (fun _ _ _ _ h => h)) (pa_cons (pv 1) pa_nil)))
      (pss_one (ps_ret (pe_op op_cat (pe_lst (pa_cons (pe_callB call_len_seq (by rfl) T.bLen PySem.boot_len (pa_cons (pe_ix ix_tup (pe_fld (pv 0) rfl) (pv 1) (fun _ _ => rfl)) pa_nil)) pa_nil)) (pe_call (ok_Listed T) (hr.mono (by decide)) rfl T.oListed.g T.oListed.F.kp T.oListed.b .nil pass0 (pa_cons (pe_ix ix_tup (pe_fld (pv 0) rfl) (pv 1) (fun _ _ => rfl)) pa_nil)))))), ?_⟩
    obtain ⟨dx, r, hKa⟩ := id hK
    refine ⟨_, rfl, k, _, _, rfl, hKa.ins, lk_need_tube, _, rfl, k, s, i, rfl, hK, fun hi => ?_, fun hi => q2 hi⟩
    obtain ⟨xs, hxs, hlen, hget⟩ := hKa.rack.get
    obtain ⟨t, ht, htt⟩ := hget i hi
    have hfl := hF.fits4.at i
    generalize s.rack.getD i [] = l at htt hfl q
    have tq : H t = some (.tup (tubeV l)) := htt
    refine ⟨_, rfl, k, _, _, _, _, rfl, hKa.ins, T.clKeeper, T.nKeeperRack, lk_rack, _, rfl, r, _, _, _, rfl, rfl, SqT.of hxs, atI_nat ht, t, _, rfl, Or.inr (SqT.of tq), (by show 1 ≤ sizeLine; decide), fun e1 he1 => ?_⟩
    have s1 := same_upd (o := .lst [.int ((tubeV l).length : Nat)]) he1
    have hK1 := hKa.same s1
    refine ⟨_, rfl, k, _, _, _, _, rfl, hK1.ins, T.clKeeper, T.nKeeperRack, lk_rack, _, rfl, r, _, _, _, rfl, rfl, SqT.of (s1 _ _ hxs), atI_nat ht, t, _, rfl, .inr (s1 _ _ tq), by rw [tubeV_length]; omega, fun e2 H2 s2 he2 => ?_⟩
    refine ⟨e1, e2, _, _, rfl, rfl, s2 _ _ upd_same, he2, ?_, fun e3 he3 => ?_⟩
    · rw [sizeLine_eq]
      show 1 + ((tubeV l).length + 1) ≤ _
      rw [tubeV_length]
      omega
    · refine q hi e3 _ (New.of (s1.trans s2) he3) ?_
      rw [upd_same, tubeV_length]
      rfl
/-! ### state -/
def rowsV (r : Sy71.Rack) : List V := r.flatMap fun l => .int (l.length : Nat) :: tubeV l
theorem rowsV_length {n : Nat} : ∀ {r : Sy71.Rack}, Fits n r → (rowsV r).length ≤ r.length * (n + 1)
  | [], _ => Nat.zero_le _
  | l :: r, h => by
    have ih := rowsV_length (r := r) fun x hx => h x (List.mem_cons_of_mem _ hx)
    have h1 := h l List.mem_cons_self
    unfold rowsV at ih ⊢
    rw [List.flatMap_cons, List.length_append, List.length_cons, List.length_cons, tubeV_length, Nat.succ_mul]
    omega
def spKeeperState (a : Adr) : Sp := fun vs H Q _ => ∃ (k : Addr) (s : Sy71.St), vs = [.ref k] ∧ KeeperAt a H k s ∧ Fine s ∧
  ∀ e H', New H H' e → H' e = some (.lst (.int (s.done : Nat) :: .int 2 :: .int (s.holds : Nat) :: .int (s.rack.length : Nat) :: .int ((rowsV s.rack).length : Nat) :: rowsV s.rack)) → Q (.ref e) H'
abbrev scKeeperState_N : List Str := ["self", "row", "tube"]
theorem scKeeperState : FnScope ["self", "row", "tube"] ["self"] (defScope sKeeperState) := ⟨rfl, rfl, rfl, by decide +kernel, rfl, by decide +kernel, by decide +kernel⟩
theorem ok_KeeperState (T : Txt K mg a) : FnOk P w K mg base CX0 2 a.fKeeperState a.dKeeperState ["self"] (spKeeperState a) := by
  refine T.oKeeperState.F.ok scKeeperState (fun vs H Q E h => ?_) (fun cdv A outer s H vs Q E hr h => ?_)
  · obtain ⟨_, _, rfl, _⟩ := h
    rfl
  · obtain ⟨k, s, rfl, ⟨dx, r, hKa⟩, hF, q⟩ := h
    refine ⟨_, (pss_cons (ps_set (i := 1) scKeeperState.nd rfl (Or.inl rfl) (pe_lst pa_nil))
      (pss_cons (ps_for PassesOwn.never rfl (pi_tup (pe_fld (pv 0) rfl)) (pg_name (i := 2) scKeeperState.nd rfl (Or.inl rfl)) (pss_one (ps_set (i := 1) scKeeperState.nd rfl (Or.inl rfl) (pe_op op_cat (pv 1) (pe_call (ok_Listed T) (hr.mono (by decide)) rfl T.oListed.g T.oListed.F.kp T.oListed.b .nil pass0 (pa_cons (pv 2) pa_nil))))))
      (pss_one (ps_ret (pe_op op_cat (pe_op op_cat (pe_lst (pa_cons (pe_fld (pv 0) rfl) pa_nil)) (pe_call (ok_Listed T) (hr.mono (by decide)) rfl T.oListed.g T.oListed.F.kp T.oListed.b .nil pass0 (pa_cons (pe_lst (pa_cons (pe_fld (pv 0) rfl) (pa_cons (pe_callB call_len_seq (by rfl) T.bLen PySem.boot_len (pa_cons (pe_fld (pv 0) rfl) pa_nil)) pa_nil))) pa_nil))) (pe_call (ok_Listed T) (hr.mono (by decide)) rfl T.oListed.g T.oListed.F.kp T.oListed.b .nil pass0 (pa_cons (pv 1) pa_nil))))))), ?_⟩
    obtain ⟨ts, hts, pr⟩ := hKa.rack
    have hl := paired_len pr
    refine ⟨zero_le_line, fun e0 he0 => ?_⟩
    have s0 := same_upd (o := .lst []) he0
    have hK0 := hKa.same s0
    have hrl := rowsV_length hF.fits4
    have h5 := hF.t5
    refine ⟨_, rfl, k, _, _, _, _, rfl, hK0.ins, T.clKeeper, T.nKeeperRack, lk_rack, r, rfl, ⟨_, SqT.of (s0 _ _ hts)⟩, ?_⟩
    refine for_tup (xs := ts.map V.ref) (fun i σ H' => ∃ (e : Addr) (v : Option V), σ = [some (.ref k), some (.ref e), v] ∧ Same H H' ∧ H' e = some (.lst (rowsV (s.rack.take i)))) ⟨e0, none, rfl, s0, upd_same⟩ (fun i σ H' _ ⟨_, _, _, sm, _⟩ => SqT.of (sm _ _ hts)) ?_ ?_
    · rintro i x σ H1 hi ⟨e, v, rfl, sm, he⟩
      obtain ⟨t, ht, rfl⟩ := refs_get hi
      obtain ⟨l, hl2, htl⟩ := paired_ix pr ht
      have hfl := hF.fits4 l (List.mem_of_getElem? hl2)
      have tq : H1 t = some (.tup (tubeV l)) := sm _ _ htl
      have h2 := rowsV_length (n := 4) (r := s.rack.take i) fun x hx => hF.fits4 x (List.mem_of_mem_take hx)
      have h3 := List.length_take_le' i s.rack
      have h4 : (s.rack.take i).length * 5 ≤ 5 * 5 := Nat.mul_le_mul (by omega) (Nat.le_refl _)
      refine ⟨_, rfl, _, rfl, t, _, rfl, .inr tq, by rw [tubeV_length]; omega, fun f H2 s2 hf => ?_⟩
      refine ⟨e, f, _, _, rfl, rfl, s2 _ _ he, hf, ?_, fun g hg => ?_⟩
      · rw [List.length_cons, tubeV_length, sizeLine_eq]
        omega
      · refine ⟨g, _, rfl, (sm.trans s2).trans (same_upd hg), ?_⟩
        rw [upd_same, tubeV_length]
        unfold rowsV
        rw [List.take_add_one, hl2, List.flatMap_append]
        simp
    · rintro σ H1 ⟨e, v, rfl, sm, he⟩
      rw [List.length_map, hl, List.take_length] at he
      have hK1 := hKa.same sm
      refine ⟨_, rfl, k, _, _, _, _, rfl, hK1.ins, T.clKeeper, T.nKeeperCount, lk_count, (by show 1 ≤ sizeLine; decide), fun e1 he1 => ?_⟩
      have s1 := same_upd (o := .lst [.int (s.done : Nat)]) he1
      have hK2 := hK1.same s1
      refine ⟨_, rfl, k, _, _, _, _, rfl, hK2.ins, T.clKeeper, T.nKeeperRoom, lk_room, _, rfl, k, _, _, _, _, rfl, hK2.ins, T.clKeeper, T.nKeeperRack, lk_rack, r, _, rfl, Or.inr (SqT.of (s1 _ _ (sm _ _ hts))), (by show 2 ≤ sizeLine; decide), fun e2 he2 => ?_⟩
      refine ⟨e2, _, rfl, .inl upd_same, (by show 2 ≤ 1000000; decide), fun e3 H3 s3 he3 => ?_⟩
      have s23 := (same_upd (o := .lst [.int (s.holds : Nat), .int ((ts.map V.ref).length : Nat)]) he2).trans s3
      refine ⟨e1, e3, _, _, rfl, rfl, s23 _ _ upd_same, he3, (by show 1 + 3 ≤ sizeLine; decide), fun e4 he4 => ?_⟩
      have s4 := s23.trans (same_upd (o := .lst ([V.int (s.done : Nat)] ++ V.int (([V.int (s.holds : Nat), V.int ((ts.map V.ref).length : Nat)] : List V).length : Nat) :: [V.int (s.holds : Nat), V.int ((ts.map V.ref).length : Nat)])) he4)
      have he' := s4 _ _ (s1 _ _ he)
      refine ⟨_, rfl, e, _, rfl, .inl he', by omega, fun e5 H5 s5 he5 => ?_⟩
      refine ⟨e4, e5, _, _, rfl, rfl, s5 _ _ upd_same, he5, ?_, fun e6 he6 => ?_⟩
      · rw [sizeLine_eq]
        show 4 + ((rowsV s.rack).length + 1) ≤ _
        omega
      · refine q e6 _ (New.of (((sm.trans s1).trans s4).trans s5) he6) ?_
        rw [upd_same, List.length_map, hl]
        rfl
end
end Td

/-! keeper.py: coming and what asks it. -/
namespace Td
open PySem PySem.Spec PyProof.Rows L2 L2H

/-- C(..) within a try: what __init__ raises is wished for at the slots as they stand -/
def tMakeS (C : Addr) (sp : Sp) (E : L2.St → XK) (t : TA) : TE := fun σ H Q => t σ H fun vs H1 => ∀ x dx, H1 x = none → H1 dx = none → dx ≠ x →
  sp (.ref x :: vs) (upd (upd H1 dx (.own x)) x (.ins C dx [])) (fun v H2 => v = .non ∧ Q (.ref x) H2) (E σ)
theorem pe_makeS {X : Cx} {CX : CXT} {k : Nat} {f C : Addr} {fd : FuncData} {ps : List Str} {sp : Sp} {E : L2.St → XK} {x : Str} {p pos : Pos} {e : Expr} {es : List Expr} {t : TA} (M : Mk X.K C f) (F : FnOk X.prog X.w X.K X.mg X.base CX k f fd ps sp) (hr : Room (k + 1) X.A) (hg : Gl X x) (hm : X.mg x = some (.ref C)) (hb : Binds X.K fd ps [])
    (hx : ∀ σ, PassesAt CX X σ (E σ)) (ha : PA X (e :: es) t) (hdb : (x == ("__debug__" : Str)) = false := by decide) (he : starEach (e :: es) X.env = (false, eval e X.env) :: starEach es X.env := by rfl) (hpl : (backTo pos (starEach es X.env)).any (·.1) = false := by rfl) :
    PE X (.Call (.Name x p) (e :: es) [] pos) (tMakeS C sp E t) := by
  refine ⟨fun pins s σ H Q I h => ?_⟩
  refine wpAny_Call_Name_kw (ld_glob I hg hm ?_ hdb)
  refine PySem.W.callWith_K (h₀ := X.base) I.ok.mod.kin M.kp (thn (ha.run pos pins s σ H _ I h) fun us s1 ⟨vs, H1, I1, r, q⟩ => ⟨I1.kIn, ?_⟩) he hpl
  have hq := q (s1.heap.objs.size + 1) s1.heap.objs.size (I1.hok.fresh (Nat.le_succ _)) (I1.hok.fresh (Nat.le_refl _)) (Nat.ne_of_lt (Nat.lt_succ_self _))
  have I2 := Inv.made (C := C) I1
  have r2 : Vals (V.ref (s1.heap.objs.size + 1) :: vs) (Value.ref (s1.heap.objs.size + 1) :: us) := .cons rfl r
  have hl : (Value.ref (s1.heap.objs.size + 1) :: us ++ []).length = ps.length := by
    rw [List.append_nil, ← Paired.length r2]
    exact F.len _ _ _ _ hq
  have hbs := hb _ (Value.ref (s1.heap.objs.size + 1) :: us) I2.kIn hl
  rw [List.append_nil] at hbs
  show wpAny _ _ (call (.ref C) us) _ _ _
  refine wpAny_call (make_map (f := f) I1.kIn M.makes M.init (beq_iff_eq.mp M.fn) (codeAny_mono (F.run _ X.stack _ _ ⟨Value.ref (s1.heap.objs.size + 1) :: us, []⟩ (Value.ref (s1.heap.objs.size + 1) :: us) _ _ (E σ) (hr.make C us [])
    (I2.env0.make C us []) hbs r2 hq) fun r s' hq' => ?_))
  cases r with
  | error e => exact hx σ pins _ _ e s' I2 hq'
  | ok fl =>
    cases fl with
    | ret u =>
      obtain ⟨v, H', I3, rv, ev, q3⟩ := I2.after hq'
      subst ev
      exact ⟨rv, ⟨V.ref (s1.heap.objs.size + 1), H', I3, rfl, q3⟩⟩
    | next => exact False.elim hq'
    | brk => exact False.elim hq'
    | cont => exact False.elim hq'

section
variable {P : Program} {w : World} {K : PySem.W.Frag} {mg : Str → Option Value} {base : Heap} {a : Adr}
/-- what coming gives: the racks L (closed), the distances told -/
structure Came (n : Nat) (r0 : Sy71.Rack) (L : List Sy71.Rack) (m : Nat) : Prop where
  que : Que n r0 L L.length
  few : L.length ≤ 300
  stop : more n L (distD n L (zeros L) m) m = []
  go : ∀ j, j < m → more n L (distD n L (zeros L) j) j ≠ []
/-- too many come about -/
def Many (n : Nat) (r0 : Sy71.Rack) : Prop := ∃ L : List Sy71.Rack, L.Nodup ∧ (∀ r ∈ L, Reach n r0 r) ∧ 300 < L.length
def spKeeperComing (a : Adr) : Sp := fun vs H Q E => ∃ (k : Addr) (s : Sy71.St), vs = [.ref k] ∧ KeeperAt a H k s ∧ Fine s ∧ (Many s.holds s.rack → ∀ H', Same H H' → Refuses a E (-9) H') ∧
  (∀ c u L m H', Same H H' → Came s.holds s.rack L m → CAt a H' c u s.holds L (distD s.holds L (zeros L) m) → Q (.ref c) H')
abbrev scKeeperComing_N : List Str := ["self", "e"]
theorem scKeeperComing : FnScope ["self", "e"] ["self"] (defScope sKeeperComing) := ⟨rfl, rfl, rfl, by decide +kernel, rfl, by decide +kernel, by decide +kernel⟩
theorem ok_KeeperComing (T : Txt K mg a) : FnOk P w K mg base (L2.CX P w) 7 a.fKeeperComing a.dKeeperComing ["self"] (spKeeperComing a) := by
  refine T.oKeeperComing.F.okX scKeeperComing (fun vs H Q E h => ?_) (fun cdv A outer s H vs Q E hr h => ?_)
  · obtain ⟨_, _, rfl, _⟩ := h
    rfl
  · obtain ⟨k, s, rfl, hK, hF, q9, q⟩ := h
    refine ⟨_, pss_one (ps_try_asR (i := 1) (E := E) (tb := fun W => tRet (tMakeS a.cComing (spComingInit a) (WE W) (tCons (tFld K (tVar 0) "rack") (tCons (tFld K (tVar 0) "room") tNil))))
      (ts := fun x cls d => fun _ σ H => PySem.W.subIn K cls (.type "BaseException") = some true ∧ σ[1]? = some (some (.ref x)) ∧ tMkO a.cRefused (spRefusedInit a) [] (tCons (tC (.int (-9))) tNil) σ H fun cls d H' => E cls d H')
      rfl rfl rfl rfl scKeeperComing.nd rfl rfl ⟨rfl, by decide, .inl T.gTooMany⟩
      (fun W pn xe tk _ => pss_one (ps_ret (pe_makeS T.oComingInit.M (ok_ComingInit T) (hr.mono (by decide)) rfl T.gComing T.oComingInit.b (fun σ => L2N.passAt tk σ) (pa_cons (pe_fldK K rfl (pv 0) rfl) (pa_cons (pe_fldK K rfl (pv 0) rfl) pa_nil)))))
      (fun x oe cls d pn xe hz hf tk hot => pss_one (ps_raiseFE (i := 1) rfl List.mem_cons_self hz hf rfl rfl tk (pmk5_oexH T.oexRefused T.iRefused T.tRefused (hot_RefusedInit T) (roomH_mark (hr.mono (by decide)) _) hot T.bRefusedInit pass0 (by rfl) T.gRefused (pa_cons (pe_const T.vTooMany) pa_nil))))), ?_⟩
    obtain ⟨dx, r, hKa⟩ := id hK
    refine ⟨_, rfl, k, _, _, _, _, rfl, hKa.ins, T.clKeeper, T.nKeeperRack, lk_rack, _, rfl, k, _, _, _, _, rfl, hKa.ins, T.clKeeper, T.nKeeperRoom, lk_room, fun c dc hc hd hdc => ?_⟩
    have s0 : Same H (upd (upd H dc (.own c)) c (.ins a.cComing dc [])) := fun b o h => by
      rw [upd_ne (ne_of_none h hc), upd_ne (ne_of_none h hd)]
      exact h
    have sk : ∀ {H' : Hp}, (∀ b o, b ≠ c → (upd (upd H dc (.own c)) c (.ins a.cComing dc [])) b = some o → H' b = some o) → Same H H' := fun kp b o h => kp b o (ne_of_none h hc) (s0 _ _ h)
    refine ⟨c, dc, r, s.rack, s.holds, rfl, upd_same, hKa.rack.same s0, hF.fits, hF.h4, hF.t5, fun L H' nd rc many kp => ?_, fun u L m H' hQ hl hm hne hC kp => ⟨rfl, ?_⟩⟩
    · refine ⟨true, T.eTooMany, fun _ x hx => ⟨T.bTooMany, rfl, ?_⟩, fun z => Bool.noConfusion z⟩
      refine ⟨(by show 1 ≤ 1000; decide), fun e he => ⟨e, _, rfl, upd_same, fun dx' h1 h2 => ⟨rfl, dx', [("answer", .int (-9))], upd_same, ?_, ?_, ?_⟩⟩⟩
      · rw [upd_ne h2, upd_same]
      · rw [upd_ne h2] at h1
        exact h1
      · exact q9 ⟨L, nd, rc, many⟩ H' (sk kp) dx' _ (refused_end he h1 h2) upd_same
    · exact q c u L m H' (sk kp) ⟨hQ, hl, hm, hne⟩ hC
end
end Td

/-! Plain Lean: the queue's racks are Sy71.reach, the distances told are Sy71.distance, the plan is Sy71.plan. -/
namespace Td
open L2

/-! ### Sy71.fresh, Sy71.grown -/
theorem fresh_step (seen m : List Sy71.Rack) (l : List Sy71.Rack) : (l.foldl (fun (m : List Sy71.Rack) (r : Sy71.Rack) => if seen.contains r = true ∨ m.contains r = true then m else m ++ [r]) m).Nodup ∧
    (∀ x, x ∈ l.foldl (fun (m : List Sy71.Rack) (r : Sy71.Rack) => if seen.contains r = true ∨ m.contains r = true then m else m ++ [r]) m ↔ x ∈ m ∨ (x ∈ l ∧ x ∉ seen)) ∨ ¬ (m.Nodup ∧ ∀ x ∈ m, x ∉ seen) := by
  induction l generalizing m with
  | nil =>
    by_cases h : m.Nodup ∧ ∀ x ∈ m, x ∉ seen
    · exact .inl ⟨h.1, fun x => by simp⟩
    · exact .inr h
  | cons y l ih =>
    by_cases h : m.Nodup ∧ ∀ x ∈ m, x ∉ seen
    · rw [List.foldl_cons]
      by_cases c : seen.contains y = true ∨ m.contains y = true
      · rw [if_pos c]
        rcases ih m with ih | ih
        · refine .inl ⟨ih.1, fun x => (ih.2 x).trans ?_⟩
          constructor
          · rintro (z | ⟨z1, z2⟩)
            · exact .inl z
            · exact .inr ⟨List.mem_cons_of_mem _ z1, z2⟩
          · rintro (z | ⟨z1, z2⟩)
            · exact .inl z
            · rcases List.mem_cons.mp z1 with e | z1
              · rw [e] at z2 ⊢
                rcases c with c | c
                · exact absurd (List.contains_iff_mem.mp c) z2
                · exact .inl (List.contains_iff_mem.mp c)
              · exact .inr ⟨z1, z2⟩
        · exact absurd h ih
      · rw [if_neg c]
        have c1 : y ∉ seen := fun z => c (.inl (List.contains_iff_mem.mpr z))
        have c2 : y ∉ m := fun z => c (.inr (List.contains_iff_mem.mpr z))
        have h2 : (m ++ [y]).Nodup ∧ ∀ x ∈ m ++ [y], x ∉ seen := by
          refine ⟨?_, fun x hx => ?_⟩
          · rw [List.nodup_append]
            refine ⟨h.1, by simp, fun a ha b hb e => ?_⟩
            rw [List.mem_singleton.mp hb] at e
            rw [e] at ha
            exact c2 ha
          · rcases List.mem_append.mp hx with hx | hx
            · exact h.2 x hx
            · rw [List.mem_singleton.mp hx]
              exact c1
        rcases ih (m ++ [y]) with ih | ih
        · refine .inl ⟨ih.1, fun x => (ih.2 x).trans ?_⟩
          rw [List.mem_append, List.mem_singleton, List.mem_cons]
          constructor
          · rintro ((z | z) | ⟨z1, z2⟩)
            · exact .inl z
            · exact .inr ⟨.inl z, by rw [z]; exact c1⟩
            · exact .inr ⟨.inr z1, z2⟩
          · rintro (z | ⟨z1 | z1, z2⟩)
            · exact .inl (.inl z)
            · exact .inl (.inr z1)
            · exact .inr ⟨z1, z2⟩
        · exact absurd h2 ih
    · exact .inr h
theorem fresh_is (l seen : List Sy71.Rack) : (Sy71.fresh l seen).Nodup ∧ ∀ x, x ∈ Sy71.fresh l seen ↔ x ∈ l ∧ x ∉ seen := by
  rcases fresh_step seen [] l with h | h
  · refine ⟨h.1, fun x => (h.2 x).trans ?_⟩
    simp
  · exact absurd ⟨List.nodup_nil, fun x hx => by cases hx⟩ h
/-- closed under pourings -/
def Closed (n : Nat) (L : List Sy71.Rack) : Prop := ∀ r ∈ L, ∀ x ∈ pourings n r, x.2.2 ∈ L
theorem Reach.mem {n : Nat} {r0 : Sy71.Rack} {L : List Sy71.Rack} (hc : Closed n L) (h0 : r0 ∈ L) {r : Sy71.Rack} (h : Reach n r0 r) : r ∈ L := by
  induction h with
  | refl => exact h0
  | step _ hx ih => exact hc _ ih _ hx
theorem mem_nexts {n : Nat} {r u : Sy71.Rack} : u ∈ Sy71.nexts n r ↔ ∃ x ∈ pourings n r, x.2.2 = u := by
  rw [nexts_pourings, List.mem_map]
structure Grow (n : Nat) (r0 : Sy71.Rack) (f : Nat) (now seen : List Sy71.Rack) : Prop where
  nd : seen.Nodup
  first : r0 ∈ seen
  reach : ∀ r ∈ seen, Reach n r0 r
  sub : ∀ r ∈ now, r ∈ seen
  done : ∀ r ∈ seen, r ∉ now → ∀ x ∈ pourings n r, x.2.2 ∈ seen
  fuel : now = [] ∨ 302 ≤ f + seen.length
theorem grown_is (n : Nat) (r0 : Sy71.Rack) : ∀ (f : Nat) (now seen : List Sy71.Rack), Grow n r0 f now seen →
    (Sy71.grown n f now seen).Nodup ∧ r0 ∈ Sy71.grown n f now seen ∧ (∀ r ∈ Sy71.grown n f now seen, Reach n r0 r) ∧ ((Sy71.grown n f now seen).length ≤ 300 → Closed n (Sy71.grown n f now seen))
  | 0, now, seen, g => by
    refine ⟨g.nd, g.first, g.reach, fun hl => ?_⟩
    have hl : seen.length ≤ 300 := hl
    rcases g.fuel with e | e
    · intro r hr x hx
      exact g.done r hr (by rw [e]; simp) x hx
    · omega
  | f + 1, now, seen, g => by
    unfold Sy71.grown
    by_cases c : now.isEmpty = true ∨ Sy71.MANY < seen.length
    · rw [if_pos c]
      refine ⟨g.nd, g.first, g.reach, fun hl => ?_⟩
      rcases c with c | c
      · intro r hr x hx
        exact g.done r hr (by rw [List.isEmpty_iff.mp c]; simp) x hx
      · exact absurd c (by show ¬ 300 < seen.length; omega)
    · rw [if_neg c]
      obtain ⟨f1, f2⟩ := fresh_is (now.flatMap (Sy71.nexts n)) seen
      refine grown_is n r0 f _ _ ⟨?_, ?_, ?_, ?_, ?_, ?_⟩
      · rw [List.nodup_append]
        refine ⟨g.nd, f1, fun x hx y hy e => ?_⟩
        rw [← e] at hy
        exact ((f2 x).mp hy).2 hx
      · exact List.mem_append.mpr (.inl g.first)
      · intro r hr
        rcases List.mem_append.mp hr with hr | hr
        · exact g.reach r hr
        · obtain ⟨h1, _⟩ := (f2 r).mp hr
          obtain ⟨q, hq, h3⟩ := List.mem_flatMap.mp h1
          obtain ⟨x, hx, e⟩ := mem_nexts.mp h3
          rw [← e]
          exact .step (g.reach q (g.sub q hq)) hx
      · exact fun r hr => List.mem_append.mpr (.inr hr)
      · intro r hr hn x hx
        have hrs : r ∈ seen := by
          rcases List.mem_append.mp hr with hr | hr
          · exact hr
          · exact absurd hr hn
        by_cases hnow : r ∈ now
        · by_cases hs : x.2.2 ∈ seen
          · exact List.mem_append.mpr (.inl hs)
          · exact List.mem_append.mpr (.inr ((f2 _).mpr ⟨List.mem_flatMap.mpr ⟨r, hnow, mem_nexts.mpr ⟨x, hx, rfl⟩⟩, hs⟩))
        · exact List.mem_append.mpr (.inl (g.done r hrs hnow x hx))
      · cases e : Sy71.fresh (now.flatMap (Sy71.nexts n)) seen with
        | nil => exact .inl rfl
        | cons y l =>
          refine .inr ?_
          rcases g.fuel with z | z
          · exact absurd (.inl (by rw [z]; rfl)) c
          · rw [List.length_append, List.length_cons]
            omega
theorem reach_is (s : Sy71.St) : (Sy71.reach s).Nodup ∧ s.rack ∈ Sy71.reach s ∧ (∀ r ∈ Sy71.reach s, Reach s.holds s.rack r) ∧ ((Sy71.reach s).length ≤ 300 → Closed s.holds (Sy71.reach s)) := by
  refine grown_is s.holds s.rack 302 [s.rack] [s.rack] ⟨by simp, by simp, fun r hr => ?_, fun r hr => hr, fun r hr hn => absurd hr hn, .inr (by simp)⟩
  rw [List.mem_singleton.mp hr]
  exact .refl
theorem Que.isClosed {n : Nat} {r0 : Sy71.Rack} {L : List Sy71.Rack} (h : Que n r0 L L.length) : Closed n L := fun r hr x hx => by
  obtain ⟨j, hj⟩ := List.mem_iff_getElem?.mp hr
  exact h.closed j r (List.getElem?_eq_some_iff.mp hj).1 hj x hx
theorem many_is {s : Sy71.St} (h : Many s.holds s.rack) : Sy71.tooMany s = true := by
  obtain ⟨L, nd, rc, hl⟩ := h
  obtain ⟨h1, h2, h3, h4⟩ := reach_is s
  refine decide_eq_true ?_
  show 300 < (Sy71.reach s).length
  rcases Nat.lt_or_ge 300 (Sy71.reach s).length with z | z
  · exact z
  · have := length_le_of nd fun r hr => Reach.mem (h4 z) h2 (rc r hr)
    omega
theorem came_mem {s : Sy71.St} {L : List Sy71.Rack} {m : Nat} (h : Came s.holds s.rack L m) : Sy71.tooMany s = false ∧ ∀ r, r ∈ L ↔ r ∈ Sy71.reach s := by
  obtain ⟨h1, h2, h3, h4⟩ := reach_is s
  have hc := h.que.isClosed
  have sub : ∀ r ∈ Sy71.reach s, r ∈ L := fun r hr => Reach.mem hc h.que.first (h3 r hr)
  have hl := length_le_of h1 sub
  have hl2 := h.few
  refine ⟨decide_eq_false (show ¬ 300 < (Sy71.reach s).length by omega), fun r => ⟨fun hr => Reach.mem (h4 (by omega)) h2 (h.que.reach r hr), sub r⟩⟩
/-- two lists without doubles, of the same -/
theorem same_len {α : Type} [DecidableEq α] {l m : List α} (h1 : l.Nodup) (h2 : m.Nodup) (h : ∀ x, x ∈ l ↔ x ∈ m) : l.length = m.length :=
  Nat.le_antisymm (length_le_of h1 fun x hx => (h x).mp hx) (length_le_of h2 fun x hx => (h x).mpr hx)
end Td

/-! Plain Lean: the distances told are Sy71.distance; the plan. -/
namespace Td
open L2

/-! ### the distances told -/
theorem mem_more {n : Nat} {L : List Sy71.Rack} {D : Sy71.Rack → Option Nat} {c : Nat} {r : Sy71.Rack} : r ∈ more n L D c ↔ r ∈ L ∧ D r = none ∧ ∃ x ∈ pourings n r, D x.2.2 = some c := by
  unfold more leads
  rw [List.mem_filter, Bool.and_eq_true, List.any_eq_true]
  constructor
  · rintro ⟨h1, h2, x, hx, h3⟩
    refine ⟨h1, ?_, x, hx, by simpa using h3⟩
    cases e : D r with
    | none => rfl
    | some k => rw [e] at h2; cases h2
  · rintro ⟨h1, h2, x, hx, h3⟩
    exact ⟨h1, by rw [h2]; rfl, x, hx, by simpa using h3⟩
theorem told_is {D : Sy71.Rack → Option Nat} {M : List Sy71.Rack} {c : Nat} {r : Sy71.Rack} : (r ∈ M → toldD D M c r = some (c + 1)) ∧ (r ∉ M → toldD D M c r = D r) := by
  unfold toldD
  exact ⟨fun h => if_pos (List.contains_iff_mem.mpr h), fun h => if_neg fun z => h (List.contains_iff_mem.mp z)⟩
section
variable {n : Nat} {L : List Sy71.Rack}
/-- no more than the turn -/
theorem dist_le : ∀ (c : Nat) {r : Sy71.Rack} {k : Nat}, distD n L (zeros L) c r = some k → k ≤ c
  | 0, r, k, h => by
    have h : zeros L r = some k := h
    unfold zeros at h
    split at h
    · cases h; exact Nat.le_refl _
    · cases h
  | c + 1, r, k, h => by
    have h : toldD (distD n L (zeros L) c) (more n L (distD n L (zeros L) c) c) c r = some k := h
    by_cases e : r ∈ more n L (distD n L (zeros L) c) c
    · rw [told_is.1 e] at h
      cases h
      exact Nat.le_refl _
    · rw [told_is.2 e] at h
      exact Nat.le_succ_of_le (dist_le c h)
theorem dist_stays (c : Nat) {r : Sy71.Rack} {k : Nat} (h : distD n L (zeros L) c r = some k) : distD n L (zeros L) (c + 1) r = some k := by
  show toldD (distD n L (zeros L) c) (more n L (distD n L (zeros L) c) c) c r = some k
  rw [told_is.2 fun e => by rw [(mem_more.mp e).2.1] at h; cases h]
  exact h
theorem dist_from {c : Nat} : ∀ (d : Nat) {r : Sy71.Rack} {k : Nat}, distD n L (zeros L) c r = some k → distD n L (zeros L) (c + d) r = some k
  | 0, _, _, h => h
  | d + 1, _, _, h => dist_stays (c + d) (dist_from d h)
/-- told at that very turn -/
theorem dist_at : ∀ (c : Nat) {r : Sy71.Rack} {k : Nat}, distD n L (zeros L) c r = some k → distD n L (zeros L) k r = some k
  | 0, r, k, h => by
    have := dist_le 0 h
    obtain rfl : k = 0 := by omega
    exact h
  | c + 1, r, k, h => by
    by_cases e : r ∈ more n L (distD n L (zeros L) c) c
    · have h' : toldD (distD n L (zeros L) c) (more n L (distD n L (zeros L) c) c) c r = some k := h
      rw [told_is.1 e] at h'
      cases h'
      exact h
    · have h' : toldD (distD n L (zeros L) c) (more n L (distD n L (zeros L) c) c) c r = some k := h
      rw [told_is.2 e] at h'
      exact dist_at c h'
theorem dist_more {k : Nat} {r : Sy71.Rack} (h : distD n L (zeros L) (k + 1) r = some (k + 1)) : r ∈ more n L (distD n L (zeros L) k) k := by
  by_cases e : r ∈ more n L (distD n L (zeros L) k) k
  · exact e
  · have h' : toldD (distD n L (zeros L) k) (more n L (distD n L (zeros L) k) k) k r = some (k + 1) := h
    rw [told_is.2 e] at h'
    have := dist_le k h'
    omega
theorem dist_down {c k : Nat} {r : Sy71.Rack} (h : distD n L (zeros L) c r = some (k + 1)) : ∃ x ∈ pourings n r, distD n L (zeros L) c x.2.2 = some k := by
  obtain ⟨_, _, x, hx, e⟩ := mem_more.mp (dist_more (dist_at c h))
  have hle := dist_le c h
  have := dist_from (c := k) (c - k) e
  rw [show k + (c - k) = c by omega] at this
  exact ⟨x, hx, this⟩
theorem dist_sub : ∀ (c : Nat) {r : Sy71.Rack}, (distD n L (zeros L) c r).isSome = true → r ∈ L
  | 0, r, h => by
    have h : (zeros L r).isSome = true := h
    unfold zeros at h
    split at h
    · rename_i c
      exact List.contains_iff_mem.mp c.1
    · cases h
  | c + 1, r, h => by
    by_cases e : r ∈ more n L (distD n L (zeros L) c) c
    · exact (mem_more.mp e).1
    · have h' : (toldD (distD n L (zeros L) c) (more n L (distD n L (zeros L) c) c) c r).isSome = true := h
      rw [told_is.2 e] at h'
      exact dist_sub c h'
/-- the turns are no more than the racks -/
theorem turns_le : ∀ (m : Nat), (∀ j, j < m → more n L (distD n L (zeros L) j) j ≠ []) → m + blank L (distD n L (zeros L) m) ≤ L.length
  | 0, _ => by
    unfold blank
    have := List.length_filter_le (fun r => !(distD n L (zeros L) 0 r).isSome) L
    omega
  | m + 1, h => by
    have ih := turns_le m fun j hj => h j (Nat.lt_succ_of_lt hj)
    have := blank_less (h m (Nat.lt_succ_self m))
    have e : distD n L (zeros L) (m + 1) = toldD (distD n L (zeros L) m) (more n L (distD n L (zeros L) m) m) m := rfl
    rw [e]
    omega
end
theorem Came.good {n : Nat} {r0 : Sy71.Rack} {L : List Sy71.Rack} {m : Nat} (h : Came n r0 L m) (hn : n ≤ 4) (h5 : r0.length ≤ 5) : Good n L (distD n L (zeros L) m) where
  closed := h.que.isClosed
  down := fun r _ k e => by
    obtain ⟨x, hx, e2⟩ := dist_down e
    cases e3 : (pourings n r).find? (fun x => distD n L (zeros L) m x.2.2 == some k) with
    | some y => exact ⟨y, rfl⟩
    | none =>
      have := List.find?_eq_none.mp e3 x hx
      rw [e2] at this
      simp at this
  small := fun r hr => by
    obtain ⟨f1, f2⟩ := h.que.fits r hr
    exact ⟨fun l hl => Nat.le_trans (f1 l hl) hn, by rw [f2]; exact h5⟩
theorem Came.turns {n : Nat} {r0 : Sy71.Rack} {L : List Sy71.Rack} {m : Nat} (h : Came n r0 L m) : m ≤ 300 := by
  have := turns_le m h.go
  have := h.few
  omega

/-! ### the levels -/
def nowA (n : Nat) (R : List Sy71.Rack) : Nat → List Sy71.Rack × List Sy71.Rack
  | 0 => (R.filter Sy71.sorted, R.filter fun r => !Sy71.sorted r)
  | j + 1 => let l := (nowA n R j).2.filter fun (r : Sy71.Rack) => (Sy71.nexts n r).any fun (u : Sy71.Rack) => (nowA n R j).1.contains u
    (l, (nowA n R j).2.filter fun (r : Sy71.Rack) => !l.contains r)
theorem levels_are (n : Nat) (R : List Sy71.Rack) : ∀ (t f j : Nat), t < f → (∀ i, i < t → (nowA n R (j + i)).1 ≠ []) → (nowA n R (j + t)).1 = [] →
    Sy71.levels n f (nowA n R j).1 (nowA n R j).2 = (List.range t).map fun i => (nowA n R (j + i)).1
  | 0, 0, j, h, _, _ => absurd h (Nat.lt_irrefl _)
  | 0, f + 1, j, _, _, h => by
    unfold Sy71.levels
    rw [show (nowA n R j).1 = [] from h]
    rfl
  | t + 1, 0, j, h, _, _ => absurd h (Nat.not_lt_zero _)
  | t + 1, f + 1, j, h, h1, h2 => by
    unfold Sy71.levels
    have ne : (nowA n R j).1 ≠ [] := h1 0 (Nat.succ_pos _)
    rw [if_neg fun z => ne (List.isEmpty_iff.mp z)]
    have ih := levels_are n R t f (j + 1) (by omega) (fun i hi => by rw [show j + 1 + i = j + (i + 1) by omega]; exact h1 (i + 1) (by omega)) (by rw [show j + 1 + t = j + (t + 1) by omega]; exact h2)
    show (nowA n R j).1 :: Sy71.levels n f (nowA n R (j + 1)).1 (nowA n R (j + 1)).2 = _
    rw [ih, List.range_succ_eq_map, List.map_cons, List.map_map]
    congr 1
    apply List.map_congr_left
    intro i _
    show (nowA n R (j + 1 + i)).1 = (nowA n R (j + (i + 1))).1
    rw [show j + 1 + i = j + (i + 1) by omega]
section
variable {n : Nat} {L R : List Sy71.Rack}
theorem levels_told (hLR : ∀ r, r ∈ L ↔ r ∈ R) : ∀ (j : Nat) (r : Sy71.Rack), (∀ k, k ≤ j → (r ∈ (nowA n R k).1 ↔ distD n L (zeros L) j r = some k)) ∧ (r ∈ (nowA n R j).2 ↔ r ∈ L ∧ distD n L (zeros L) j r = none)
  | 0, r => by
    have e : distD n L (zeros L) 0 r = if L.contains r = true ∧ Sy71.sorted r = true then some 0 else none := rfl
    refine ⟨fun k hk => ?_, ?_⟩
    · obtain rfl : k = 0 := by omega
      show r ∈ R.filter Sy71.sorted ↔ _
      rw [List.mem_filter, ← hLR, e]
      by_cases c : L.contains r = true ∧ Sy71.sorted r = true
      · rw [if_pos c]
        exact ⟨fun _ => rfl, fun _ => ⟨List.contains_iff_mem.mp c.1, c.2⟩⟩
      · rw [if_neg c]
        exact ⟨fun z => absurd ⟨List.contains_iff_mem.mpr z.1, z.2⟩ c, fun z => by cases z⟩
    · show r ∈ R.filter (fun r => !Sy71.sorted r) ↔ _
      rw [List.mem_filter, ← hLR, e]
      by_cases c : L.contains r = true ∧ Sy71.sorted r = true
      · rw [if_pos c, c.2]
        exact ⟨fun z => (by cases z.2), fun z => (by cases z.2)⟩
      · rw [if_neg c]
        refine ⟨fun z => ⟨z.1, rfl⟩, fun z => ⟨z.1, ?_⟩⟩
        cases e2 : Sy71.sorted r with
        | false => rfl
        | true => exact absurd ⟨List.contains_iff_mem.mpr z.1, e2⟩ c
  | j + 1, r => by
    obtain ⟨ih1, ih2⟩ := levels_told hLR j r
    have hnew : r ∈ (nowA n R (j + 1)).1 ↔ r ∈ more n L (distD n L (zeros L) j) j := by
      show r ∈ (nowA n R j).2.filter (fun (r : Sy71.Rack) => (Sy71.nexts n r).any fun (u : Sy71.Rack) => (nowA n R j).1.contains u) ↔ _
      rw [List.mem_filter, ih2, mem_more, List.any_eq_true, and_assoc]
      constructor
      · rintro ⟨h1, h2, u, hu, h3⟩
        obtain ⟨x, hx, e⟩ := mem_nexts.mp hu
        refine ⟨h1, h2, x, hx, ?_⟩
        rw [e]
        exact ((levels_told hLR j u).1 j (Nat.le_refl _)).mp (List.contains_iff_mem.mp h3)
      · rintro ⟨h1, h2, x, hx, h3⟩
        exact ⟨h1, h2, x.2.2, mem_nexts.mpr ⟨x, hx, rfl⟩, List.contains_iff_mem.mpr (((levels_told hLR j x.2.2).1 j (Nat.le_refl _)).mpr h3)⟩
    have hd : distD n L (zeros L) (j + 1) r = toldD (distD n L (zeros L) j) (more n L (distD n L (zeros L) j) j) j r := rfl
    refine ⟨fun k hk => ?_, ?_⟩
    · by_cases hkj : k = j + 1
      · subst hkj
        rw [hnew]
        exact ⟨fun z => hd.trans (told_is.1 z), fun z => dist_more z⟩
      · rw [ih1 k (by omega), hd]
        by_cases e : r ∈ more n L (distD n L (zeros L) j) j
        · rw [told_is.1 e, (mem_more.mp e).2.1]
          exact ⟨fun z => (by cases z), fun z => absurd (Option.some.inj z).symm hkj⟩
        · rw [told_is.2 e]
    · show r ∈ (nowA n R j).2.filter (fun (r : Sy71.Rack) => !(nowA n R (j + 1)).1.contains r) ↔ _
      rw [List.mem_filter, ih2, hd]
      by_cases e : r ∈ more n L (distD n L (zeros L) j) j
      · rw [told_is.1 e]
        have : (nowA n R (j + 1)).1.contains r = true := List.contains_iff_mem.mpr (hnew.mpr e)
        rw [this]
        exact ⟨fun z => (by cases z.2), fun z => (by cases z.2)⟩
      · rw [told_is.2 e]
        have : (nowA n R (j + 1)).1.contains r = false := by
          cases c : (nowA n R (j + 1)).1.contains r with
          | false => rfl
          | true => exact absurd (hnew.mp (List.contains_iff_mem.mp c)) e
        rw [this]
        exact ⟨fun z => z.1, fun z => ⟨z, rfl⟩⟩
theorem new_more (hLR : ∀ r, r ∈ L ↔ r ∈ R) (j : Nat) (r : Sy71.Rack) : r ∈ (nowA n R (j + 1)).1 ↔ r ∈ more n L (distD n L (zeros L) j) j := by
  rw [(levels_told hLR (j + 1) r).1 (j + 1) (Nat.le_refl _)]
  exact ⟨fun z => dist_more z, fun z => told_is.1 z⟩
end
theorem findIdx_is (ls : List (List Sy71.Rack)) (r : Sy71.Rack) (o : Option Nat) (h : ∀ k (hk : k < ls.length), (r ∈ ls[k] ↔ o = some k)) (hb : ∀ k, o = some k → k < ls.length) : (ls.findIdx? fun (x : List Sy71.Rack) => x.contains r) = o := by
  cases o with
  | none =>
    rw [List.findIdx?_eq_none_iff]
    intro x hx
    obtain ⟨k, hk, e⟩ := List.mem_iff_getElem.mp hx
    cases c : x.contains r with
    | false => rfl
    | true =>
      rw [← e] at c
      have := (h k hk).mp (List.contains_iff_mem.mp c)
      cases this
  | some k =>
    have hk := hb k rfl
    rw [List.findIdx?_eq_some_iff_getElem]
    refine ⟨hk, List.contains_iff_mem.mpr ((h k hk).mpr rfl), fun j hj c => ?_⟩
    have := (h j (by omega)).mp (List.contains_iff_mem.mp c)
    cases this
    exact absurd hj (Nat.lt_irrefl _)
/-- the levels of the specification, and what lies in them -/
theorem ends_are {s : Sy71.St} {L : List Sy71.Rack} {m : Nat} (h : Came s.holds s.rack L m) : ∃ t, Sy71.ends s = (List.range t).map (fun i => (nowA s.holds (Sy71.reach s) i).1) ∧ t ≤ m + 1 ∧
    (∀ r k, distD s.holds L (zeros L) m r = some k → k < t) ∧ (t = m + 1 ∨ t = 0 ∧ m = 0 ∧ (nowA s.holds (Sy71.reach s) 0).1 = []) := by
  obtain ⟨_, hLR⟩ := came_mem h
  have hmt := h.turns
  have last : (nowA s.holds (Sy71.reach s) (m + 1)).1 = [] := by
    cases e : (nowA s.holds (Sy71.reach s) (m + 1)).1 with
    | nil => rfl
    | cons x l =>
      have : x ∈ (nowA s.holds (Sy71.reach s) (m + 1)).1 := by rw [e]; exact List.mem_cons_self
      rw [new_more hLR, h.stop] at this
      cases this
  by_cases c0 : (nowA s.holds (Sy71.reach s) 0).1 = []
  · have hz : ∀ r, distD s.holds L (zeros L) 0 r = none := fun r => by
      cases e : distD s.holds L (zeros L) 0 r with
      | none => rfl
      | some k =>
        have hk := dist_le 0 e
        obtain rfl : k = 0 := by omega
        have := ((levels_told (n := s.holds) hLR 0 r).1 0 (Nat.le_refl _)).mpr e
        rw [c0] at this
        cases this
    have hm0 : m = 0 := by
      cases m with
      | zero => rfl
      | succ m =>
        have := h.go 0 (Nat.succ_pos _)
        cases e : more s.holds L (distD s.holds L (zeros L) 0) 0 with
        | nil => exact absurd e this
        | cons x l =>
          have hx : x ∈ more s.holds L (distD s.holds L (zeros L) 0) 0 := by rw [e]; exact List.mem_cons_self
          obtain ⟨_, _, y, _, h3⟩ := mem_more.mp hx
          rw [hz] at h3
          cases h3
    subst hm0
    refine ⟨0, ?_, by omega, fun r k e => (by rw [hz r] at e; cases e), .inr ⟨rfl, rfl, c0⟩⟩
    have := levels_are s.holds (Sy71.reach s) 0 302 0 (by decide) (fun i hi => absurd hi (Nat.not_lt_zero _)) c0
    exact this
  · refine ⟨m + 1, ?_, Nat.le_refl _, fun r k e => Nat.lt_succ_of_le (dist_le m e), .inl rfl⟩
    have := levels_are s.holds (Sy71.reach s) (m + 1) 302 0 (by omega) (fun i hi => ?_) (by rw [Nat.zero_add]; exact last)
    · simp only [Nat.zero_add] at this
      exact this
    · rw [Nat.zero_add]
      cases i with
      | zero => exact c0
      | succ i =>
        intro z
        have hne := h.go i (by omega)
        cases e : more s.holds L (distD s.holds L (zeros L) i) i with
        | nil => exact hne e
        | cons x l =>
          have hx : x ∈ more s.holds L (distD s.holds L (zeros L) i) i := by rw [e]; exact List.mem_cons_self
          have := (new_more (n := s.holds) hLR i x).mpr hx
          rw [z] at this
          cases this
theorem distance_is {s : Sy71.St} {L : List Sy71.Rack} {m : Nat} (h : Came s.holds s.rack L m) (r : Sy71.Rack) : Sy71.distance (Sy71.ends s) r = distD s.holds L (zeros L) m r := by
  obtain ⟨t, e, ht, hb, _⟩ := ends_are h
  obtain ⟨_, hLR⟩ := came_mem h
  unfold Sy71.distance
  rw [e]
  refine findIdx_is _ r _ (fun k hk => ?_) fun k hk => by rw [List.length_map, List.length_range]; exact hb r k hk
  rw [List.length_map, List.length_range] at hk
  rw [List.getElem_map, List.getElem_range]
  exact (levels_told hLR m r).1 k (by omega)
/-- how many lie in no level -/
theorem rest_len {n : Nat} {R : List Sy71.Rack} : ∀ j, ((List.range (j + 1)).map fun i => ((nowA n R i).1).length).sum + ((nowA n R j).2).length = R.length
  | 0 => by
    show (R.filter Sy71.sorted).length + 0 + (R.filter fun r => !Sy71.sorted r).length = R.length
    induction R with
    | nil => rfl
    | cons r R ih =>
      by_cases c : Sy71.sorted r = true
      · rw [List.filter_cons_of_pos c, List.filter_cons_of_neg (by rw [c]; simp), List.length_cons, List.length_cons]
        omega
      · rw [List.filter_cons_of_neg c, List.filter_cons_of_pos (by simp [c]), List.length_cons, List.length_cons]
        omega
  | j + 1 => by
    have ih := rest_len (n := n) (R := R) j
    rw [List.range_succ, List.map_append, List.sum_append]
    have split : ∀ (l : List Sy71.Rack) (p : Sy71.Rack → Bool), (l.filter p).length + (l.filter fun r => !(l.filter p).contains r).length = l.length := by
      intro l p
      have e : (l.filter fun r => !(l.filter p).contains r) = l.filter fun r => !p r := by
        apply List.filter_congr
        intro x hx
        congr 1
        rw [Bool.eq_iff_iff, List.contains_iff_mem, List.mem_filter]
        exact ⟨fun z => z.2, fun z => ⟨hx, z⟩⟩
      rw [e]
      clear e
      induction l with
      | nil => rfl
      | cons r l ih =>
        by_cases c : p r = true
        · rw [List.filter_cons_of_pos c, List.filter_cons_of_neg (by rw [c]; simp), List.length_cons, List.length_cons]
          omega
        · rw [List.filter_cons_of_neg c, List.filter_cons_of_pos (by simp [c]), List.length_cons, List.length_cons]
          omega
    have := split (nowA n R j).2 fun (r : Sy71.Rack) => (Sy71.nexts n r).any fun (u : Sy71.Rack) => (nowA n R j).1.contains u
    have this : ((nowA n R (j + 1)).1).length + ((nowA n R (j + 1)).2).length = ((nowA n R j).2).length := this
    simp only [List.map_cons, List.map_nil, List.sum_cons, List.sum_nil]
    omega
theorem nowA_nodup {n : Nat} {R : List Sy71.Rack} (h : R.Nodup) : ∀ j, ((nowA n R j).2).Nodup
  | 0 => h.filter _
  | j + 1 => (nowA_nodup h j).filter _
theorem lost_is {s : Sy71.St} {L : List Sy71.Rack} {m : Nat} (h : Came s.holds s.rack L m) : (Sy71.reach s).length - ((Sy71.ends s).map List.length).sum = (L.filter fun r => !(distD s.holds L (zeros L) m r).isSome).length := by
  obtain ⟨t, e, ht, hb, hor⟩ := ends_are h
  obtain ⟨_, hLR⟩ := came_mem h
  obtain ⟨nd, _⟩ := reach_is s
  have hrest : ((nowA s.holds (Sy71.reach s) m).2).length = (L.filter fun r => !(distD s.holds L (zeros L) m r).isSome).length := by
    refine same_len (nowA_nodup nd m) (h.que.nd.filter _) fun r => ?_
    rw [(levels_told hLR m r).2, List.mem_filter]
    constructor
    · rintro ⟨h1, h2⟩
      exact ⟨h1, by rw [h2]; rfl⟩
    · rintro ⟨h1, h2⟩
      refine ⟨h1, ?_⟩
      cases e2 : distD s.holds L (zeros L) m r with
      | none => rfl
      | some k => rw [e2] at h2; cases h2
  rw [← hrest, e, List.map_map]
  have hl := rest_len (n := s.holds) (R := Sy71.reach s) m
  rcases hor with rfl | ⟨rfl, rfl, c0⟩
  · have e3 : ((List.range (m + 1)).map (List.length ∘ fun i => (nowA s.holds (Sy71.reach s) i).1)).sum = ((List.range (m + 1)).map fun i => ((nowA s.holds (Sy71.reach s) i).1).length).sum := rfl
    rw [e3]
    omega
  · simp only [List.range_zero, List.map_nil, List.sum_nil]
    have e4 : ((List.range (0 + 1)).map fun i => ((nowA s.holds (Sy71.reach s) i).1).length).sum = 0 := by
      show ((nowA s.holds (Sy71.reach s) 0).1).length + 0 = 0
      rw [c0]
      rfl
    rw [e4] at hl
    omega
theorem sorted_len {s : Sy71.St} {L : List Sy71.Rack} {m : Nat} (h : Came s.holds s.rack L m) : ((Sy71.reach s).filter Sy71.sorted).length = (L.filter Sy71.sorted).length ∧ (Sy71.reach s).length = L.length := by
  obtain ⟨_, hLR⟩ := came_mem h
  obtain ⟨nd, _⟩ := reach_is s
  refine ⟨same_len (nd.filter _) (h.que.nd.filter _) fun r => ?_, same_len nd h.que.nd fun r => (hLR r).symm⟩
  rw [List.mem_filter, List.mem_filter, hLR]
/-! ### the plan -/
theorem plan_is {n : Nat} {l : List (List Sy71.Rack)} {D : Sy71.Rack → Option Nat} (h : ∀ r, Sy71.distance l r = D r) : ∀ (k : Nat) (r : Sy71.Rack), Sy71.plan n l k r = planD n D k r
  | 0, _ => rfl
  | k + 1, r => by
    unfold Sy71.plan planD pourings
    rw [List.find?_filterMap]
    have e : (fun x : Nat × Nat => (Sy71.poured n r x.1 x.2).any fun (u : Sy71.Rack) => Sy71.distance l u == some k) = fun x => (stepOf n r x).any fun x => D x.2.2 == some k := by
      funext x
      unfold stepOf
      cases Sy71.poured n r x.1 x.2 with
      | none => rfl
      | some u => simp only [Option.any_some, Option.map_some, h]
    rw [e]
    cases e2 : (Sy71.moves r).find? fun x => (stepOf n r x).any fun x => D x.2.2 == some k with
    | none => rfl
    | some x =>
      have hx := List.find?_some e2
      simp only [Option.bind_some]
      unfold stepOf at hx ⊢
      cases e3 : Sy71.poured n r x.1 x.2 with
      | none => rw [e3] at hx; cases hx
      | some u =>
        show x :: Sy71.plan n l k u = (x.1, x.2) :: planD n D k u
        rw [plan_is h k u]
end Td

/-! keeper.py: fewest, plan_told, reach, lost. -/
namespace Td
open PySem PySem.Spec PyProof.Rows L2

/-- an answer's numbers -/
def outV (x : Sy71.Ans) : List V := (Sy71Neutral.out x).map V.int
/-- a call that changes nothing gives this answer -/
def Gives (a : Adr) (H : Hp) (Q : VK) (E : XK) (x : Sy71.Ans) : Prop :=
  (0 ≤ x.v → ∀ e H', New H H' e → H' e = some (.lst (outV x)) → Q (.ref e) H') ∧ (x.v < 0 → ∀ H', Same H H' → Refuses a E x.v H')
section
variable {P : Program} {w : World} {K : PySem.W.Frag} {mg : Str → Option Value} {base : Heap} {a : Adr}
theorem lk_coming {x y z : V} : List.lookup ("coming" : Str) [("room", x), ("rack", y), ("count", z)] = none := rfl
theorem step_fewest_many {s : Sy71.St} (h : Sy71.tooMany s = true) : (Sy71.step s .fewest).2 = Sy71.ok (-9) := by
  show (if Sy71.tooMany s = true then Sy71.ok (-9) else _) = _
  rw [if_pos h]
theorem step_fewest {s : Sy71.St} (h : Sy71.tooMany s = false) : (Sy71.step s .fewest).2 = match Sy71.distance (Sy71.ends s) s.rack with
      | none => Sy71.ok (-6)
      | some k => Sy71.ok (k : Nat) := by
  show (if Sy71.tooMany s = true then Sy71.ok (-9) else _) = _
  rw [h, if_neg Bool.false_ne_true]
  cases Sy71.distance (Sy71.ends s) s.rack <;> rfl
/-! ### fewest -/
def spKeeperFewest (a : Adr) : Sp := fun vs H Q E => ∃ (k : Addr) (s : Sy71.St), vs = [.ref k] ∧ KeeperAt a H k s ∧ Fine s ∧ Gives a H Q E (Sy71.step s .fewest).2
abbrev scKeeperFewest_N : List Str := ["self", "coming"]
theorem scKeeperFewest : FnScope ["self", "coming"] ["self"] (defScope sKeeperFewest) := ⟨rfl, rfl, rfl, by decide +kernel, rfl, by decide +kernel, by decide +kernel⟩
theorem ok_KeeperFewest (T : Txt K mg a) : FnOk P w K mg base (L2.CX P w) 8 a.fKeeperFewest a.dKeeperFewest ["self"] (spKeeperFewest a) := by
  refine T.oKeeperFewest.F.okX scKeeperFewest (fun vs H Q E h => ?_) (fun cdv A outer s H vs Q E hr h => ?_)
  · obtain ⟨_, _, rfl, _⟩ := h
    rfl
  · obtain ⟨k, s, rfl, hK, hF, q1, q2⟩ := h
    refine ⟨_, (pss_cons (ps_set (i := 1) scKeeperFewest.nd rfl (Or.inl rfl) (pe_meth0 (pv 0) T.clKeeper T.oKeeperComing.M (ok_KeeperComing T) (hr.mono (by decide)) T.oKeeperComing.b .nil (passes_call (takes_of rfl rfl rfl rfl) (fun _ _ _ _ h => h))))
      (pss_cons (ps_expr (pe_call (ok_Need T) (hr.mono (by decide)) rfl T.oNeed.g T.oNeed.F.kp T.oNeed.b .nil (passes_call (takes_of rfl rfl rfl rfl) (fun _ _ _ _ h => h)) (pa_cons (pe_cmp (pc_rin (hu2_of hr) (pe_fld (pv 0) rfl) (pe_fld (pv 1) rfl)) (by rfl)) (pa_cons (pe_const T.vCannot) pa_nil))))
      (pss_one (ps_ret (pe_lst (pa_cons (pe_rget (hu2_of hr) (pe_fld (pv 1) rfl) (pe_fld (pv 0) rfl) (fun _ _ => rfl)) pa_nil)))))), ?_⟩
    obtain ⟨dx, r, hKa⟩ := id hK
    refine ⟨_, rfl, k, _, _, rfl, hKa.ins, lk_coming, k, s, rfl, hK, hF, fun many H' sm => ?_, fun c u L m H1 s1 hcame hC => ?_⟩
    · rw [step_fewest_many (many_is many)] at q2
      exact q2 (by decide) H' sm
    have hK1 := hKa.same s1
    rw [step_fewest (came_mem hcame).1, distance_is hcame] at q1 q2
    obtain ⟨sv, hsv, hD⟩ := hC.sts
    refine ⟨_, rfl, k, _, _, _, _, rfl, hK1.ins, T.clKeeper, T.nKeeperRack, lk_rack, _, rfl, c, _, _, _, _, rfl, hC.ins, T.clComing, T.nComingSteps, lk_steps, u.ds, sv, r, s.rack, rfl, hsv, rfl, hK1.rack, _, _, rfl, fun hb => ?_, fun hb => ?_⟩
    · rw [hD, Option.isSome_map] at hb
      cases e : distD s.holds L (zeros L) m s.rack with
      | none => rw [e] at hb; cases hb
      | some d =>
        rw [e] at q1
        refine ⟨_, rfl, c, _, _, _, _, rfl, hC.ins, T.clComing, T.nComingSteps, lk_steps, _, rfl, k, _, _, _, _, rfl, hK1.ins, T.clKeeper, T.nKeeperRack, lk_rack, u.ds, sv, r, s.rack, .int (d : Nat), rfl, hsv, rfl, hK1.rack, by rw [hD, e]; rfl, (by show 1 ≤ sizeLine; decide), fun f hf => ?_⟩
        exact q1 (Int.natCast_nonneg d) f _ (New.of s1 hf) upd_same
    · rw [hD, Option.isSome_map] at hb
      cases e : distD s.holds L (zeros L) m s.rack with
      | some d => rw [e] at hb; cases hb
      | none =>
        rw [e] at q2
        exact q2 (by decide) H1 s1
/-! ### plan_told -/
theorem planD_full {n : Nat} {L : List Sy71.Rack} {D : Sy71.Rack → Option Nat} (G : Good n L D) : ∀ (k : Nat) {r : Sy71.Rack}, r ∈ L → D r = some k → (planD n D k r).length = k
  | 0, _, _, _ => rfl
  | k + 1, r, hr, hk => by
    obtain ⟨x, hx⟩ := G.down r hr k hk
    unfold planD
    rw [hx]
    show (planD n D k x.2.2).length + 1 = k + 1
    rw [planD_full G k (G.closed r hr x (List.mem_of_find?_eq_some hx)) (by have h := List.find?_some hx; exact eq_of_beq h)]
def planV (l : List (Nat × Nat)) : List V := l.flatMap fun x => [.int (x.1 : Nat), .int (x.2 : Nat)]
theorem planV_length : ∀ l, (planV l).length = 2 * l.length
  | [] => rfl
  | x :: l => by
    have ih := planV_length l
    unfold planV at ih ⊢
    rw [List.flatMap_cons, List.length_append, ih]
    show 2 + 2 * l.length = 2 * (l.length + 1)
    omega
theorem planV_is (l : List (Nat × Nat)) : (Sy71.ints (l.flatMap fun x => [x.1, x.2])).map V.int = planV l := by
  unfold Sy71.ints planV
  rw [List.map_map, List.map_flatMap]
  rfl
theorem step_plan_many {s : Sy71.St} (h : Sy71.tooMany s = true) : (Sy71.step s .plan).2 = Sy71.ok (-9) := by
  show (if Sy71.tooMany s = true then Sy71.ok (-9) else _) = _
  rw [if_pos h]
theorem step_plan_none {s : Sy71.St} (h : Sy71.tooMany s = false) (e : Sy71.distance (Sy71.ends s) s.rack = none) : (Sy71.step s .plan).2 = Sy71.ok (-6) := by
  show (if Sy71.tooMany s = true then Sy71.ok (-9) else match Sy71.distance (Sy71.ends s) s.rack with
      | none => Sy71.ok (-6)
      | some k => ⟨(k : Nat), [Sy71.ints ((Sy71.plan s.holds (Sy71.ends s) k s.rack).flatMap fun (x : Nat × Nat) => [x.1, x.2])]⟩) = _
  rw [h, if_neg Bool.false_ne_true, e]
theorem step_plan_some {s : Sy71.St} {k : Nat} (h : Sy71.tooMany s = false) (e : Sy71.distance (Sy71.ends s) s.rack = some k) : (Sy71.step s .plan).2 = ⟨(k : Nat), [Sy71.ints ((Sy71.plan s.holds (Sy71.ends s) k s.rack).flatMap fun (x : Nat × Nat) => [x.1, x.2])]⟩ := by
  show (if Sy71.tooMany s = true then Sy71.ok (-9) else match Sy71.distance (Sy71.ends s) s.rack with
      | none => Sy71.ok (-6)
      | some k => ⟨(k : Nat), [Sy71.ints ((Sy71.plan s.holds (Sy71.ends s) k s.rack).flatMap fun (x : Nat × Nat) => [x.1, x.2])]⟩) = _
  rw [h, if_neg Bool.false_ne_true, e]
def spKeeperPlanTold (a : Adr) : Sp := fun vs H Q E => ∃ (k : Addr) (s : Sy71.St), vs = [.ref k] ∧ KeeperAt a H k s ∧ Fine s ∧ Gives a H Q E (Sy71.step s .plan).2
abbrev scKeeperPlanTold_N : List Str := ["self", "coming", "found", "one", "other", "row"]
theorem scKeeperPlanTold : FnScope ["self", "coming", "found", "one", "other", "row"] ["self"] (defScope sKeeperPlanTold) := ⟨rfl, rfl, rfl, by decide +kernel, rfl, by decide +kernel, by decide +kernel⟩
theorem ok_KeeperPlanTold (T : Txt K mg a) : FnOk P w K mg base (L2.CX P w) 8 a.fKeeperPlanTold a.dKeeperPlanTold ["self"] (spKeeperPlanTold a) := by
  refine T.oKeeperPlanTold.F.okX scKeeperPlanTold (fun vs H Q E h => ?_) (fun cdv A outer s H vs Q E hr h => ?_)
  · obtain ⟨_, _, rfl, _⟩ := h
    rfl
  · obtain ⟨k, s, rfl, hK, hF, q1, q2⟩ := h
    refine ⟨_, (pss_cons (ps_set (i := 1) scKeeperPlanTold.nd rfl (Or.inl rfl) (pe_meth0 (pv 0) T.clKeeper T.oKeeperComing.M (ok_KeeperComing T) (hr.mono (by decide)) T.oKeeperComing.b .nil (passes_call (takes_of rfl rfl rfl rfl) (fun _ _ _ _ h => h))))
      (pss_cons (ps_expr (pe_call (ok_Need T) (hr.mono (by decide)) rfl T.oNeed.g T.oNeed.F.kp T.oNeed.b .nil (passes_call (takes_of rfl rfl rfl rfl) (fun _ _ _ _ h => h)) (pa_cons (pe_cmp (pc_rin (hu2_of hr) (pe_fld (pv 0) rfl) (pe_fld (pv 1) rfl)) (by rfl)) (pa_cons (pe_const T.vCannot) pa_nil))))
      (pss_cons (ps_set (i := 2) scKeeperPlanTold.nd rfl (Or.inl rfl) (pe_meth (pv 1) T.clComing T.oComingPlan.M (ok_ComingPlan T) (hr.mono (by decide)) T.oComingPlan.b .nil pass0 (pa_cons (pe_fld (pv 0) rfl) pa_nil)))
      (pss_cons (ps_set (i := 5) scKeeperPlanTold.nd rfl (Or.inl rfl) (pe_lst pa_nil))
      (pss_cons (ps_for (L2.passes_of rfl) rfl (pi_list (pv 2)) (pg_tup (n := 2) rfl (pgs_cons (pg_name (i := 3) scKeeperPlanTold.nd rfl (Or.inl rfl)) (pgs_cons (pg_name (i := 4) scKeeperPlanTold.nd rfl (Or.inl rfl)) pgs_nil))) (pss_one (ps_set (i := 5) scKeeperPlanTold.nd rfl (Or.inl rfl) (pe_op op_cat (pv 5) (pe_lst (pa_cons (pv 3) (pa_cons (pv 4) pa_nil)))))))
      (pss_one (ps_ret (pe_op op_cat (pe_lst (pa_cons (pe_callB call_len_seq (by rfl) T.bLen PySem.boot_len (pa_cons (pv 2) pa_nil)) pa_nil)) (pe_call (ok_Listed T) (hr.mono (by decide)) rfl T.oListed.g T.oListed.F.kp T.oListed.b .nil pass0 (pa_cons (pv 5) pa_nil)))))))))), ?_⟩
    obtain ⟨dx, r, hKa⟩ := id hK
    refine ⟨_, rfl, k, _, _, rfl, hKa.ins, lk_coming, k, s, rfl, hK, hF, fun many H' sm => ?_, fun c u L m H1 s1 hcame hC => ?_⟩
    · rw [step_plan_many (many_is many)] at q2
      exact q2 (by decide) H' sm
    have hK1 := hKa.same s1
    have hG := hcame.good hF.h4 hF.t5
    have hst : ∀ {o : Option Nat}, distD s.holds L (zeros L) m s.rack = o → Sy71.distance (Sy71.ends s) s.rack = o := fun e => (distance_is hcame s.rack).trans e
    obtain ⟨sv, hsv, hD⟩ := id hC.sts
    refine ⟨_, rfl, k, _, _, _, _, rfl, hK1.ins, T.clKeeper, T.nKeeperRack, lk_rack, _, rfl, c, _, _, _, _, rfl, hC.ins, T.clComing, T.nComingSteps, lk_steps, u.ds, sv, r, s.rack, rfl, hsv, rfl, hK1.rack, _, _, rfl, fun hb => ?_, fun hb => ?_⟩
    · rw [hD, Option.isSome_map] at hb
      cases e : distD s.holds L (zeros L) m s.rack with
      | none => rw [e] at hb; cases hb
      | some d =>
        rw [step_plan_some (came_mem hcame).1 (hst e)] at q1
        have hd : d ≤ 400 := Nat.le_trans (dist_le _ e) (Nat.le_trans hcame.turns (by decide))
        have hm : s.rack ∈ L := hC.sub _ (by rw [e]; rfl)
        refine ⟨_, rfl, c, _, _, rfl, hC.ins, rfl, _, rfl, k, _, _, _, _, rfl, hK1.ins, T.clKeeper, T.nKeeperRack, lk_rack, c, u, s.holds, L, _, s.rack, r, d, rfl, hC, hG, hm, hK1.rack, e, hd, fun p H2 bs s2 hp pr => ?_⟩
        have hlen := planD_full hG d hm e
        rw [plan_is (distance_is hcame) d s.rack] at q1
        generalize planD s.holds (distD s.holds L (zeros L) m) d s.rack = pl at hlen pr q1
        have hl := paired_len pr
        refine ⟨zero_le_line, fun e0 he0 => ?_⟩
        have s0 := same_upd (o := .lst []) he0
        refine ⟨_, rfl, p, rfl, ⟨_, SqL.of (s0 _ _ hp)⟩, ?_⟩
        refine for_list (xs := bs.map V.ref) (fun i σ H' => ∃ (f : Addr) (v w : Option V), σ = [some (.ref k), some (.ref c), some (.ref p), v, w, some (.ref f)] ∧ Same (upd H2 e0 (.lst [])) H' ∧ H' f = some (.lst (planV (pl.take i)))) ⟨e0, none, none, rfl, fun _ _ z => z, upd_same⟩ (fun i σ H' _ ⟨_, _, _, _, sm, _⟩ => SqL.of (sm _ _ (s0 _ _ hp))) ?_ ?_
        · rintro i x σ H3 hi ⟨f, v, w', rfl, sm, hf⟩
          obtain ⟨b, hb2, rfl⟩ := refs_get hi
          obtain ⟨y, hy, hpy⟩ := paired_ix pr hb2
          have hpy3 : H3 b = some (.tup [.int (y.1 : Nat), .int (y.2 : Nat)]) := sm _ _ (s0 _ _ hpy)
          have hpl := planV_length (pl.take i)
          have h3 := List.length_take_le' i pl
          refine ⟨b, _, rfl, SqT.of hpy3, rfl, _, _, rfl, _, _, rfl, rfl, ?_⟩
          refine ⟨_, rfl, _, rfl, _, rfl, (by show 2 ≤ sizeLine; decide), fun g hg => ?_⟩
          have sg := same_upd (o := .lst [.int (y.1 : Nat), .int (y.2 : Nat)]) hg
          refine ⟨f, g, _, _, rfl, rfl, sg _ _ hf, upd_same, ?_, fun g2 hg2 => ?_⟩
          · rw [sizeLine_eq]
            show (planV (pl.take i)).length + 2 ≤ _
            omega
          refine ⟨g2, _, _, rfl, (sm.trans sg).trans (same_upd hg2), ?_⟩
          rw [upd_same]
          unfold planV
          rw [List.take_add_one, hy, List.flatMap_append]
          rfl
        · rintro σ H3 ⟨f, v, w', rfl, sm, hf⟩
          rw [List.length_map, hl, List.take_length] at hf
          have hp3 := sm _ _ (s0 _ _ hp)
          have hpl := planV_length pl
          refine ⟨_, rfl, p, _, rfl, Or.inl (SqL.of hp3), (by show 1 ≤ sizeLine; decide), fun e1 he1 => ?_⟩
          have sx := same_upd (o := .lst [.int ((bs.map V.ref).length : Nat)]) he1
          refine ⟨_, rfl, f, _, rfl, .inl (sx _ _ hf), by omega, fun e2 H4 s4 he2 => ?_⟩
          refine ⟨e1, e2, _, _, rfl, rfl, s4 _ _ upd_same, he2, ?_, fun e3 he3 => ?_⟩
          · rw [sizeLine_eq]
            show 1 + ((planV pl).length + 1) ≤ _
            omega
          · refine q1 (Int.natCast_nonneg d) e3 _ (New.of ((s1.trans s2).trans ((s0.trans sm).trans (sx.trans s4))) he3) ?_
            rw [upd_same, List.length_map, hl, hlen]
            unfold outV Sy71Neutral.out
            rw [List.map_cons, List.flatMap_cons, List.flatMap_nil, List.append_nil, List.map_cons, planV_is, ← planV_is pl, List.length_map]
            rfl
    · rw [hD, Option.isSome_map] at hb
      cases e : distD s.holds L (zeros L) m s.rack with
      | some d => rw [e] at hb; cases hb
      | none =>
        rw [step_plan_none (came_mem hcame).1 (hst e)] at q2
        exact q2 (by decide) H1 s1
/-! ### reach -/
theorem step_reach_many {s : Sy71.St} (h : Sy71.tooMany s = true) : (Sy71.step s .reach).2 = Sy71.ok (-9) := by
  show (if Sy71.tooMany s = true then Sy71.ok (-9) else _) = _
  rw [if_pos h]
theorem step_reach {s : Sy71.St} (h : Sy71.tooMany s = false) : (Sy71.step s .reach).2 = ⟨((Sy71.reach s).length : Nat), [Sy71.ints [((Sy71.reach s).filter Sy71.sorted).length, (Sy71.reach s).length - ((Sy71.ends s).map List.length).sum]]⟩ := by
  show (if Sy71.tooMany s = true then Sy71.ok (-9) else _) = _
  rw [h, if_neg Bool.false_ne_true]
def spKeeperReach (a : Adr) : Sp := fun vs H Q E => ∃ (k : Addr) (s : Sy71.St), vs = [.ref k] ∧ KeeperAt a H k s ∧ Fine s ∧ Gives a H Q E (Sy71.step s .reach).2
theorem lk_count_sorted {x y z : V} : List.lookup ("count_sorted" : Str) [("pourings", x), ("racks", y), ("steps", z)] = none := rfl
theorem lk_count_lost {x y z : V} : List.lookup ("count_lost" : Str) [("pourings", x), ("racks", y), ("steps", z)] = none := rfl
abbrev scKeeperReach_N : List Str := ["self", "coming"]
theorem scKeeperReach : FnScope ["self", "coming"] ["self"] (defScope sKeeperReach) := ⟨rfl, rfl, rfl, by decide +kernel, rfl, by decide +kernel, by decide +kernel⟩
theorem ok_KeeperReach (T : Txt K mg a) : FnOk P w K mg base (L2.CX P w) 8 a.fKeeperReach a.dKeeperReach ["self"] (spKeeperReach a) := by
  refine T.oKeeperReach.F.okX scKeeperReach (fun vs H Q E h => ?_) (fun cdv A outer s H vs Q E hr h => ?_)
  · obtain ⟨_, _, rfl, _⟩ := h
    rfl
  · obtain ⟨k, s, rfl, hK, hF, q1, q2⟩ := h
    refine ⟨_, (pss_cons (ps_set (i := 1) scKeeperReach.nd rfl (Or.inl rfl) (pe_meth0 (pv 0) T.clKeeper T.oKeeperComing.M (ok_KeeperComing T) (hr.mono (by decide)) T.oKeeperComing.b .nil (passes_call (takes_of rfl rfl rfl rfl) (fun _ _ _ _ h => h))))
      (pss_one (ps_ret (pe_op op_cat (pe_lst (pa_cons (pe_callB call_len_seq (by rfl) T.bLen PySem.boot_len (pa_cons (pe_fld (pv 1) rfl) pa_nil)) pa_nil)) (pe_call (ok_Listed T) (hr.mono (by decide)) rfl T.oListed.g T.oListed.F.kp T.oListed.b .nil pass0 (pa_cons (pe_lst (pa_cons (pe_meth0 (pv 1) T.clComing T.oComingCountSorted.M (ok_ComingCountSorted T) (hr.mono (by decide)) T.oComingCountSorted.b .nil pass0) (pa_cons (pe_meth0 (pv 1) T.clComing T.oComingCountLost.M (ok_ComingCountLost T) (hr.mono (by decide)) T.oComingCountLost.b .nil pass0) pa_nil))) pa_nil)))))), ?_⟩
    obtain ⟨dx, r, hKa⟩ := id hK
    refine ⟨_, rfl, k, _, _, rfl, hKa.ins, lk_coming, k, s, rfl, hK, hF, fun many H' sm => ?_, fun c u L m H1 s1 hcame hC => ?_⟩
    · rw [step_reach_many (many_is many)] at q2
      exact q2 (by decide) H' sm
    have hG := hcame.good hF.h4 hF.t5
    rw [step_reach (came_mem hcame).1, lost_is hcame, (sorted_len hcame).1, (sorted_len hcame).2] at q1
    have hlen := paired_len hC.rks
    have h300 := hcame.few
    have h400 : L.length ≤ 400 := by omega
    refine ⟨_, rfl, c, _, _, _, _, rfl, hC.ins, T.clComing, T.nComingRacks, lk_racks, u.lr, _, rfl, Or.inl (SqL.of hC.lst), (by show 1 ≤ sizeLine; decide), fun e1 he1 => ?_⟩
    have x1 := same_upd (o := .lst [.int ((u.as.map V.ref).length : Nat)]) he1
    have hC1 := hC.same x1
    refine ⟨_, rfl, c, _, _, rfl, hC1.ins, lk_count_sorted, c, u, _, L, _, rfl, hC1, hG.small, h400, fun H2 s2 => ?_⟩
    have hC2 := hC1.same s2
    refine ⟨_, rfl, c, _, _, rfl, hC2.ins, lk_count_lost, c, u, _, L, _, rfl, hC2, h400, fun H3 s3 => ?_⟩
    refine ⟨(by show 2 ≤ sizeLine; decide), fun e2 he2 => ?_⟩
    refine ⟨e2, _, rfl, .inl upd_same, (by show 2 ≤ 1000000; decide), fun e3 H4 s4 he3 => ?_⟩
    have x3 := same_upd (o := .lst [.int ((L.filter Sy71.sorted).length : Nat), .int ((L.filter fun r => !(distD s.holds L (zeros L) m r).isSome).length : Nat)]) he2
    have x4 := (s2.trans s3).trans (x3.trans s4)
    refine ⟨e1, e3, _, _, rfl, rfl, x4 _ _ upd_same, he3, (by show 1 + 3 ≤ sizeLine; decide), fun e4 he4 => ?_⟩
    refine q1 (Int.natCast_nonneg _) e4 _ (New.of ((s1.trans x1).trans x4) he4) ?_
    rw [upd_same, List.length_map, hlen]
    rfl
/-! ### lost -/
theorem step_lost_far {s : Sy71.St} {i j : Nat} (h : s.rack.length ≤ i ∨ s.rack.length ≤ j) : (Sy71.step s (.lost i j)).2 = Sy71.ok (-2) := by
  show (if s.rack.length ≤ i ∨ s.rack.length ≤ j then Sy71.ok (-2) else _) = _
  rw [if_pos h]
theorem step_lost_many {s : Sy71.St} {i j : Nat} (hi : i < s.rack.length) (hj : j < s.rack.length) (h : Sy71.tooMany s = true) : (Sy71.step s (.lost i j)).2 = Sy71.ok (-9) := by
  show (if s.rack.length ≤ i ∨ s.rack.length ≤ j then Sy71.ok (-2) else if Sy71.tooMany s = true then Sy71.ok (-9) else _) = _
  rw [if_neg (by omega), if_pos h]
theorem step_lost_none {s : Sy71.St} {i j : Nat} (hi : i < s.rack.length) (hj : j < s.rack.length) (h : Sy71.tooMany s = false) (e : Sy71.poured s.holds s.rack i j = none) : (Sy71.step s (.lost i j)).2 = Sy71.ok (-6) := by
  show (if s.rack.length ≤ i ∨ s.rack.length ≤ j then Sy71.ok (-2) else if Sy71.tooMany s = true then Sy71.ok (-9) else match Sy71.poured s.holds s.rack i j with
      | none => Sy71.ok (-6)
      | some r => match Sy71.distance (Sy71.ends s) s.rack, Sy71.distance (Sy71.ends s) r with
        | none, _ => Sy71.ok (-4)
        | some _, none => Sy71.ok 1
        | some _, some k => ⟨0, [[(k : Int)]]⟩) = _
  rw [if_neg (by omega), h, if_neg Bool.false_ne_true, e]
theorem step_lost_some {s : Sy71.St} {i j : Nat} {r : Sy71.Rack} (hi : i < s.rack.length) (hj : j < s.rack.length) (h : Sy71.tooMany s = false) (e : Sy71.poured s.holds s.rack i j = some r) : (Sy71.step s (.lost i j)).2 = match Sy71.distance (Sy71.ends s) s.rack, Sy71.distance (Sy71.ends s) r with
        | none, _ => Sy71.ok (-4)
        | some _, none => Sy71.ok 1
        | some _, some k => ⟨0, [[(k : Int)]]⟩ := by
  show (if s.rack.length ≤ i ∨ s.rack.length ≤ j then Sy71.ok (-2) else if Sy71.tooMany s = true then Sy71.ok (-9) else match Sy71.poured s.holds s.rack i j with
      | none => Sy71.ok (-6)
      | some r => match Sy71.distance (Sy71.ends s) s.rack, Sy71.distance (Sy71.ends s) r with
        | none, _ => Sy71.ok (-4)
        | some _, none => Sy71.ok 1
        | some _, some k => ⟨0, [[(k : Int)]]⟩) = _
  rw [if_neg (by omega), h, if_neg Bool.false_ne_true, e]
def spKeeperLost (a : Adr) : Sp := fun vs H Q E => ∃ (k : Addr) (s : Sy71.St) (i j : Nat), vs = [.ref k, .int (i : Nat), .int (j : Nat)] ∧ KeeperAt a H k s ∧ Fine s ∧ Gives a H Q E (Sy71.step s (.lost i j)).2
abbrev scKeeperLost_N : List Str := ["self", "one", "other", "count", "coming", "behind"]
theorem scKeeperLost : FnScope ["self", "one", "other", "count", "coming", "behind"] ["self", "one", "other"] (defScope sKeeperLost) := ⟨rfl, rfl, rfl, by decide +kernel, rfl, by decide +kernel, by decide +kernel⟩
theorem ok_KeeperLost (T : Txt K mg a) : FnOk P w K mg base (L2.CX P w) 8 a.fKeeperLost a.dKeeperLost ["self", "one", "other"] (spKeeperLost a) := by
  refine T.oKeeperLost.F.okX scKeeperLost (fun vs H Q E h => ?_) (fun cdv A outer s H vs Q E hr h => ?_)
  · obtain ⟨_, _, _, _, rfl, _⟩ := h
    rfl
  · obtain ⟨k, s, i, j, rfl, hK, hF, q1, q2⟩ := h
    refine ⟨_, (pss_cons (ps_set (i := 3) scKeeperLost.nd rfl (Or.inl rfl) (pe_meth (pv 0) T.clKeeper T.oKeeperGoes.M (ok_KeeperGoes T) (hr.mono (by decide)) T.oKeeperGoes.b .nil (passes_call (takes_of rfl rfl rfl rfl) (fun _ _ _ _ h => h)) (pa_cons (pv 1) (pa_cons (pv 2) pa_nil))))
      (pss_cons (ps_set (i := 4) scKeeperLost.nd rfl (Or.inl rfl) (pe_meth0 (pv 0) T.clKeeper T.oKeeperComing.M (ok_KeeperComing T) (hr.mono (by decide)) T.oKeeperComing.b .nil (passes_call (takes_of rfl rfl rfl rfl) (fun _ _ _ _ h => h))))
      (pss_cons (ps_expr (pe_call (ok_Need T) (hr.mono (by decide)) rfl T.oNeed.g T.oNeed.F.kp T.oNeed.b .nil (passes_call (takes_of rfl rfl rfl rfl) (fun _ _ _ _ h => h)) (pa_cons (pe_cmpR op_gt (pv 3) pe_int (nomark _)) (pa_cons (pe_const T.vCannot) pa_nil))))
      (pss_cons (ps_expr (pe_call (ok_Need T) (hr.mono (by decide)) rfl T.oNeed.g T.oNeed.F.kp T.oNeed.b .nil (passes_call (takes_of rfl rfl rfl rfl) (fun _ _ _ _ h => h)) (pa_cons (pe_cmp (pc_rin (hu2_of hr) (pe_fld (pv 0) rfl) (pe_fld (pv 4) rfl)) (by rfl)) (pa_cons (pe_const T.vSpoilt) pa_nil))))
      (pss_cons (ps_set (i := 5) scKeeperLost.nd rfl (Or.inl rfl) (pe_call (ok_Poured T) (hr.mono (by decide)) rfl T.oPoured.g T.oPoured.F.kp T.oPoured.b .nil pass0 (pa_cons (pe_fld (pv 0) rfl) (pa_cons (pv 1) (pa_cons (pv 2) (pa_cons (pv 3) pa_nil))))))
      (pss_cons (ps_if (pt_cmp (pc_rnotin (hu2_of hr) (pv 5) (pe_fld (pv 4) rfl)) (by rfl)) (pss_one (ps_ret (pe_lst (pa_cons pe_int pa_nil)))) pss_nil)
      (pss_one (ps_ret (pe_op op_cat (pe_lst (pa_cons pe_int pa_nil)) (pe_call (ok_Listed T) (hr.mono (by decide)) rfl T.oListed.g T.oListed.F.kp T.oListed.b .nil pass0 (pa_cons (pe_lst (pa_cons (pe_rget (hu2_of hr) (pe_fld (pv 4) rfl) (pv 5) (fun _ _ => rfl)) pa_nil)) pa_nil))))))))))), ?_⟩
    obtain ⟨dx, r, hKa⟩ := id hK
    refine ⟨_, rfl, k, _, _, rfl, hKa.ins, lk_goes, _, rfl, _, rfl, k, s, i, j, rfl, hK, hF, fun far => ?_, fun hi hj H0 s0 => ?_⟩
    · rw [step_lost_far far] at q2
      exact q2 (by decide) H (fun _ _ z => z)
    have hK0 := hKa.same s0
    refine ⟨_, rfl, k, _, _, rfl, hK0.ins, lk_coming, k, s, rfl, ⟨dx, r, hK0⟩, hF, fun many H' sm => ?_, fun c u L m H1 s1 hcame hC => ?_⟩
    · rw [step_lost_many hi hj (many_is many)] at q2
      exact q2 (by decide) H' (s0.trans sm)
    have s01 := s0.trans s1
    have hK1 := hKa.same s01
    have ht := (came_mem hcame).1
    refine ⟨_, rfl, _, _, rfl, rfl, _, _, rfl, fun hb => ?_, fun hb => ?_⟩
    · have hg : 0 < gone s.holds s.rack i j := by
        have := of_decide_eq_true hb
        omega
      rw [step_lost_some hi hj ht (poured_some hi hj hg), distance_is hcame, distance_is hcame] at q1 q2
      obtain ⟨sv, hsv, hD⟩ := id hC.sts
      refine ⟨_, rfl, k, _, _, _, _, rfl, hK1.ins, T.clKeeper, T.nKeeperRack, lk_rack, _, rfl, c, _, _, _, _, rfl, hC.ins, T.clComing, T.nComingSteps, lk_steps, u.ds, sv, r, s.rack, rfl, hsv, rfl, hK1.rack, _, _, rfl, fun hb => ?_, fun hb => ?_⟩
      · rw [hD, Option.isSome_map] at hb
        cases e : distD s.holds L (zeros L) m s.rack with
        | none => rw [e] at hb; cases hb
        | some d =>
        rw [e] at q1 q2
        have hij : i ≠ j := fun e => by
          unfold gone at hg
          rw [if_pos e] at hg
          omega
        have g1 := gone_le s.holds s.rack i j
        refine ⟨_, rfl, k, _, _, _, _, rfl, hK1.ins, T.clKeeper, T.nKeeperRack, lk_rack, _, rfl, _, rfl, _, rfl, r, s.rack, i, j, _, rfl, hK1.rack, hF.fits4, hF.t5, hi, hj, hij, g1.1, fun p H2 s2 hp => ?_⟩
        have hC2 := hC.same s2
        have hsv2 := hsv.same s2
        refine ⟨_, rfl, _, rfl, c, _, _, _, _, rfl, hC2.ins, T.clComing, T.nComingSteps, lk_steps, u.ds, sv, p, _, rfl, hsv2, rfl, hp, _, rfl, ?_⟩
        have s02 := s01.trans s2
        rw [hD]
        cases e2 : distD s.holds L (zeros L) m (pouredR s.rack i j (gone s.holds s.rack i j)) with
        | none =>
          refine if_pos_of rfl ?_
          rw [e2] at q1
          refine ⟨(by show 1 ≤ sizeLine; decide), fun f hf => ?_⟩
          exact q1 (by show (0 : Int) ≤ 1; decide) f _ (New.of s02 hf) upd_same
        | some d2 =>
          refine if_neg_of rfl ?_
          rw [e2] at q1
          refine ⟨(by show 1 ≤ sizeLine; decide), fun e3 he3 => ?_⟩
          have s3 := same_upd (o := .lst [.int 0]) he3
          have hC3 := hC2.same s3
          refine ⟨_, rfl, c, _, _, _, _, rfl, hC3.ins, T.clComing, T.nComingSteps, lk_steps, _, rfl, u.ds, sv, p, _, .int (d2 : Nat), rfl, hsv2.same s3, rfl, hp.same s3, by rw [hD, e2]; rfl, (by show 1 ≤ sizeLine; decide), fun e4 he4 => ?_⟩
          have s4 := same_upd (o := .lst [.int (d2 : Nat)]) he4
          refine ⟨e4, _, rfl, .inl upd_same, (by show 1 ≤ 1000000; decide), fun e5 H5 s5 he5 => ?_⟩
          refine ⟨e3, e5, _, _, rfl, rfl, s5 _ _ (s4 _ _ upd_same), he5, (by show 1 + 2 ≤ sizeLine; decide), fun e6 he6 => ?_⟩
          exact q1 (by show (0 : Int) ≤ 0; decide) e6 _ (New.of (s02.trans (s3.trans (s4.trans s5))) he6) upd_same
      · rw [hD, Option.isSome_map] at hb
        cases e : distD s.holds L (zeros L) m s.rack with
        | some d => rw [e] at hb; cases hb
        | none =>
          rw [e] at q2
          exact q2 (by show (-4 : Int) < 0; decide) H1 s01
    · have hg : gone s.holds s.rack i j = 0 := by
        have := of_decide_eq_false hb
        omega
      rw [step_lost_none hi hj ht (poured_none hg)] at q2
      exact q2 (by decide) H1 s01
end
end Td

/-! rack.py: asked, and the desk's call. -/
namespace Td
open PySem PySem.Spec PyProof.Rows L2

/-- a call's kind, numbers, row as the document's call -/
def callN (w : Nat) (ns cs : List Nat) : Sy71.Call := match w with
  | 0 => .begins (ns.getD 0 0) (ns.getD 1 0)
  | 1 => .fill (ns.getD 0 0) cs
  | 2 => .pour (ns.getD 0 0) (ns.getD 1 0)
  | 3 => .may (ns.getD 0 0) (ns.getD 1 0)
  | 4 => .sorted
  | 5 => .fewest
  | 6 => .plan
  | 7 => .reach
  | 8 => .lost (ns.getD 0 0) (ns.getD 1 0)
  | 9 => .tube (ns.getD 0 0)
  | _ => .state
/-- how many numbers a kind has -/
def numsOf (w : Nat) : Nat := [2, 1, 2, 2, 0, 0, 0, 0, 2, 1, 0].getD w 0
def natsV (l : List Nat) : List V := l.map fun n => V.int (n : Nat)
theorem natsV_length (l : List Nat) : (natsV l).length = l.length := List.length_map ..
/-- what a call of the keeper at k gives -/
def GivesS (a : Adr) (H : Hp) (k : Addr) (s : Sy71.St) (Q : VK) (E : XK) (c : Sy71.Call) : Prop :=
  (0 ≤ (Sy71.step s c).2.v → ∀ e H', KeeperAt a H' k (Sy71.step s c).1 → (∀ b o, b ≠ k → H b = some o → H' b = some o) → H e = none → H' e = some (.lst (outV (Sy71.step s c).2)) → Q (.ref e) H') ∧
  ((Sy71.step s c).2.v < 0 → ∀ H', Same H H' → Refuses a E (Sy71.step s c).2.v H')
section
variable {P : Program} {w : World} {K : PySem.W.Frag} {mg : Str → Option Value} {base : Heap} {a : Adr}
theorem GivesS.no {H : Hp} {k : Addr} {s s' : Sy71.St} {Q : VK} {E : XK} {c : Sy71.Call} {x : Sy71.Ans} (g : GivesS a H k s Q E c) (e : Sy71.step s c = (s', x)) (h : x.v < 0) : ∀ H', Same H H' → Refuses a E x.v H' := by
  have g2 := g.2
  rw [e] at g2
  exact g2 h
theorem GivesS.yes {H : Hp} {k : Addr} {s s' : Sy71.St} {Q : VK} {E : XK} {c : Sy71.Call} {x : Sy71.Ans} (g : GivesS a H k s Q E c) (e : Sy71.step s c = (s', x)) (h : 0 ≤ x.v) :
    ∀ e H', KeeperAt a H' k s' → (∀ b o, b ≠ k → H b = some o → H' b = some o) → H e = none → H' e = some (.lst (outV x)) → Q (.ref e) H' := by
  have g1 := g.1
  rw [e] at g1
  exact g1 h
theorem GivesS.still {H : Hp} {k : Addr} {s : Sy71.St} {Q : VK} {E : XK} {c : Sy71.Call} (g : GivesS a H k s Q E c) (hK : KeeperAt a H k s) (e : (Sy71.step s c).1 = s) : Gives a H Q E (Sy71.step s c).2 := by
  have g1 := g.1
  rw [e] at g1
  exact ⟨fun h x H' sm hx => g1 h x H' (hK.same sm.1) (fun b o _ z => sm.1 b o z) sm.2 hx, g.2⟩
theorem step_fill_far {s : Sy71.St} {i : Nat} {cs : List Nat} (h : s.rack.length ≤ i) : Sy71.step s (.fill i cs) = (s, Sy71.ok (-2)) := by
  show (if s.rack.length ≤ i then (s, Sy71.ok (-2)) else _) = _
  rw [if_pos h]
theorem step_fill_bad {s : Sy71.St} {i : Nat} {cs : List Nat} (h : i < s.rack.length) (hb : badFill s cs) : Sy71.step s (.fill i cs) = (s, Sy71.ok (-1)) := by
  show (if s.rack.length ≤ i then (s, Sy71.ok (-2)) else if s.holds < cs.length ∨ cs.any (fun (c : Nat) => decide (5 < c)) = true then (s, Sy71.ok (-1)) else _) = _
  rw [if_neg (by omega)]
  exact if_pos hb
theorem step_fill {s : Sy71.St} {i : Nat} {cs : List Nat} (h : i < s.rack.length) (hb : ¬ badFill s cs) : Sy71.step s (.fill i cs) = ({ s with rack := s.rack.set i cs.reverse }, Sy71.ok ((s.rack.set i cs.reverse).map List.length).sum) := by
  show (if s.rack.length ≤ i then (s, Sy71.ok (-2)) else if s.holds < cs.length ∨ cs.any (fun (c : Nat) => decide (5 < c)) = true then (s, Sy71.ok (-1)) else _) = _
  rw [if_neg (by omega)]
  exact if_neg hb
theorem step_pour_far {s : Sy71.St} {i j : Nat} (h : s.rack.length ≤ i ∨ s.rack.length ≤ j) : Sy71.step s (.pour i j) = (s, Sy71.ok (-2)) := by
  show (if s.rack.length ≤ i ∨ s.rack.length ≤ j then (s, Sy71.ok (-2)) else _) = _
  rw [if_pos h]
theorem step_pour_none {s : Sy71.St} {i j : Nat} (hi : i < s.rack.length) (hj : j < s.rack.length) (h : gone s.holds s.rack i j = 0) : Sy71.step s (.pour i j) = (s, Sy71.ok (-6)) := by
  show (if s.rack.length ≤ i ∨ s.rack.length ≤ j then (s, Sy71.ok (-2)) else match Sy71.poured s.holds s.rack i j with
      | none => (s, Sy71.ok (-6))
      | some r => ({ s with rack := r, done := s.done + 1 }, Sy71.ok (Sy71.goes s.holds (s.rack.getD i []) (s.rack.getD j []) : Nat))) = _
  rw [if_neg (by omega), poured_none h]
theorem step_pour {s : Sy71.St} {i j : Nat} (hi : i < s.rack.length) (hj : j < s.rack.length) (h : 0 < gone s.holds s.rack i j) : Sy71.step s (.pour i j) = ({ s with rack := pouredR s.rack i j (gone s.holds s.rack i j), done := s.done + 1 }, Sy71.ok (gone s.holds s.rack i j : Nat)) := by
  show (if s.rack.length ≤ i ∨ s.rack.length ≤ j then (s, Sy71.ok (-2)) else match Sy71.poured s.holds s.rack i j with
      | none => (s, Sy71.ok (-6))
      | some r => ({ s with rack := r, done := s.done + 1 }, Sy71.ok (Sy71.goes s.holds (s.rack.getD i []) (s.rack.getD j []) : Nat))) = _
  rw [if_neg (by omega), poured_some hi hj h]
  have hij : i ≠ j := fun e => by
    unfold gone at h
    rw [if_pos e] at h
    omega
  have e : gone s.holds s.rack i j = Sy71.goes s.holds (s.rack.getD i []) (s.rack.getD j []) := if_neg hij
  rw [← e]
theorem step_may_far {s : Sy71.St} {i j : Nat} (h : s.rack.length ≤ i ∨ s.rack.length ≤ j) : Sy71.step s (.may i j) = (s, Sy71.ok (-2)) := by
  show (s, if s.rack.length ≤ i ∨ s.rack.length ≤ j then Sy71.ok (-2) else _) = _
  rw [if_pos h]
theorem step_may_same {s : Sy71.St} {i j : Nat} (hi : i < s.rack.length) (hj : j < s.rack.length) (h : i = j) : Sy71.step s (.may i j) = (s, Sy71.ok (-1)) := by
  show (s, if s.rack.length ≤ i ∨ s.rack.length ≤ j then Sy71.ok (-2) else if i = j then Sy71.ok (-1) else _) = _
  rw [if_neg (by omega), if_pos h]
theorem step_may {s : Sy71.St} {i j : Nat} (hi : i < s.rack.length) (hj : j < s.rack.length) (h : i ≠ j) : Sy71.step s (.may i j) = (s, Sy71.ok (gone s.holds s.rack i j : Nat)) := by
  show (s, if s.rack.length ≤ i ∨ s.rack.length ≤ j then Sy71.ok (-2) else if i = j then Sy71.ok (-1) else Sy71.ok (Sy71.goes s.holds (s.rack.getD i []) (s.rack.getD j []) : Nat)) = _
  have e : gone s.holds s.rack i j = Sy71.goes s.holds (s.rack.getD i []) (s.rack.getD j []) := if_neg h
  rw [if_neg (by omega), if_neg h, e]
theorem step_tube_far {s : Sy71.St} {i : Nat} (h : s.rack.length ≤ i) : Sy71.step s (.tube i) = (s, Sy71.ok (-2)) := by
  show (s, match s.rack[i]? with
      | none => Sy71.ok (-2)
      | some l => ⟨(l.length : Nat), [Sy71.ints l.reverse]⟩) = _
  rw [List.getElem?_eq_none h]
theorem step_tube {s : Sy71.St} {i : Nat} (h : i < s.rack.length) : Sy71.step s (.tube i) = (s, ⟨((s.rack.getD i []).length : Nat), [Sy71.ints (s.rack.getD i []).reverse]⟩) := by
  show (s, match s.rack[i]? with
      | none => Sy71.ok (-2)
      | some l => ⟨(l.length : Nat), [Sy71.ints l.reverse]⟩) = _
  rw [getD_of h]
theorem ints_rev (l : List Nat) : (Sy71.ints l.reverse).map V.int = tubeV l := by
  unfold Sy71.ints tubeV tubeI
  rfl
theorem rowsV_is (r : Sy71.Rack) : (Sy71.ints (r.flatMap fun (l : List Nat) => l.length :: l.reverse)).map V.int = rowsV r := by
  unfold Sy71.ints rowsV
  rw [List.map_map, List.map_flatMap]
  congr 1
  funext l
  show V.int (l.length : Nat) :: (l.reverse).map (V.int ∘ fun (n : Nat) => (n : Int)) = _
  rw [← ints_rev l]
  unfold Sy71.ints
  rw [List.map_map]
theorem lk_k {m : Str} {x y z : V} (h1 : (m == "room") = false) (h2 : (m == "rack") = false) (h3 : (m == "count") = false) : List.lookup m [("room", x), ("rack", y), ("count", z)] = none := by
  simp only [List.lookup, h1, h2, h3]
/-! ### asked -/
def spAsked (a : Adr) : Sp := fun vs H Q E => ∃ (k nl rl : Addr) (s : Sy71.St) (w : Nat) (ns cs : List Nat), vs = [.ref k, .int (w : Nat), .ref nl, .ref rl] ∧ KeeperAt a H k s ∧ Fine s ∧ 1 ≤ w ∧ w ≤ 10 ∧
  H nl = some (.lst (natsV ns)) ∧ ns.length = numsOf w ∧ H rl = some (.lst (natsV cs)) ∧ cs.length ≤ 1000 ∧ GivesS a H k s Q E (callN w ns cs)
abbrev scAsked_N : List Str := ["keeper", "word", "numbers", "row"]
theorem scAsked : FnScope ["keeper", "word", "numbers", "row"] ["keeper", "word", "numbers", "row"] (defScope sAsked) := ⟨rfl, rfl, rfl, by decide +kernel, rfl, by decide +kernel, by decide +kernel⟩
theorem ok_Asked (T : Txt K mg a) : FnOk P w K mg base (L2.CX P w) 9 a.fAsked a.dAsked ["keeper", "word", "numbers", "row"] (spAsked a) := by
  refine T.oAsked.F.okX scAsked (fun vs H Q E h => ?_) (fun cdv A outer s H vs Q E hr h => ?_)
  · obtain ⟨_, _, _, _, _, _, _, rfl, _⟩ := h
    rfl
  · obtain ⟨k, nl, rl, s, w, ns, cs, rfl, hK, hF, w1, w10, hn, hns, hr2, hcs, g⟩ := h
    refine ⟨_, (pss_cons (ps_if (pt_cmpR op_eq (pv 1) (pe_const T.vFill) (nomark _)) (pss_one (ps_ret (pe_meth (pv 0) T.clKeeper T.oKeeperFill.M (ok_KeeperFill T) (hr.mono (by decide)) T.oKeeperFill.b .nil (passes_call (takes_of rfl rfl rfl rfl) (fun _ _ _ _ h => h)) (pa_cons (pe_ix ix_list (pv 2) pe_int (fun _ _ => rfl)) (pa_cons (pv 3) pa_nil))))) pss_nil)
      (pss_cons (ps_if (pt_cmpR op_eq (pv 1) pe_int (nomark _)) (pss_one (ps_ret (pe_meth (pv 0) T.clKeeper T.oKeeperPour.M (ok_KeeperPour T) (hr.mono (by decide)) T.oKeeperPour.b .nil (passes_call (takes_of rfl rfl rfl rfl) (fun _ _ _ _ h => h)) (pa_cons (pe_ix ix_list (pv 2) pe_int (fun _ _ => rfl)) (pa_cons (pe_ix ix_list (pv 2) pe_int (fun _ _ => rfl)) pa_nil))))) pss_nil)
      (pss_cons (ps_if (pt_cmpR op_eq (pv 1) pe_int (nomark _)) (pss_one (ps_ret (pe_meth (pv 0) T.clKeeper T.oKeeperMay.M (ok_KeeperMay T) (hr.mono (by decide)) T.oKeeperMay.b .nil (passes_call (takes_of rfl rfl rfl rfl) (fun _ _ _ _ h => h)) (pa_cons (pe_ix ix_list (pv 2) pe_int (fun _ _ => rfl)) (pa_cons (pe_ix ix_list (pv 2) pe_int (fun _ _ => rfl)) pa_nil))))) pss_nil)
      (pss_cons (ps_if (pt_cmpR op_eq (pv 1) pe_int (nomark _)) (pss_one (ps_ret (pe_meth0 (pv 0) T.clKeeper T.oKeeperSortedTold.M (ok_KeeperSortedTold T) (hr.mono (by decide)) T.oKeeperSortedTold.b .nil pass0))) pss_nil)
      (pss_cons (ps_if (pt_cmpR op_eq (pv 1) pe_int (nomark _)) (pss_one (ps_ret (pe_meth0 (pv 0) T.clKeeper T.oKeeperFewest.M (ok_KeeperFewest T) (hr.mono (by decide)) T.oKeeperFewest.b .nil (passes_call (takes_of rfl rfl rfl rfl) (fun _ _ _ _ h => h))))) pss_nil)
      (pss_cons (ps_if (pt_cmpR op_eq (pv 1) pe_int (nomark _)) (pss_one (ps_ret (pe_meth0 (pv 0) T.clKeeper T.oKeeperPlanTold.M (ok_KeeperPlanTold T) (hr.mono (by decide)) T.oKeeperPlanTold.b .nil (passes_call (takes_of rfl rfl rfl rfl) (fun _ _ _ _ h => h))))) pss_nil)
      (pss_cons (ps_if (pt_cmpR op_eq (pv 1) pe_int (nomark _)) (pss_one (ps_ret (pe_meth0 (pv 0) T.clKeeper T.oKeeperReach.M (ok_KeeperReach T) (hr.mono (by decide)) T.oKeeperReach.b .nil (passes_call (takes_of rfl rfl rfl rfl) (fun _ _ _ _ h => h))))) pss_nil)
      (pss_cons (ps_if (pt_cmpR op_eq (pv 1) pe_int (nomark _)) (pss_one (ps_ret (pe_meth (pv 0) T.clKeeper T.oKeeperLost.M (ok_KeeperLost T) (hr.mono (by decide)) T.oKeeperLost.b .nil (passes_call (takes_of rfl rfl rfl rfl) (fun _ _ _ _ h => h)) (pa_cons (pe_ix ix_list (pv 2) pe_int (fun _ _ => rfl)) (pa_cons (pe_ix ix_list (pv 2) pe_int (fun _ _ => rfl)) pa_nil))))) pss_nil)
      (pss_cons (ps_if (pt_cmpR op_eq (pv 1) pe_int (nomark _)) (pss_one (ps_ret (pe_meth (pv 0) T.clKeeper T.oKeeperTube.M (ok_KeeperTube T) (hr.mono (by decide)) T.oKeeperTube.b .nil (passes_call (takes_of rfl rfl rfl rfl) (fun _ _ _ _ h => h)) (pa_cons (pe_ix ix_list (pv 2) pe_int (fun _ _ => rfl)) pa_nil)))) pss_nil)
      (pss_one (ps_ret (pe_meth0 (pv 0) T.clKeeper T.oKeeperState.M (ok_KeeperState T) (hr.mono (by decide)) T.oKeeperState.b .nil pass0)))))))))))), ?_⟩
    obtain ⟨dx, r, hKa⟩ := id hK
    have hw : w = 1 ∨ w = 2 ∨ w = 3 ∨ w = 4 ∨ w = 5 ∨ w = 6 ∨ w = 7 ∨ w = 8 ∨ w = 9 ∨ w = 10 := by omega
    rcases hw with rfl | rfl | rfl | rfl | rfl | rfl | rfl | rfl | rfl | rfl
    · obtain ⟨i, rfl⟩ : ∃ i, ns = [i] := (match ns, hns with | [i], _ => ⟨i, rfl⟩)
      refine ⟨_, rfl, rfl, _, rfl, if_pos_of rfl ?_⟩
      replace g : GivesS a H k s Q E (.fill i cs) := g
      refine ⟨_, rfl, k, _, _, rfl, hKa.ins, rfl, _, rfl, nl, _, _, .int (i : Nat), rfl, rfl, SqL.of hn, rfl, _, rfl, k, rl, s, i, cs, rfl, hK, hF, hr2, hcs, fun hi => g.no (step_fill_far hi) (by decide) H (fun _ _ z => z), fun hi hb H' sm => g.no (step_fill_bad hi hb) (by decide) H' sm, fun hi hb e H' hK' kp hn0 he => g.yes (step_fill hi hb) (Int.natCast_nonneg _) e H' hK' kp hn0 he⟩
    · obtain ⟨i, j, rfl⟩ : ∃ i j, ns = [i, j] := (match ns, hns with | [i, j], _ => ⟨i, j, rfl⟩)
      refine ⟨_, rfl, rfl, _, rfl, if_neg_of rfl ?_⟩
      refine ⟨_, rfl, rfl, _, rfl, if_pos_of rfl ?_⟩
      replace g : GivesS a H k s Q E (.pour i j) := g
      exact ⟨_, rfl, k, _, _, rfl, hKa.ins, rfl, _, rfl, nl, _, _, .int (i : Nat), rfl, rfl, SqL.of hn, rfl, _, rfl, nl, _, _, .int (j : Nat), rfl, rfl, SqL.of hn, rfl, k, s, i, j, rfl, hK, hF, fun h => g.no (step_pour_far h) (by decide) H (fun _ _ z => z), fun hi hj hb H' sm => g.no (step_pour_none hi hj hb) (by decide) H' sm, fun hi hj hb e H' hK' kp hn0 he => g.yes (step_pour hi hj hb) (Int.natCast_nonneg _) e H' hK' kp hn0 he⟩
    · obtain ⟨i, j, rfl⟩ : ∃ i j, ns = [i, j] := (match ns, hns with | [i, j], _ => ⟨i, j, rfl⟩)
      refine ⟨_, rfl, rfl, _, rfl, if_neg_of rfl ?_⟩
      refine ⟨_, rfl, rfl, _, rfl, if_neg_of rfl ?_⟩
      refine ⟨_, rfl, rfl, _, rfl, if_pos_of rfl ?_⟩
      replace g : GivesS a H k s Q E (.may i j) := g
      exact ⟨_, rfl, k, _, _, rfl, hKa.ins, rfl, _, rfl, nl, _, _, .int (i : Nat), rfl, rfl, SqL.of hn, rfl, _, rfl, nl, _, _, .int (j : Nat), rfl, rfl, SqL.of hn, rfl, k, s, i, j, rfl, hK, hF, fun h => g.no (step_may_far h) (by decide) H (fun _ _ z => z), fun hi hj hb H' sm => g.no (step_may_same hi hj hb) (by decide) H' sm, fun hi hj hb e H' sm he => g.yes (step_may hi hj hb) (Int.natCast_nonneg _) e H' (hK.same sm.1) (fun b o _ z => sm.1 b o z) sm.2 he⟩
    · skip
      refine ⟨_, rfl, rfl, _, rfl, if_neg_of rfl ?_⟩
      refine ⟨_, rfl, rfl, _, rfl, if_neg_of rfl ?_⟩
      refine ⟨_, rfl, rfl, _, rfl, if_neg_of rfl ?_⟩
      refine ⟨_, rfl, rfl, _, rfl, if_pos_of rfl ?_⟩
      exact ⟨_, rfl, k, _, _, rfl, hKa.ins, rfl, k, s, rfl, hK, hF, fun e H' sm he => GivesS.yes (c := .sorted) g rfl (by show (0 : Int) ≤ if Sy71.sorted s.rack = true then 1 else 0; cases Sy71.sorted s.rack <;> decide) e H' (hK.same sm.1) (fun b o _ z => sm.1 b o z) sm.2 he⟩
    · skip
      refine ⟨_, rfl, rfl, _, rfl, if_neg_of rfl ?_⟩
      refine ⟨_, rfl, rfl, _, rfl, if_neg_of rfl ?_⟩
      refine ⟨_, rfl, rfl, _, rfl, if_neg_of rfl ?_⟩
      refine ⟨_, rfl, rfl, _, rfl, if_neg_of rfl ?_⟩
      refine ⟨_, rfl, rfl, _, rfl, if_pos_of rfl ?_⟩
      exact ⟨_, rfl, k, _, _, rfl, hKa.ins, rfl, k, s, rfl, hK, hF, GivesS.still (c := .fewest) g hK rfl⟩
    · skip
      refine ⟨_, rfl, rfl, _, rfl, if_neg_of rfl ?_⟩
      refine ⟨_, rfl, rfl, _, rfl, if_neg_of rfl ?_⟩
      refine ⟨_, rfl, rfl, _, rfl, if_neg_of rfl ?_⟩
      refine ⟨_, rfl, rfl, _, rfl, if_neg_of rfl ?_⟩
      refine ⟨_, rfl, rfl, _, rfl, if_neg_of rfl ?_⟩
      refine ⟨_, rfl, rfl, _, rfl, if_pos_of rfl ?_⟩
      exact ⟨_, rfl, k, _, _, rfl, hKa.ins, rfl, k, s, rfl, hK, hF, GivesS.still (c := .plan) g hK rfl⟩
    · skip
      refine ⟨_, rfl, rfl, _, rfl, if_neg_of rfl ?_⟩
      refine ⟨_, rfl, rfl, _, rfl, if_neg_of rfl ?_⟩
      refine ⟨_, rfl, rfl, _, rfl, if_neg_of rfl ?_⟩
      refine ⟨_, rfl, rfl, _, rfl, if_neg_of rfl ?_⟩
      refine ⟨_, rfl, rfl, _, rfl, if_neg_of rfl ?_⟩
      refine ⟨_, rfl, rfl, _, rfl, if_neg_of rfl ?_⟩
      refine ⟨_, rfl, rfl, _, rfl, if_pos_of rfl ?_⟩
      exact ⟨_, rfl, k, _, _, rfl, hKa.ins, rfl, k, s, rfl, hK, hF, GivesS.still (c := .reach) g hK rfl⟩
    · obtain ⟨i, j, rfl⟩ : ∃ i j, ns = [i, j] := (match ns, hns with | [i, j], _ => ⟨i, j, rfl⟩)
      refine ⟨_, rfl, rfl, _, rfl, if_neg_of rfl ?_⟩
      refine ⟨_, rfl, rfl, _, rfl, if_neg_of rfl ?_⟩
      refine ⟨_, rfl, rfl, _, rfl, if_neg_of rfl ?_⟩
      refine ⟨_, rfl, rfl, _, rfl, if_neg_of rfl ?_⟩
      refine ⟨_, rfl, rfl, _, rfl, if_neg_of rfl ?_⟩
      refine ⟨_, rfl, rfl, _, rfl, if_neg_of rfl ?_⟩
      refine ⟨_, rfl, rfl, _, rfl, if_neg_of rfl ?_⟩
      refine ⟨_, rfl, rfl, _, rfl, if_pos_of rfl ?_⟩
      exact ⟨_, rfl, k, _, _, rfl, hKa.ins, rfl, _, rfl, nl, _, _, .int (i : Nat), rfl, rfl, SqL.of hn, rfl, _, rfl, nl, _, _, .int (j : Nat), rfl, rfl, SqL.of hn, rfl, k, s, i, j, rfl, hK, hF, GivesS.still (c := .lost i j) g hK rfl⟩
    · obtain ⟨i, rfl⟩ : ∃ i, ns = [i] := (match ns, hns with | [i], _ => ⟨i, rfl⟩)
      refine ⟨_, rfl, rfl, _, rfl, if_neg_of rfl ?_⟩
      refine ⟨_, rfl, rfl, _, rfl, if_neg_of rfl ?_⟩
      refine ⟨_, rfl, rfl, _, rfl, if_neg_of rfl ?_⟩
      refine ⟨_, rfl, rfl, _, rfl, if_neg_of rfl ?_⟩
      refine ⟨_, rfl, rfl, _, rfl, if_neg_of rfl ?_⟩
      refine ⟨_, rfl, rfl, _, rfl, if_neg_of rfl ?_⟩
      refine ⟨_, rfl, rfl, _, rfl, if_neg_of rfl ?_⟩
      refine ⟨_, rfl, rfl, _, rfl, if_neg_of rfl ?_⟩
      refine ⟨_, rfl, rfl, _, rfl, if_pos_of rfl ?_⟩
      replace g : GivesS a H k s Q E (.tube i) := g
      refine ⟨_, rfl, k, _, _, rfl, hKa.ins, rfl, _, rfl, nl, _, _, .int (i : Nat), rfl, rfl, SqL.of hn, rfl, k, s, i, rfl, hK, hF, fun h => g.no (step_tube_far h) (by decide) H (fun _ _ z => z), fun hi e H' sm he => g.yes (step_tube hi) (Int.natCast_nonneg _) e H' (hK.same sm.1) (fun b o _ z => sm.1 b o z) sm.2 ?_⟩
      rw [he]
      unfold outV Sy71Neutral.out
      rw [List.map_cons, List.flatMap_cons, List.flatMap_nil, List.append_nil, List.map_cons, ints_rev, show (Sy71.ints (s.rack.getD i []).reverse).length = (s.rack.getD i []).length by unfold Sy71.ints; rw [List.length_map, List.length_reverse]]
    · skip
      refine ⟨_, rfl, rfl, _, rfl, if_neg_of rfl ?_⟩
      refine ⟨_, rfl, rfl, _, rfl, if_neg_of rfl ?_⟩
      refine ⟨_, rfl, rfl, _, rfl, if_neg_of rfl ?_⟩
      refine ⟨_, rfl, rfl, _, rfl, if_neg_of rfl ?_⟩
      refine ⟨_, rfl, rfl, _, rfl, if_neg_of rfl ?_⟩
      refine ⟨_, rfl, rfl, _, rfl, if_neg_of rfl ?_⟩
      refine ⟨_, rfl, rfl, _, rfl, if_neg_of rfl ?_⟩
      refine ⟨_, rfl, rfl, _, rfl, if_neg_of rfl ?_⟩
      refine ⟨_, rfl, rfl, _, rfl, if_neg_of rfl ?_⟩
      replace g : GivesS a H k s Q E .state := g
      refine ⟨_, rfl, k, _, _, rfl, hKa.ins, rfl, k, s, rfl, hK, hF, fun e H' sm he => g.yes rfl (Int.natCast_nonneg _) e H' (hK.same sm.1) (fun b o _ z => sm.1 b o z) sm.2 ?_⟩
      rw [he]
      unfold outV Sy71Neutral.out
      rw [← rowsV_is s.rack, List.length_map]
      simp [Sy71.ints]
/-! ### the desk -/
def DeskAt (a : Adr) (H : Hp) (d : Addr) (s : Sy71.St) : Prop := ∃ dx k, H d = some (.ins a.cDesk dx [("keeper", .ref k)]) ∧ KeeperAt a H k s
def Lists (H H' : Hp) : Prop := ∀ b o, (∀ C dx fs, o ≠ HO.ins C dx fs) → H b = some o → H' b = some o
theorem Lists.lst {H H' : Hp} (x : Lists H H') {b : Addr} {xs : List V} (h : H b = some (.lst xs)) : H' b = some (.lst xs) := x b _ (fun _ _ _ z => nomatch z) h
theorem Lists.seq {K : PySem.W.Frag} {H H' : Hp} {a : Addr} {xs : List V} (e : Lists H H') (h : SqL K H a xs) : SqL K H' a xs := by
  rcases h with (h | ⟨o, h⟩) | h
  · exact .inl (.inl (e.lst h))
  · exact .inl (.inr ⟨o, e _ _ (fun _ _ _ z => nomatch z) h⟩)
  · exact .inr h
theorem Lists.trans {H1 H2 H3 : Hp} (x : Lists H1 H2) (y : Lists H2 H3) : Lists H1 H3 := fun b o n h => y b o n (x b o n h)
theorem Same.lists {H H' : Hp} (x : Same H H') : Lists H H' := fun b o _ h => x b o h
theorem DeskAt.same {H H' : Hp} {d : Addr} {s : Sy71.St} (h : DeskAt a H d s) (sm : Same H H') : DeskAt a H' d s := let ⟨dx, k, h1, h2⟩ := h; ⟨dx, k, sm _ _ h1, h2.same sm⟩
def spDeskInit (a : Adr) : Sp := fun vs H Q _ => ∃ (d dx : Addr), vs = [.ref d] ∧ H d = some (.ins a.cDesk dx []) ∧ ∀ H', DeskAt a H' d Sy71.init → (∀ b o, b ≠ d → H b = some o → H' b = some o) → Q .non H'
abbrev scDeskInit_N : List Str := ["self"]
theorem scDeskInit : FnScope ["self"] ["self"] (defScope sDeskInit) := ⟨rfl, rfl, rfl, by decide +kernel, rfl, by decide +kernel, by decide +kernel⟩
theorem ok_DeskInit (T : Txt K mg a) : FnOk P w K mg base CX0 3 a.fDeskInit a.dDeskInit ["self"] (spDeskInit a) := by
  refine T.oDeskInit.F.ok scDeskInit (fun vs H Q E h => ?_) (fun cdv A outer s H vs Q E hr h => ?_)
  · obtain ⟨_, _, rfl, _⟩ := h
    rfl
  · obtain ⟨d, dx, rfl, hd, q⟩ := h
    refine ⟨_, (pss_one (ps_fld (pv 0) (pe_make T.oKeeperInit.M (ok_KeeperInit T) (hr.mono (by decide)) rfl T.gKeeper T.oKeeperInit.b .nil pass0 (pa_cons pe_int (pa_cons pe_int pa_nil))) rfl)), ?_⟩
    intro k kx hk hkx hne
    refine ⟨k, kx, 1, 2, rfl, upd_same, by decide, by decide, fun H' hK kp => ⟨rfl, ?_⟩⟩
    have sm : Same H H' := fun b o h => kp b o (ne_of_none h hk) (by rw [upd_ne (ne_of_none h hk), upd_ne (ne_of_none h hkx)]; exact h)
    have hd' := sm _ _ hd
    have hkd : k ≠ d := fun e => by rw [e] at hk; rw [hk] at hd; cases hd
    obtain ⟨kdx, r, hKa⟩ := hK
    refine ⟨_, rfl, d, _, dx, _, rfl, hd', T.clDesk, T.nDeskKeeper, (by show 0 < 1000; decide), ?_⟩
    generalize e9 : upd H' d (.ins a.cDesk dx (putF "keeper" (.ref k) [])) = H9
    have g9 : H9 d = some (.ins a.cDesk dx [("keeper", .ref k)]) := by rw [← e9, upd_same]; rfl
    have k9 : ∀ b o, b ≠ d → H' b = some o → H9 b = some o := fun b o nb h => by rw [← e9, upd_ne nb]; exact h
    have t9 : ∀ b ys, H' b = some (.tup ys) → H9 b = some (.tup ys) := fun b ys h => k9 b _ (ne_of h hd' fun z => nomatch z) h
    exact q H9 ⟨dx, k, g9, kdx, r, k9 _ _ hkd hKa.ins, hKa.rack.keeps t9⟩ fun b o nb h => k9 b o nb (sm b o h)
/-- what a call of the desk at d gives -/
def GivesD (a : Adr) (H : Hp) (d : Addr) (s : Sy71.St) (Q : VK) (E : XK) (c : Sy71.Call) : Prop :=
  (0 ≤ (Sy71.step s c).2.v → ∀ e H', DeskAt a H' d (Sy71.step s c).1 → Lists H H' → H e = none → H' e = some (.lst (outV (Sy71.step s c).2)) → Q (.ref e) H') ∧
  ((Sy71.step s c).2.v < 0 → ∀ H', Same H H' → Refuses a E (Sy71.step s c).2.v H')
theorem step_begins_bad {s : Sy71.St} {r t : Nat} (h : r < 1 ∨ 4 < r ∨ t < 2 ∨ 5 < t) : Sy71.step s (.begins r t) = (s, Sy71.ok (-1)) := by
  show (if r < 1 ∨ 4 < r ∨ t < 2 ∨ 5 < t then (s, Sy71.ok (-1)) else _) = _
  rw [if_pos h]
theorem step_begins {s : Sy71.St} {r t : Nat} (h : ¬ (r < 1 ∨ 4 < r ∨ t < 2 ∨ 5 < t)) : Sy71.step s (.begins r t) = (⟨r, List.replicate t [], 0⟩, Sy71.ok (r * t : Nat)) := by
  show (if r < 1 ∨ 4 < r ∨ t < 2 ∨ 5 < t then (s, Sy71.ok (-1)) else _) = _
  rw [if_neg h]
theorem lk_keeper {x : V} : List.lookup ("keeper" : Str) [("keeper", x)] = some x := rfl
def spDeskCall (a : Adr) : Sp := fun vs H Q E => ∃ (d nl rl : Addr) (s : Sy71.St) (w : Nat) (ns cs : List Nat), vs = [.ref d, .int (w : Nat), .ref nl, .ref rl] ∧ DeskAt a H d s ∧ Fine s ∧ w ≤ 10 ∧
  H nl = some (.lst (natsV ns)) ∧ ns.length = numsOf w ∧ H rl = some (.lst (natsV cs)) ∧ cs.length ≤ 1000 ∧ GivesD a H d s Q E (callN w ns cs)
abbrev scDeskCall_N : List Str := ["self", "word", "numbers", "row"]
theorem scDeskCall : FnScope ["self", "word", "numbers", "row"] ["self", "word", "numbers", "row"] (defScope sDeskCall) := ⟨rfl, rfl, rfl, by decide +kernel, rfl, by decide +kernel, by decide +kernel⟩
theorem ok_DeskCall (T : Txt K mg a) : FnOk P w K mg base (L2.CX P w) 10 a.fDeskCall a.dDeskCall ["self", "word", "numbers", "row"] (spDeskCall a) := by
  refine T.oDeskCall.F.okX scDeskCall (fun vs H Q E h => ?_) (fun cdv A outer s H vs Q E hr h => ?_)
  · obtain ⟨_, _, _, _, _, _, _, rfl, _⟩ := h
    rfl
  · obtain ⟨d, nl, rl, s, w, ns, cs, rfl, hD, hF, w10, hn, hns, hr2, hcs, g⟩ := h
    refine ⟨_, (pss_cons (ps_if (pt_cmpR op_eq (pv 1) (pe_const T.vBegins) (nomark _)) (pss_cons (ps_fld (pv 0) (pe_call (ok_Begun T) (hr.mono (by decide)) rfl T.oBegun.g T.oBegun.F.kp T.oBegun.b .nil (passes_call (takes_of rfl rfl rfl rfl) (fun _ _ _ _ h => h)) (pa_cons (pe_ix ix_list (pv 2) pe_int (fun _ _ => rfl)) (pa_cons (pe_ix ix_list (pv 2) pe_int (fun _ _ => rfl)) pa_nil))) rfl)
      (pss_one (ps_ret (pe_lst (pa_cons (pe_op op_mul (pe_ix ix_list (pv 2) pe_int (fun _ _ => rfl)) (pe_ix ix_list (pv 2) pe_int (fun _ _ => rfl))) pa_nil))))) pss_nil)
      (pss_one (ps_ret (pe_call (ok_Asked T) (hr.mono (by decide)) rfl T.oAsked.g T.oAsked.F.kp T.oAsked.b .nil (passes_call (takes_of rfl rfl rfl rfl) (fun _ _ _ _ h => h)) (pa_cons (pe_fld (pv 0) rfl) (pa_cons (pv 1) (pa_cons (pv 2) (pa_cons (pv 3) pa_nil)))))))), ?_⟩
    obtain ⟨dx, k, hd, kdx, r, hKa⟩ := id hD
    refine ⟨_, rfl, rfl, _, rfl, ?_⟩
    by_cases hw : w = 0
    · subst hw
      refine if_pos_of rfl ?_
      obtain ⟨i, j, rfl⟩ : ∃ i j, ns = [i, j] := (match ns, hns with | [i, j], _ => ⟨i, j, rfl⟩)
      have g1 := g.1
      have g2 := g.2
      rw [show callN 0 [i, j] cs = .begins i j from rfl] at g1 g2
      refine ⟨_, rfl, nl, _, _, .int (i : Nat), rfl, rfl, SqL.of hn, rfl, _, rfl, nl, _, _, .int (j : Nat), rfl, rfl, SqL.of hn, rfl, i, j, rfl, fun h => ?_, fun h k2 H1 s1 hK2 => ?_⟩
      · rw [step_begins_bad h] at g2
        exact g2 (by show (-1 : Int) < 0; decide) H (fun _ _ z => z)
      · rw [step_begins h] at g1
        have hd1 := s1 _ _ hd
        obtain ⟨kdx2, r2, hKb⟩ := hK2
        have hkd : k2 ≠ d := ne_of hKb.ins hd1 fun z => by injection z with h1 h2 h3; injection h3 with h4 h5; cases h5
        refine ⟨_, rfl, d, _, dx, _, rfl, hd1, T.clDesk, T.nDeskKeeper, (by show 1 < 1000; decide), ?_⟩
        generalize e9 : upd H1 d (.ins a.cDesk dx (putF "keeper" (.ref k2) [("keeper", .ref k)])) = H9
        have g9 : H9 d = some (.ins a.cDesk dx [("keeper", .ref k2)]) := by rw [← e9, upd_same]; rfl
        have k9 : ∀ b o, b ≠ d → H1 b = some o → H9 b = some o := fun b o nb h => by rw [← e9, upd_ne nb]; exact h
        have t9 : ∀ b ys, H1 b = some (.tup ys) → H9 b = some (.tup ys) := fun b ys h => k9 b _ (ne_of h hd1 fun z => nomatch z) h
        have l9 : Lists H H9 := fun b o n h => k9 b o (ne_of (s1 _ _ h) hd1 (n _ _ _)) (s1 _ _ h)
        have hn9 := l9.lst hn
        have hi4 : i ≤ 4 := by omega
        have hj5 : j ≤ 5 := by omega
        refine ⟨_, rfl, nl, _, _, .int (i : Nat), rfl, rfl, SqL.of hn9, rfl, _, rfl, nl, _, _, .int (j : Nat), rfl, rfl, SqL.of hn9, rfl, _, _, rfl, rfl, ?_, (by show 1 ≤ sizeLine; decide), fun e he => ?_⟩
        · constructor <;> omega
        · refine g1 (Int.natCast_nonneg _) e _ ?_ (l9.trans (Same.lists (same_upd he))) (free_of (k := d) (fun b o nb h => k9 b o nb (s1 _ _ h)) g9 he) ?_
          · exact DeskAt.same (H := H9) ⟨dx, k2, g9, kdx2, r2, k9 _ _ hkd hKb.ins, hKb.rack.keeps t9⟩ (same_upd he)
          · rw [upd_same]
            unfold outV Sy71Neutral.out Sy71.ok
            rw [Int.natCast_mul]
            rfl
    · refine if_neg_of (by rw [decide_eq_false_iff_not]; intro z; have := V.int.inj z; omega) ?_
      have hkd : k ≠ d := ne_of hKa.ins hd fun z => by injection z with h1 h2 h3; injection h3 with h4 h5; cases h5
      refine ⟨_, rfl, d, _, _, _, _, rfl, hd, T.clDesk, T.nDeskKeeper, lk_keeper, _, rfl, _, rfl, _, rfl, k, nl, rl, s, w, ns, cs, rfl, ⟨kdx, r, hKa⟩, hF, by omega, w10, hn, hns, hr2, hcs, fun hv e H' hK' kp hn0 he => ?_, g.2⟩
      exact g.1 hv e H' ⟨dx, k, kp d _ (Ne.symm hkd) hd, hK'⟩ (fun b o n h => kp b o (ne_of h hKa.ins (n _ _ _)) h) hn0 he
end
end Td

/-! the calls in plain Lean. -/
namespace Td
open PySem PySem.Spec PyProof.Rows L2

theorem step_neg {s : Sy71.St} {c : Sy71.Call} (h : (Sy71.step s c).2.v < 0) : (Sy71.step s c).1 = s ∧ (Sy71.step s c).2.l = [] := by
  cases c with
  | begins n k =>
    by_cases c : n < 1 ∨ 4 < n ∨ k < 2 ∨ 5 < k
    · rw [step_begins_bad c]
      exact ⟨rfl, rfl⟩
    · rw [step_begins c] at h
      exact absurd h (Int.not_lt.mpr (Int.natCast_nonneg _))
  | fill i l =>
    by_cases c1 : s.rack.length ≤ i
    · rw [step_fill_far c1]
      exact ⟨rfl, rfl⟩
    · by_cases c2 : badFill s l
      · rw [step_fill_bad (by omega) c2]
        exact ⟨rfl, rfl⟩
      · rw [step_fill (by omega) c2] at h
        exact absurd h (Int.not_lt.mpr (Int.natCast_nonneg _))
  | pour i j =>
    by_cases c1 : s.rack.length ≤ i ∨ s.rack.length ≤ j
    · rw [step_pour_far c1]
      exact ⟨rfl, rfl⟩
    · by_cases c2 : gone s.holds s.rack i j = 0
      · rw [step_pour_none (by omega) (by omega) c2]
        exact ⟨rfl, rfl⟩
      · rw [step_pour (by omega) (by omega) (by omega)] at h
        exact absurd h (Int.not_lt.mpr (Int.natCast_nonneg _))
  | may i j =>
    refine ⟨rfl, ?_⟩
    by_cases c1 : s.rack.length ≤ i ∨ s.rack.length ≤ j
    · rw [step_may_far c1]
      rfl
    · by_cases c2 : i = j
      · rw [step_may_same (by omega) (by omega) c2]
        rfl
      · rw [step_may (by omega) (by omega) c2]
        rfl
  | sorted => exact ⟨rfl, rfl⟩
  | fewest =>
    refine ⟨rfl, ?_⟩
    cases c : Sy71.tooMany s with
    | true =>
      rw [step_fewest_many c]
      rfl
    | false =>
      rw [step_fewest c]
      cases Sy71.distance (Sy71.ends s) s.rack <;> rfl
  | plan =>
    refine ⟨rfl, ?_⟩
    cases c : Sy71.tooMany s with
    | true =>
      rw [step_plan_many c]
      rfl
    | false =>
      cases e : Sy71.distance (Sy71.ends s) s.rack with
      | none =>
        rw [step_plan_none c e]
        rfl
      | some k =>
        rw [step_plan_some c e] at h
        exact absurd h (Int.not_lt.mpr (Int.natCast_nonneg _))
  | reach =>
    refine ⟨rfl, ?_⟩
    cases c : Sy71.tooMany s with
    | true =>
      rw [step_reach_many c]
      rfl
    | false =>
      rw [step_reach c] at h
      exact absurd h (Int.not_lt.mpr (Int.natCast_nonneg _))
  | lost i j =>
    refine ⟨rfl, ?_⟩
    by_cases c1 : s.rack.length ≤ i ∨ s.rack.length ≤ j
    · rw [step_lost_far c1]
      rfl
    · cases c : Sy71.tooMany s with
      | true =>
        rw [step_lost_many (by omega) (by omega) c]
        rfl
      | false =>
        cases e : Sy71.poured s.holds s.rack i j with
        | none =>
          rw [step_lost_none (by omega) (by omega) c e]
          rfl
        | some r =>
          rw [step_lost_some (by omega) (by omega) c e] at h ⊢
          cases e1 : Sy71.distance (Sy71.ends s) s.rack with
          | none => rfl
          | some d =>
            rw [e1] at h
            cases e2 : Sy71.distance (Sy71.ends s) r with
            | none => rfl
            | some k =>
              rw [e2] at h
              exact absurd h (by show ¬ (0 : Int) < 0; decide)
  | tube i =>
    refine ⟨rfl, ?_⟩
    by_cases c1 : s.rack.length ≤ i
    · rw [step_tube_far c1]
      rfl
    · rw [step_tube (by omega)] at h
      exact absurd h (Int.not_lt.mpr (Int.natCast_nonneg _))
  | state => exact absurd h (Int.not_lt.mpr (Int.natCast_nonneg _))
theorem Fine.init : Fine Sy71.init := ⟨by decide, by decide, by decide, by decide, fun l hl => by
  have : l = [] := by simpa [Sy71.init] using hl
  rw [this]
  exact Nat.zero_le _⟩
theorem Fine.step {s : Sy71.St} (f : Fine s) (c : Sy71.Call) : Fine (Sy71.step s c).1 := by
  cases c with
  | begins n k =>
    by_cases c : n < 1 ∨ 4 < n ∨ k < 2 ∨ 5 < k
    · rw [step_begins_bad c]
      exact f
    · rw [step_begins c]
      refine ⟨?_, ?_, ?_, ?_, fun l hl => ?_⟩
      · show 1 ≤ n
        omega
      · show n ≤ 4
        omega
      · show 2 ≤ (List.replicate k _).length
        rw [List.length_replicate]
        omega
      · show (List.replicate k _).length ≤ 5
        rw [List.length_replicate]
        omega
      · have : l = [] := (List.mem_replicate.mp hl).2
        rw [this]
        exact Nat.zero_le _
  | fill i l =>
    by_cases c1 : s.rack.length ≤ i
    · rw [step_fill_far c1]
      exact f
    · by_cases c2 : badFill s l
      · rw [step_fill_bad (by omega) c2]
        exact f
      · rw [step_fill (by omega) c2]
        refine ⟨f.h1, f.h4, ?_, ?_, fun x hx => ?_⟩
        · show 2 ≤ (s.rack.set i l.reverse).length
          rw [List.length_set]
          exact f.t2
        · show (s.rack.set i l.reverse).length ≤ 5
          rw [List.length_set]
          exact f.t5
        · rcases mem_set_cases hx with h | h
          · exact f.fits x h
          · rw [h, List.length_reverse]
            show l.length ≤ s.holds
            unfold badFill at c2
            omega
  | pour i j =>
    by_cases c1 : s.rack.length ≤ i ∨ s.rack.length ≤ j
    · rw [step_pour_far c1]
      exact f
    · by_cases c2 : gone s.holds s.rack i j = 0
      · rw [step_pour_none (by omega) (by omega) c2]
        exact f
      · rw [step_pour (by omega) (by omega) (by omega)]
        obtain ⟨h1, h2⟩ := poured_fits f.fits (poured_some (n := s.holds) (r := s.rack) (i := i) (j := j) (by omega) (by omega) (by omega))
        refine ⟨f.h1, f.h4, ?_, ?_, h1⟩
        · show 2 ≤ (pouredR s.rack i j _).length
          rw [h2]
          exact f.t2
        · show (pouredR s.rack i j _).length ≤ 5
          rw [h2]
          exact f.t5
  | may i j => exact f
  | sorted => exact f
  | fewest => exact f
  | plan => exact f
  | reach => exact f
  | lost i j => exact f
  | tube i => exact f
  | state => exact f
/-! ### the calls, one by one: kind, numbers, row -/
abbrev Tri := Nat × List Nat × List Nat
def encT (t : Tri) : List Int := (t.1 : Int) :: (t.2.1.map (fun (n : Nat) => (n : Int)) ++ if t.1 = 1 then (t.2.2.length : Int) :: t.2.2.map (fun (n : Nat) => (n : Int)) else [])
structure OkT (t : Tri) : Prop where
  w : t.1 ≤ 10
  ns : t.2.1.length = numsOf t.1
  cs : t.2.2.length ≤ 60
  no : t.1 ≠ 1 → t.2.2 = []
def stepT (s : Sy71.St) (t : Tri) : Sy71.St × Sy71.Ans := Sy71.step s (callN t.1 t.2.1 t.2.2)
def toldT : Sy71.St → List Tri → List Int
  | _, [] => []
  | s, t :: ts => ((Sy71Neutral.out (stepT s t).2).length : Int) :: (Sy71Neutral.out (stepT s t).2 ++ toldT (stepT s t).1 ts)
end Td

/-! rack.py: told and answers. -/
namespace Td
open PySem PySem.Spec PyProof.Rows L2
/-- o.m(e, ..) within a try: what it raises is wished for at the slots as they stand -/
def tMethS (C : Addr) (m : Str) (sp : Sp) (E : L2.St → XK) (ta : TE) (t : TA) : TE := fun σ H Q => ta σ H fun x H1 => ∃ a dx fs, x = .ref a ∧ H1 a = some (.ins C dx fs) ∧ fs.lookup m = none ∧ t σ H1 fun vs H2 => sp (x :: vs) H2 Q (E σ)
theorem pe_methS {X : Cx} {CX : CXT} {k : Nat} {f C : Addr} {fd : FuncData} {ps : List Str} {sp : Sp} {E : L2.St → XK} {m : Str} {pos apos : Pos} {e o : Expr} {es : List Expr} {ta : TE} {t : TA} {pl : Sem Bool} (he : PE X o ta) (c : Cls X.K C) (hm : Meth X.K C m f)
    (F : FnOk X.prog X.w X.K X.mg X.base CX k f fd ps sp) (hr : Room k X.A) (hb : Binds X.K fd ps []) (hx : ∀ σ, PassesAt CX X σ (E σ)) (ha : PA X (e :: es) t)
    (hst : starEach (e :: es) X.env = (false, eval e X.env) :: starEach es X.env := by rfl) (hpl : (backTo pos (starEach es X.env)).any (·.1) = false := by rfl)
    (ht : eval (.Call (.Attribute o m apos) (e :: es) [] pos) X.env = (do
      let ov ← eval o X.env
      standAt apos.atName
      let (f, first) ← holding [ov] (getMethod ov m pl)
      callWith pos f first (backTo pos (starEach (e :: es) X.env)) (backToKw pos (keywordEach [] X.env))) := by rfl) :
    PE X (.Call (.Attribute o m apos) (e :: es) [] pos) (tMethS C m sp E ta t) := by
  refine ⟨fun pins s σ H Q I h => ?_⟩
  refine PySem.W.methodCall_KW (pl := pl) (thn (he.run pins s σ H _ I h) fun u s1 ⟨x, H1, I1, rx, a, dx, fs, ex, ea, l, q⟩ => ?_) ht
  subst ex
  obtain rfl : u = Value.ref a := rx
  refine getmeth_ok I1 ea c hm l ?_
  refine PySem.W.callWith_K (first := [.ref a]) (h₀ := X.base) I.ok.mod.kin hm.kp (thn (ha.run pos pins s1 σ H1 _ I1 q) fun us s2 ⟨vs, H2, I2, r, q2⟩ => ⟨I2.kIn, ?_⟩) hst hpl
  exact run_fnS (us := .ref a :: us) (vs := .ref a :: vs) F hr hb (hx σ) I2 (.cons rfl r) q2
section
variable {P : Program} {w : World} {K : PySem.W.Frag} {mg : Str → Option Value} {base : Heap} {a : Adr}
theorem DeskAt.lst {H : Hp} {d f : Addr} {s : Sy71.St} {xs ys : List V} (h : DeskAt a H d s) (hf : H f = some (.lst xs)) : DeskAt a (upd H f (.lst ys)) d s := by
  obtain ⟨dx, k, h1, kdx, r, hK⟩ := h
  have k0 : ∀ b o, (∀ zs, o ≠ HO.lst zs) → H b = some o → upd H f (.lst ys) b = some o := fun b o n h => by
    rw [upd_ne (ne_of h hf (n _))]
    exact h
  exact ⟨dx, k, k0 _ _ (fun _ z => nomatch z) h1, kdx, r, k0 _ _ (fun _ z => nomatch z) hK.ins, hK.rack.keeps fun b ys h => k0 _ _ (fun _ z => nomatch z) h⟩
theorem lk_call {x : V} : List.lookup ("call" : Str) [("keeper", x)] = none := rfl
theorem lk_told {x : V} : List.lookup ("told" : Str) [("keeper", x)] = none := rfl
theorem lk_answer {x : V} : List.lookup ("answer" : Str) [("answer", x)] = some x := rfl
def spDeskTold (a : Adr) : Sp := fun vs H Q _ => ∃ (d nl rl : Addr) (s : Sy71.St) (w : Nat) (ns cs : List Nat), vs = [.ref d, .int (w : Nat), .ref nl, .ref rl] ∧ DeskAt a H d s ∧ Fine s ∧ w ≤ 10 ∧
  H nl = some (.lst (natsV ns)) ∧ ns.length = numsOf w ∧ H rl = some (.lst (natsV cs)) ∧ cs.length ≤ 1000 ∧
  ∀ e H', DeskAt a H' d (Sy71.step s (callN w ns cs)).1 → Lists H H' → H e = none → H' e = some (.lst (outV (Sy71.step s (callN w ns cs)).2)) → Q (.ref e) H'
abbrev scDeskTold_N : List Str := ["self", "word", "numbers", "row", "e"]
theorem scDeskTold : FnScope ["self", "word", "numbers", "row", "e"] ["self", "word", "numbers", "row"] (defScope sDeskTold) := ⟨rfl, rfl, rfl, by decide +kernel, rfl, by decide +kernel, by decide +kernel⟩
theorem ok_DeskTold (T : Txt K mg a) : FnOk P w K mg base CX0 11 a.fDeskTold a.dDeskTold ["self", "word", "numbers", "row"] (spDeskTold a) := by
  refine T.oDeskTold.F.ok scDeskTold (fun vs H Q E h => ?_) (fun cdv A outer s H vs Q E hr h => ?_)
  · obtain ⟨_, _, _, _, _, _, _, rfl, _⟩ := h
    rfl
  · obtain ⟨d, nl, rl, s, w, ns, cs, rfl, hD, hF, w10, hn, hns, hr2, hcs, q⟩ := h
    refine ⟨_, pss_one (ps_try_as (i := 4) (tb := fun W => tRet (tMethS a.cDesk "call" (spDeskCall a) (WE W) (tVar 0) (tCons (tVar 1) (tCons (tVar 2) (tCons (tVar 3) tNil)))))
      (ts := fun x cls d => tRet (tLst (tCons (tXf x cls d a.cRefused "answer" (tVar 4)) tNil))) (Wout := fun _ _ _ _ => False) rfl rfl scDeskTold.nd rfl rfl ⟨rfl, by decide, .inl T.gRefused⟩ takes0
      (fun W pn xe tk _ => pss_one (ps_ret (pe_methS (pv 0) T.clDesk T.oDeskCall.M (ok_DeskCall T) (hr.mono (by decide)) T.oDeskCall.b (fun σ => passAt tk σ) (by exact (pa_cons (pv 1) (pa_cons (pv 2) (pa_cons (pv 3) pa_nil)))))))
      (fun x oe cls d pn hz hf => pss_one (ps_ret (pe_lst (by exact (pa_cons (pe_xf T.xfRefused T.naRefused hz hf (pv 4)) pa_nil)))))), ?_⟩
    obtain ⟨dx, k, hd, hK⟩ := id hD
    refine ⟨_, rfl, d, _, _, rfl, hd, lk_call, _, rfl, _, rfl, _, rfl, d, nl, rl, s, w, ns, cs, rfl, hD, hF, w10, hn, hns, hr2, hcs, fun hv e H' hD' ls hn0 he => ?_, fun hv H1 s1 x H2 s2 hx => ?_⟩
    · exact q e H' hD' ls hn0 he
    · refine ⟨true, T.eRefused, fun _ y hy => ?_, fun z => Bool.noConfusion z⟩
      obtain ⟨n1, n2⟩ := step_neg hv
      refine ⟨_, rfl, rfl, rfl, x, _, _, rfl, hx, lk_answer, (by show 1 ≤ sizeLine; decide), fun f hf => ?_⟩
      have s12 := (s1.trans s2).trans (same_upd (o := .lst [.int (Sy71.step s (callN w ns cs)).2.v]) hf)
      refine q f _ (by rw [n1]; exact hD.same s12) (Same.lists s12) ((s1.trans s2).free hf) ?_
      rw [upd_same]
      unfold outV Sy71Neutral.out
      rw [n2]
      rfl
/-! ### answers -/
theorem cut_mid {xs : List V} {i n : Nat} {z1 z2 : Int} (h1 : z1 = (i : Nat)) (h2 : z2 = ((i + n : Nat) : Nat)) (h : i + n ≤ xs.length) : cutV xs (some z1) (some z2) = (xs.drop i).take n := by
  subst h1 h2
  unfold cutV
  rw [HT.sIx_nat, HT.sIx_nat]
  have e1 : min i xs.length = i := by omega
  have e2 : min (i + n) xs.length - i = n := by omega
  rw [e1, e2]
theorem drop_get {l r : List Int} {i : Nat} {z : Int} (h : l.drop i = z :: r) : l[i]? = some z ∧ l.drop (i + 1) = r ∧ i < l.length := by
  have hl : i < l.length := by
    rcases Nat.lt_or_ge i l.length with h1 | h1
    · exact h1
    · rw [List.drop_eq_nil_of_le h1] at h; cases h
  refine ⟨?_, ?_, hl⟩
  · have := List.getElem?_drop (xs := l) (i := i) (j := 0)
    rw [h] at this
    exact this.symm
  · have := congrArg List.tail h
    rw [List.tail_drop] at this
    exact this
theorem drop_part {l a b : List Int} {i : Nat} (h : l.drop i = a ++ b) : (l.drop i).take a.length = a ∧ l.drop (i + a.length) = b ∧ (i ≤ l.length → i + a.length ≤ l.length) := by
  refine ⟨by rw [h, List.take_left], by rw [← List.drop_drop, h, List.drop_left], fun hi => ?_⟩
  have := congrArg List.length h
  rw [List.length_drop, List.length_append] at this
  omega
theorem natsV_is (l : List Nat) : (l.map fun (n : Nat) => (n : Int)).map V.int = natsV l := by
  unfold natsV
  rw [List.map_map]
  rfl
theorem nums_at : ∀ w : Nat, w ≤ 10 → ([2, 1, 2, 2, 0, 0, 0, 0, 2, 1, 0].map V.int)[w]? = some (.int (numsOf w : Nat)) := by
  intro w h
  have : w = 0 ∨ w = 1 ∨ w = 2 ∨ w = 3 ∨ w = 4 ∨ w = 5 ∨ w = 6 ∨ w = 7 ∨ w = 8 ∨ w = 9 ∨ w = 10 := by omega
  rcases this with rfl | rfl | rfl | rfl | rfl | rfl | rfl | rfl | rfl | rfl | rfl <;> rfl
theorem add_is {i j z : Int} {H : Hp} {Q : VK} (e : i + j = z) (h : Q (.int z) H) : rI0 (fun i j => V.int (i + j)) (.int i) (.int j) H Q := ⟨i, j, rfl, rfl, by subst e; exact h⟩
def spAnswers (K : PySem.W.Frag) : Sp := fun vs H Q _ => ∃ (p : Addr) (l : List Int) (ts : List Tri), vs = [.ref p] ∧ SqL K H p (l.map V.int) ∧ l = ts.flatMap encT ∧ (∀ t ∈ ts, OkT t) ∧ (toldT Sy71.init ts).length ≤ 10000000 ∧
  ∀ H' q, H' q = some (.lst ((toldT Sy71.init ts).map V.int)) → Q (.ref q) H'
abbrev scAnswers_N : List Str := ["calls", "desk", "found", "at", "word", "here", "numbers", "row", "told"]
theorem scAnswers : FnScope ["calls", "desk", "found", "at", "word", "here", "numbers", "row", "told"] ["calls"] (defScope sAnswers) := ⟨rfl, rfl, rfl, by decide +kernel, rfl, by decide +kernel, by decide +kernel⟩
theorem ok_Answers (T : Txt K mg a) : FnOk P w K mg base CX0 12 a.fAnswers a.dAnswers ["calls"] (spAnswers K) := by
  refine T.oAnswers.F.ok scAnswers (fun vs H Q E h => ?_) (fun cdv A outer s H vs Q E hr h => ?_)
  · obtain ⟨_, _, _, rfl, _⟩ := h
    rfl
  · obtain ⟨p, l, ts, rfl, hp, hl, hok, hlen, q⟩ := h
    refine ⟨_, (pss_cons (ps_set (i := 1) scAnswers.nd rfl (Or.inl rfl) (pe_make0 T.oDeskInit.M (ok_DeskInit T) (hr.mono (by decide)) rfl T.gDesk T.oDeskInit.b .nil pass0))
      (pss_cons (ps_set (i := 2) scAnswers.nd rfl (Or.inl rfl) (pe_lst pa_nil))
      (pss_cons (ps_set (i := 3) scAnswers.nd rfl (Or.inl rfl) pe_int)
      (pss_cons (ps_while PassesOwn.never (pt_cmpR op_lt (pv 3) (pe_callB call_len_seq (by rfl) T.bLen PySem.boot_len (pa_cons (pv 0) pa_nil)) (nomark _)) (pss_cons (ps_set (i := 4) scAnswers.nd rfl (Or.inl rfl) (pe_ix ix_list (pv 0) (pv 3) (fun _ _ => rfl)))
      (pss_cons (ps_set (i := 5) scAnswers.nd rfl (Or.inl rfl) (pe_op op_add (pe_op op_add (pv 3) pe_int) (pe_ix ix_tup (pe_glob (v := V.ref a.numbers) rfl T.vNumbers rfl) (pv 4) (fun _ _ => rfl))))
      (pss_cons (ps_set (i := 6) scAnswers.nd rfl (Or.inl rfl) (pe_slice sl_list (pv 0) (po_some (pe_op op_add (pv 3) pe_int)) (po_some (pv 5))))
      (pss_cons (ps_set (i := 3) scAnswers.nd rfl (Or.inl rfl) (pv 5))
      (pss_cons (ps_set (i := 7) scAnswers.nd rfl (Or.inl rfl) (pe_lst pa_nil))
      (pss_cons (ps_if (pt_cmpR op_eq (pv 4) (pe_const T.vFill) (nomark _)) (pss_cons (ps_set (i := 3) scAnswers.nd rfl (Or.inl rfl) (pe_op op_add (pe_op op_add (pv 5) pe_int) (pe_ix ix_list (pv 0) (pv 5) (fun _ _ => rfl))))
      (pss_one (ps_set (i := 7) scAnswers.nd rfl (Or.inl rfl) (pe_slice sl_list (pv 0) (po_some (pe_op op_add (pv 5) pe_int)) (po_some (pv 3)))))) pss_nil)
      (pss_cons (ps_set (i := 8) scAnswers.nd rfl (Or.inl rfl) (pe_meth (pv 1) T.clDesk T.oDeskTold.M (ok_DeskTold T) (hr.mono (by decide)) T.oDeskTold.b .nil pass0 (pa_cons (pv 4) (pa_cons (pv 6) (pa_cons (pv 7) pa_nil)))))
      (pss_cons (ps_expr (pe_bm PySem.F.plainAttrs_list PySem.F.slot_list_append PySem.F.type_list_append mt_append (pv 2) (pa_cons (pe_callB call_len_seq (by rfl) T.bLen PySem.boot_len (pa_cons (pv 8) pa_nil)) pa_nil)))
      (pss_one (ps_expr (pe_bm PySem.F.plainAttrs_list PySem.F.slot_list_extend PySem.F.type_list_extend mt_extend (pv 2) (pa_cons (pv 8) pa_nil)))))))))))))
      (pss_one (ps_ret (pv 2))))))), ?_⟩
    intro d dx hd hdx hne
    refine ⟨d, dx, rfl, upd_same, fun H1 hD1 kp1 => ⟨rfl, ?_⟩⟩
    have s1 : Same H H1 := fun b o h => kp1 b o (ne_of_none h hd) (by rw [upd_ne (ne_of_none h hd), upd_ne (ne_of_none h hdx)]; exact h)
    refine ⟨zero_le_line, fun f hf => ?_⟩
    have s2 := same_upd (o := .lst []) hf
    refine ⟨fun m σ H' => ∃ (s : Sy71.St) (i : Nat) (rest : List Tri) (acc : List Int) (v4 v5 v6 v7 v8 : Option V), m = rest.length ∧ σ = [some (.ref p), some (.ref d), some (.ref f), some (.int (i : Nat)), v4, v5, v6, v7, v8] ∧ DeskAt a H' d s ∧ Fine s ∧
      l.drop i = rest.flatMap encT ∧ i ≤ l.length ∧ (∀ t ∈ rest, OkT t) ∧ H' f = some (.lst (acc.map V.int)) ∧ acc ++ toldT s rest = toldT Sy71.init ts ∧ Lists H1 H',
      ⟨_, Sy71.init, 0, ts, [], none, none, none, none, none, rfl, rfl, hD1.same s2, Fine.init, hl, Nat.zero_le _, hok, upd_same, rfl, Same.lists s2⟩, ?_⟩
    rintro m σ H2 ⟨s, i, rest, acc, v4, v5, v6, v7, v8, rfl, rfl, hD, hF, hdrop, hi, hok2, hacc, htold, kp⟩
    have sp1 := s1.seq hp
    have sq := kp.seq sp1
    refine ⟨_, rfl, _, rfl, p, _, rfl, Or.inl sq, _, _, rfl, rfl, _, rfl, ?_⟩
    cases rest with
    | nil =>
      have hge : l.length ≤ i := List.drop_eq_nil_iff.mp hdrop
      refine if_neg_of (decide_eq_false (by rw [List.length_map]; omega)) ?_
      refine ⟨_, rfl, q H2 f ?_⟩
      rw [hacc, ← htold]
      show _ = some (HO.lst ((acc ++ []).map V.int))
      rw [List.append_nil]
    | cons t rest =>
      obtain ⟨w, ns, cs⟩ := t
      have ot := hok2 _ List.mem_cons_self
      have ow : w ≤ 10 := ot.w
      have ons : ns.length = numsOf w := ot.ns
      have ocs : cs.length ≤ 60 := ot.cs
      have hd0 : l.drop i = (w : Int) :: ((ns.map fun (n : Nat) => (n : Int)) ++ ((if w = 1 then (cs.length : Int) :: cs.map (fun (n : Nat) => (n : Int)) else []) ++ rest.flatMap encT)) := by
        rw [hdrop, List.flatMap_cons]
        unfold encT
        rw [List.cons_append, List.append_assoc]
      obtain ⟨g0, g1, g2⟩ := drop_get hd0
      obtain ⟨g3, g4, g5⟩ := drop_part g1
      replace g5 := g5 (by omega)
      rw [List.length_map] at g3 g4 g5
      refine if_pos_of (decide_eq_true (by rw [List.length_map]; omega)) ?_
      refine ⟨_, fun σ' H' z => ⟨rest.length, Nat.lt_succ_self _, z⟩, ?_⟩
      refine ⟨_, rfl, _, rfl, p, _, _, .int (w : Nat), rfl, rfl, sq, atI_nat (j := i) (by rw [List.getElem?_map, g0]; rfl), ?_⟩
      refine ⟨_, rfl, _, _, rfl, rfl, _, rfl, a.numbers, _, _, .int (numsOf w : Nat), rfl, rfl, Or.inr T.numbers, atI_nat (nums_at w ow), add_is (z := ((i + 1 + ns.length : Nat) : Int)) (by omega) ?_⟩
      refine ⟨_, rfl, _, rfl, _, _, rfl, rfl, _, rfl, _, rfl, _, rfl, p, _, rfl, sq, fun nl hnl => ?_⟩
      rw [cut_mid (i := i + 1) (n := ns.length) (by omega) rfl (by rw [List.length_map]; omega), ← List.map_drop, ← List.map_take, g3, natsV_is]
      have s3 := same_upd (o := .lst (natsV ns)) hnl
      have hnl3 : upd H2 nl (.lst (natsV ns)) nl = some (.lst (natsV ns)) := upd_same
      have hD3 := hD.same s3
      have kp3 := kp.trans (Same.lists s3)
      have hf3 := s3 _ _ hacc
      generalize upd H2 nl (.lst (natsV ns)) = H3 at s3 hnl3 hD3 kp3 hf3
      refine ⟨_, rfl, zero_le_line, fun rl0 hrl0 => ?_⟩
      have s40 := same_upd (o := .lst []) hrl0
      refine ⟨_, rfl, rfl, _, rfl, ?_⟩
      by_cases hw : w = 1
      · subst hw
        refine if_pos_of rfl ?_
        rw [if_pos rfl] at g4
        obtain ⟨m0, m1, m2⟩ := drop_get g4
        obtain ⟨m3, m4, m5⟩ := drop_part m1
        rw [List.length_map] at m3 m4 m5
        replace m5 := m5 (by omega)
        have sq4 := (kp3.trans (Same.lists s40)).seq sp1
        refine ⟨_, rfl, _, _, rfl, rfl, _, rfl, _, rfl, p, _, _, .int (cs.length : Nat), rfl, rfl, sq4, atI_nat (j := i + 1 + ns.length) (by rw [List.getElem?_map, m0]; rfl), add_is (z := ((i + 1 + ns.length + 1 + cs.length : Nat) : Int)) (by omega) ?_⟩
        refine ⟨_, rfl, _, rfl, _, _, rfl, rfl, _, rfl, _, rfl, _, rfl, p, _, rfl, sq4, fun rl hrl => ?_⟩
        rw [cut_mid (i := i + 1 + ns.length + 1) (n := cs.length) (by omega) rfl (by rw [List.length_map]; omega), ← List.map_drop, ← List.map_take, m3, natsV_is]
        have s4 := s40.trans (same_upd (o := .lst (natsV cs)) hrl)
        have hrl4 : upd (upd H3 rl0 (.lst [])) rl (.lst (natsV cs)) rl = some (.lst (natsV cs)) := upd_same
        have hD4 := hD3.same s4
        have kp4 := kp3.trans (Same.lists s4)
        have hf4 := s4 _ _ hf3
        have hnl4 := s4 _ _ hnl3
        generalize upd (upd H3 rl0 (.lst [])) rl (.lst (natsV cs)) = H4 at s4 hrl4 hD4 kp4 hf4 hnl4
        obtain ⟨ddx, kk, hd4, hK4⟩ := id hD4
        refine ⟨_, rfl, d, _, _, rfl, hd4, lk_told, _, rfl, _, rfl, _, rfl, d, nl, rl, s, 1, ns, cs, rfl, hD4, hF, ow, hnl4, ons, hrl4, by omega, fun e H5 hD5 ls5 hen he5 => ?_⟩
        have hstep : stepT s (1, ns, cs) = Sy71.step s (callN 1 ns cs) := rfl
        have hf5 := ls5.lst hf4
        have hel : (outV (Sy71.step s (callN 1 ns cs)).2).length = (Sy71Neutral.out (Sy71.step s (callN 1 ns cs)).2).length := List.length_map ..
        rw [show toldT s ((1, ns, cs) :: rest) = ((Sy71Neutral.out (Sy71.step s (callN 1 ns cs)).2).length : Int) :: (Sy71Neutral.out (Sy71.step s (callN 1 ns cs)).2 ++ toldT (Sy71.step s (callN 1 ns cs)).1 rest) from rfl] at htold
        have hbig := congrArg List.length htold
        rw [List.length_append, List.length_cons, List.length_append] at hbig
        refine ⟨_, rfl, .inl ⟨rfl, _, SqL.of hf5⟩, _, rfl, e, _, rfl, Or.inl (SqL.of he5), f, _, _, rfl, rfl, hf5, by rw [List.length_map, sizeLine_eq]; omega, ?_⟩
        have hef : e ≠ f := fun z => by
          rw [z, hf4] at hen
          cases hen
        have kf : ∀ {X Y : Hp} {o' : HO}, Lists H1 X → Y = upd X f o' → Lists H1 Y := fun {X Y o'} hx hy b o2 n h => by
          rw [hy, upd_ne (ne_of_none h hf)]
          exact hx b o2 n h
        refine ⟨_, rfl, .inl ⟨rfl, _, SqL.of upd_same⟩, _, rfl, f, e, _, _, rfl, rfl, upd_same, by rw [upd_ne hef]; exact he5, by rw [List.length_append, List.length_map, hel, sizeLine_eq]; show acc.length + 1 + _ ≤ _; omega, ?_⟩
        rw [upd_upd]
        have hfin : ((acc.map V.int ++ [V.int ((outV (Sy71.step s (callN 1 ns cs)).2).length : Nat)]) ++ outV (Sy71.step s (callN 1 ns cs)).2) = (acc ++ ((Sy71Neutral.out (Sy71.step s (callN 1 ns cs)).2).length : Int) :: Sy71Neutral.out (Sy71.step s (callN 1 ns cs)).2).map V.int := by
          rw [hel, List.map_append, List.map_cons, List.append_assoc]
          rfl
        refine ⟨_, i + 1 + ns.length + 1 + cs.length, rest, acc ++ ((Sy71Neutral.out (Sy71.step s (callN 1 ns cs)).2).length : Int) :: Sy71Neutral.out (Sy71.step s (callN 1 ns cs)).2, _, _, _, _, _, rfl, rfl, hD5.lst hf5, hF.step _, m4, by omega, fun t ht => hok2 t (List.mem_cons_of_mem _ ht), by rw [upd_same]; exact congrArg (fun z => some (HO.lst z)) hfin, ?_, kf (kp4.trans ls5) rfl⟩
        rw [List.append_assoc, List.cons_append]
        exact htold
      · refine if_neg_of (by rw [decide_eq_false_iff_not]; intro z; have := V.int.inj z; omega) ?_
        rw [if_neg hw] at g4
        have hcs : cs = [] := ot.no hw
        have hD4 := hD3.same s40
        have kp4 := kp3.trans (Same.lists s40)
        have hf4 := s40 _ _ hf3
        have hnl4 := s40 _ _ hnl3
        have hrl4 : upd H3 rl0 (.lst []) rl0 = some (.lst (natsV cs)) := by rw [hcs]; exact upd_same
        generalize upd H3 rl0 (.lst []) = H4 at s40 hrl4 hD4 kp4 hf4 hnl4
        obtain ⟨ddx, kk, hd4, hK4⟩ := id hD4
        refine ⟨_, rfl, d, _, _, rfl, hd4, lk_told, _, rfl, _, rfl, _, rfl, d, nl, rl0, s, w, ns, cs, rfl, hD4, hF, ow, hnl4, ons, hrl4, by omega, fun e H5 hD5 ls5 hen he5 => ?_⟩
        have hstep : stepT s (w, ns, cs) = Sy71.step s (callN w ns cs) := rfl
        have hf5 := ls5.lst hf4
        have hel : (outV (Sy71.step s (callN w ns cs)).2).length = (Sy71Neutral.out (Sy71.step s (callN w ns cs)).2).length := List.length_map ..
        rw [show toldT s ((w, ns, cs) :: rest) = ((Sy71Neutral.out (Sy71.step s (callN w ns cs)).2).length : Int) :: (Sy71Neutral.out (Sy71.step s (callN w ns cs)).2 ++ toldT (Sy71.step s (callN w ns cs)).1 rest) from rfl] at htold
        have hbig := congrArg List.length htold
        rw [List.length_append, List.length_cons, List.length_append] at hbig
        refine ⟨_, rfl, .inl ⟨rfl, _, SqL.of hf5⟩, _, rfl, e, _, rfl, Or.inl (SqL.of he5), f, _, _, rfl, rfl, hf5, by rw [List.length_map, sizeLine_eq]; omega, ?_⟩
        have hef : e ≠ f := fun z => by
          rw [z, hf4] at hen
          cases hen
        have kf : ∀ {X Y : Hp} {o' : HO}, Lists H1 X → Y = upd X f o' → Lists H1 Y := fun {X Y o'} hx hy b o2 n h => by
          rw [hy, upd_ne (ne_of_none h hf)]
          exact hx b o2 n h
        refine ⟨_, rfl, .inl ⟨rfl, _, SqL.of upd_same⟩, _, rfl, f, e, _, _, rfl, rfl, upd_same, by rw [upd_ne hef]; exact he5, by rw [List.length_append, List.length_map, hel, sizeLine_eq]; show acc.length + 1 + _ ≤ _; omega, ?_⟩
        rw [upd_upd]
        have hfin : ((acc.map V.int ++ [V.int ((outV (Sy71.step s (callN w ns cs)).2).length : Nat)]) ++ outV (Sy71.step s (callN w ns cs)).2) = (acc ++ ((Sy71Neutral.out (Sy71.step s (callN w ns cs)).2).length : Int) :: Sy71Neutral.out (Sy71.step s (callN w ns cs)).2).map V.int := by
          rw [hel, List.map_append, List.map_cons, List.append_assoc]
          rfl
        refine ⟨_, i + 1 + ns.length, rest, acc ++ ((Sy71Neutral.out (Sy71.step s (callN w ns cs)).2).length : Int) :: Sy71Neutral.out (Sy71.step s (callN w ns cs)).2, _, _, _, _, _, rfl, rfl, hD5.lst hf5, hF.step _, by rw [g4, List.nil_append], by omega, fun t ht => hok2 t (List.mem_cons_of_mem _ ht), by rw [upd_same]; exact congrArg (fun z => some (HO.lst z)) hfin, ?_, kf (kp4.trans ls5) rfl⟩
        rw [List.append_assoc, List.cons_append]
        exact htold
end
end Td

/-! what is handed in, call by call, and what is due. -/
namespace Td
open PySem PySem.Spec PyProof.Rows L2

theorem natIn_of {n : Nat} {l : List Int} (h : n < 4294967296) : Sy71Neutral.natIn ((n : Int) :: l) = some (n, l) := by
  have e : (2 : Int) ^ 32 = 4294967296 := by decide +kernel
  simp only [Sy71Neutral.natIn, e]
  rw [if_pos ⟨Int.natCast_nonneg n, by omega⟩, Int.toNat_natCast]
theorem many_of : ∀ {ns : List Nat} {l : List Int}, (∀ n ∈ ns, n < 4294967296) → Sy71Neutral.many_ Sy71Neutral.natIn ns.length (ns.map (fun (n : Nat) => (n : Int)) ++ l) = some (ns, l)
  | [], l, _ => rfl
  | n :: ns, l, h => by
    show (Sy71Neutral.natIn ((n : Int) :: (ns.map (fun (n : Nat) => (n : Int)) ++ l))).bind (fun (x : Nat × List Int) => (Sy71Neutral.many_ Sy71Neutral.natIn ns.length x.2).map fun (y : List Nat × List Int) => (x.1 :: y.1, y.2)) = _
    rw [natIn_of (h n List.mem_cons_self)]
    show (Sy71Neutral.many_ Sy71Neutral.natIn ns.length (ns.map (fun (n : Nat) => (n : Int)) ++ l)).map (fun (y : List Nat × List Int) => (n :: y.1, y.2)) = _
    rw [many_of fun m hm => h m (List.mem_cons_of_mem _ hm)]
    rfl
theorem all_some {k : Nat} {ns : List Nat} (hk : ns.length = k) (h : ∀ n ∈ ns, n < 4294967296) : Sy71Neutral.all_ (Sy71Neutral.some_ k (ns.map fun (n : Nat) => (n : Int))) = some ns := by
  subst hk
  have e := many_of (l := []) h
  rw [List.append_nil] at e
  unfold Sy71Neutral.some_
  rw [e]
  rfl
theorem all_row {cs : List Nat} (h60 : cs.length ≤ 60) (h : ∀ n ∈ cs, n < 4294967296) : Sy71Neutral.all_ (Sy71Neutral.rowIn ((cs.length : Int) :: cs.map fun (n : Nat) => (n : Int))) = some cs := by
  have e := many_of (l := []) h
  rw [List.append_nil] at e
  have e2 : Sy71Neutral.rowIn ((cs.length : Int) :: cs.map fun (n : Nat) => (n : Int)) = some (cs, []) := by
    show (if 0 ≤ (cs.length : Int) ∧ (cs.length : Int) ≤ 60 then Sy71Neutral.many_ Sy71Neutral.natIn (cs.length : Int).toNat (cs.map fun (n : Nat) => (n : Int)) else none) = _
    rw [if_pos ⟨Int.natCast_nonneg _, by omega⟩, Int.toNat_natCast, e]
  rw [e2]
  rfl
/-- how the machine goes by flat calls -/
abbrev stp (s : Sy71.St) (c : List (List Int)) : Sy71.St × List Int := Sy71Neutral.step s (c.headD [])
theorem step_of {s : Sy71.St} {c : Sy71Neutral.Call} {x : Sy71.Call} (h : Sy71Neutral.callOf c = some x) : Sy71Neutral.step s c = ((Sy71.step s x).1, Sy71Neutral.out (Sy71.step s x).2) := by
  unfold Sy71Neutral.step
  rw [h]
theorem nat_within {x : Int} (h : PyInside.within 0 4294967295 x = true) : ∃ n : Nat, x = (n : Int) ∧ n < 4294967296 := by
  unfold PyInside.within at h
  rw [Bool.and_eq_true] at h
  have h1 := of_decide_eq_true h.1
  have h2 := of_decide_eq_true h.2
  exact ⟨x.toNat, by omega, by omega⟩
theorem nats_within : ∀ {xs : List Int}, xs.all (PyInside.within 0 4294967295) = true → ∃ ns : List Nat, xs = ns.map (fun (n : Nat) => (n : Int)) ∧ ∀ n ∈ ns, n < 4294967296
  | [], _ => ⟨[], rfl, fun _ z => nomatch z⟩
  | x :: xs, h => by
    rw [List.all_cons, Bool.and_eq_true] at h
    obtain ⟨n, e, hn⟩ := nat_within h.1
    obtain ⟨ns, e2, hns⟩ := nats_within h.2
    refine ⟨n :: ns, by rw [e, e2]; rfl, fun m hm => ?_⟩
    rcases List.mem_cons.mp hm with rfl | hm
    · exact hn
    · exact hns m hm
theorem cut2 {n : Nat} {r : List Int} (h : ¬ r.length < n) : r = r.take n ++ r.drop n := (List.take_append_drop n r).symm
/-- a call's parts -/
structure Part (l : List Int) (c : List (List Int)) (t : List Int) (tr : Tri) : Prop where
  enc : l = encT tr ++ t
  ok : OkT tr
  act : ∀ s, stp s (PySy71.whole c) = ((stepT s tr).1, Sy71Neutral.out (stepT s tr).2)
theorem call_of {p : Int} {r : List Int} {c : List (List Int)} {t : List Int} {n k : Nat} (hs : PySy71.shape p = some (n, k)) (h : PyFlat.call PySy71.shape (p :: r) = some (c, t)) :
    n ≤ r.length ∧ ∃ xs, PyFlat.rows k (r.drop n) = some (xs, t) ∧ c = (p :: r.take n) :: xs := by
  replace h : (match PySy71.shape p with
      | none => none
      | some (n, k) => if r.length < n then none else match PyFlat.rows k (r.drop n) with
        | none => none
        | some (xs, t) => some ((p :: r.take n) :: xs, t)) = some (c, t) := h
  rw [hs] at h
  by_cases hn : r.length < n
  · rw [show (match some (n, k) with
        | none => none
        | some (n, k) => if r.length < n then none else match PyFlat.rows k (r.drop n) with
          | none => none
          | some (xs, t) => some ((p :: r.take n) :: xs, t)) = if r.length < n then none else match PyFlat.rows k (r.drop n) with
          | none => none
          | some (xs, t) => some ((p :: r.take n) :: xs, t) from rfl, if_pos hn] at h
    cases h
  · refine ⟨by omega, ?_⟩
    rw [show (match some (n, k) with
        | none => none
        | some (n, k) => if r.length < n then none else match PyFlat.rows k (r.drop n) with
          | none => none
          | some (xs, t) => some ((p :: r.take n) :: xs, t)) = if r.length < n then none else match PyFlat.rows k (r.drop n) with
          | none => none
          | some (xs, t) => some ((p :: r.take n) :: xs, t) from rfl, if_neg hn] at h
    cases e : PyFlat.rows k (r.drop n) with
    | none => rw [e] at h; cases h
    | some y =>
      obtain ⟨xs, t'⟩ := y
      rw [e] at h
      obtain ⟨rfl, rfl⟩ := Prod.mk.inj (Option.some.inj h)
      exact ⟨xs, rfl, rfl⟩
theorem callOf_0 (l : List Int) : Sy71Neutral.callOf (0 :: l) = (Sy71Neutral.all_ (Sy71Neutral.some_ 2 l)).map fun (x : List Nat) => Sy71.Call.begins (Sy71Neutral.g x 0) (Sy71Neutral.g x 1) := rfl
theorem callOf_2 (l : List Int) : Sy71Neutral.callOf (2 :: l) = (Sy71Neutral.all_ (Sy71Neutral.some_ 2 l)).map fun (x : List Nat) => Sy71.Call.pour (Sy71Neutral.g x 0) (Sy71Neutral.g x 1) := rfl
theorem callOf_3 (l : List Int) : Sy71Neutral.callOf (3 :: l) = (Sy71Neutral.all_ (Sy71Neutral.some_ 2 l)).map fun (x : List Nat) => Sy71.Call.may (Sy71Neutral.g x 0) (Sy71Neutral.g x 1) := rfl
theorem callOf_8 (l : List Int) : Sy71Neutral.callOf (8 :: l) = (Sy71Neutral.all_ (Sy71Neutral.some_ 2 l)).map fun (x : List Nat) => Sy71.Call.lost (Sy71Neutral.g x 0) (Sy71Neutral.g x 1) := rfl
theorem callOf_9 (l : List Int) : Sy71Neutral.callOf (9 :: l) = (Sy71Neutral.all_ (Sy71Neutral.some_ 1 l)).map fun (x : List Nat) => Sy71.Call.tube (Sy71Neutral.g x 0) := rfl
theorem callOf_4 (l : List Int) : Sy71Neutral.callOf (4 :: l) = (Sy71Neutral.all_ (Sy71Neutral.some_ 0 l)).map fun (x : List Nat) => Sy71.Call.sorted := rfl
theorem callOf_5 (l : List Int) : Sy71Neutral.callOf (5 :: l) = (Sy71Neutral.all_ (Sy71Neutral.some_ 0 l)).map fun (x : List Nat) => Sy71.Call.fewest := rfl
theorem callOf_6 (l : List Int) : Sy71Neutral.callOf (6 :: l) = (Sy71Neutral.all_ (Sy71Neutral.some_ 0 l)).map fun (x : List Nat) => Sy71.Call.plan := rfl
theorem callOf_7 (l : List Int) : Sy71Neutral.callOf (7 :: l) = (Sy71Neutral.all_ (Sy71Neutral.some_ 0 l)).map fun (x : List Nat) => Sy71.Call.reach := rfl
theorem callOf_10 (l : List Int) : Sy71Neutral.callOf (10 :: l) = (Sy71Neutral.all_ (Sy71Neutral.some_ 0 l)).map fun (x : List Nat) => Sy71.Call.state := rfl
theorem part_0 {r : List Int} {c : List (List Int)} {t : List Int} (h : PyFlat.call PySy71.shape (0 :: r) = some (c, t)) (hb : PyInside.call PySy71.bound c = true) : ∃ tr, Part (0 :: r) c t tr := by
  obtain ⟨hl, xs, hr, rfl⟩ := call_of (show PySy71.shape 0 = some (2, 0) from rfl) h
  obtain ⟨rfl, rfl⟩ := Prod.mk.inj (Option.some.inj hr)
  obtain ⟨x0, x1, r, rfl⟩ : ∃ x0 x1 r', r = x0 :: x1 :: r' := (match r, hl with | x0 :: x1 :: r', _ => ⟨x0, x1, r', rfl⟩)
  replace hb : (PyInside.within 0 4294967295 x0 && (PyInside.within 0 4294967295 x1 && true) && true) = true := hb
  simp only [Bool.and_true, Bool.and_eq_true] at hb
  obtain ⟨n0, rfl, h0⟩ := nat_within hb.1
  obtain ⟨n1, rfl, h1⟩ := nat_within hb.2
  have ha : ∀ n ∈ [n0, n1], n < 4294967296 := fun n hn => by
    rcases List.mem_cons.mp hn with rfl | hn
    · exact h0
    · rw [List.mem_singleton.mp hn]; exact h1
  refine ⟨(0, [n0, n1], []), rfl, ⟨by show (0 : Nat) ≤ 10; decide, rfl, Nat.zero_le _, fun _ => rfl⟩, fun s => ?_⟩
  refine step_of (x := callN 0 [n0, n1] []) ?_
  show Sy71Neutral.callOf (0 :: (([n0, n1] : List Nat).map fun (n : Nat) => (n : Int))) = _
  rw [callOf_0, all_some (k := 2) rfl ha]
  rfl
theorem part_2 {r : List Int} {c : List (List Int)} {t : List Int} (h : PyFlat.call PySy71.shape (2 :: r) = some (c, t)) (hb : PyInside.call PySy71.bound c = true) : ∃ tr, Part (2 :: r) c t tr := by
  obtain ⟨hl, xs, hr, rfl⟩ := call_of (show PySy71.shape 2 = some (2, 0) from rfl) h
  obtain ⟨rfl, rfl⟩ := Prod.mk.inj (Option.some.inj hr)
  obtain ⟨x0, x1, r, rfl⟩ : ∃ x0 x1 r', r = x0 :: x1 :: r' := (match r, hl with | x0 :: x1 :: r', _ => ⟨x0, x1, r', rfl⟩)
  replace hb : (PyInside.within 0 4294967295 x0 && (PyInside.within 0 4294967295 x1 && true) && true) = true := hb
  simp only [Bool.and_true, Bool.and_eq_true] at hb
  obtain ⟨n0, rfl, h0⟩ := nat_within hb.1
  obtain ⟨n1, rfl, h1⟩ := nat_within hb.2
  have ha : ∀ n ∈ [n0, n1], n < 4294967296 := fun n hn => by
    rcases List.mem_cons.mp hn with rfl | hn
    · exact h0
    · rw [List.mem_singleton.mp hn]; exact h1
  refine ⟨(2, [n0, n1], []), rfl, ⟨by show (2 : Nat) ≤ 10; decide, rfl, Nat.zero_le _, fun _ => rfl⟩, fun s => ?_⟩
  refine step_of (x := callN 2 [n0, n1] []) ?_
  show Sy71Neutral.callOf (2 :: (([n0, n1] : List Nat).map fun (n : Nat) => (n : Int))) = _
  rw [callOf_2, all_some (k := 2) rfl ha]
  rfl
theorem part_3 {r : List Int} {c : List (List Int)} {t : List Int} (h : PyFlat.call PySy71.shape (3 :: r) = some (c, t)) (hb : PyInside.call PySy71.bound c = true) : ∃ tr, Part (3 :: r) c t tr := by
  obtain ⟨hl, xs, hr, rfl⟩ := call_of (show PySy71.shape 3 = some (2, 0) from rfl) h
  obtain ⟨rfl, rfl⟩ := Prod.mk.inj (Option.some.inj hr)
  obtain ⟨x0, x1, r, rfl⟩ : ∃ x0 x1 r', r = x0 :: x1 :: r' := (match r, hl with | x0 :: x1 :: r', _ => ⟨x0, x1, r', rfl⟩)
  replace hb : (PyInside.within 0 4294967295 x0 && (PyInside.within 0 4294967295 x1 && true) && true) = true := hb
  simp only [Bool.and_true, Bool.and_eq_true] at hb
  obtain ⟨n0, rfl, h0⟩ := nat_within hb.1
  obtain ⟨n1, rfl, h1⟩ := nat_within hb.2
  have ha : ∀ n ∈ [n0, n1], n < 4294967296 := fun n hn => by
    rcases List.mem_cons.mp hn with rfl | hn
    · exact h0
    · rw [List.mem_singleton.mp hn]; exact h1
  refine ⟨(3, [n0, n1], []), rfl, ⟨by show (3 : Nat) ≤ 10; decide, rfl, Nat.zero_le _, fun _ => rfl⟩, fun s => ?_⟩
  refine step_of (x := callN 3 [n0, n1] []) ?_
  show Sy71Neutral.callOf (3 :: (([n0, n1] : List Nat).map fun (n : Nat) => (n : Int))) = _
  rw [callOf_3, all_some (k := 2) rfl ha]
  rfl
theorem part_4 {r : List Int} {c : List (List Int)} {t : List Int} (h : PyFlat.call PySy71.shape (4 :: r) = some (c, t)) (hb : PyInside.call PySy71.bound c = true) : ∃ tr, Part (4 :: r) c t tr := by
  obtain ⟨hl, xs, hr, rfl⟩ := call_of (show PySy71.shape 4 = some (0, 0) from rfl) h
  obtain ⟨rfl, rfl⟩ := Prod.mk.inj (Option.some.inj hr)
  have ha : ∀ n ∈ ([] : List Nat), n < 4294967296 := fun _ z => nomatch z
  refine ⟨(4, [], []), rfl, ⟨by show (4 : Nat) ≤ 10; decide, rfl, Nat.zero_le _, fun _ => rfl⟩, fun s => ?_⟩
  refine step_of (x := callN 4 [] []) ?_
  rw [List.take_zero]
  show Sy71Neutral.callOf (4 :: (([] : List Nat).map fun (n : Nat) => (n : Int))) = _
  rw [callOf_4, all_some (k := 0) rfl ha]
  rfl
theorem part_5 {r : List Int} {c : List (List Int)} {t : List Int} (h : PyFlat.call PySy71.shape (5 :: r) = some (c, t)) (hb : PyInside.call PySy71.bound c = true) : ∃ tr, Part (5 :: r) c t tr := by
  obtain ⟨hl, xs, hr, rfl⟩ := call_of (show PySy71.shape 5 = some (0, 0) from rfl) h
  obtain ⟨rfl, rfl⟩ := Prod.mk.inj (Option.some.inj hr)
  have ha : ∀ n ∈ ([] : List Nat), n < 4294967296 := fun _ z => nomatch z
  refine ⟨(5, [], []), rfl, ⟨by show (5 : Nat) ≤ 10; decide, rfl, Nat.zero_le _, fun _ => rfl⟩, fun s => ?_⟩
  refine step_of (x := callN 5 [] []) ?_
  rw [List.take_zero]
  show Sy71Neutral.callOf (5 :: (([] : List Nat).map fun (n : Nat) => (n : Int))) = _
  rw [callOf_5, all_some (k := 0) rfl ha]
  rfl
theorem part_6 {r : List Int} {c : List (List Int)} {t : List Int} (h : PyFlat.call PySy71.shape (6 :: r) = some (c, t)) (hb : PyInside.call PySy71.bound c = true) : ∃ tr, Part (6 :: r) c t tr := by
  obtain ⟨hl, xs, hr, rfl⟩ := call_of (show PySy71.shape 6 = some (0, 0) from rfl) h
  obtain ⟨rfl, rfl⟩ := Prod.mk.inj (Option.some.inj hr)
  have ha : ∀ n ∈ ([] : List Nat), n < 4294967296 := fun _ z => nomatch z
  refine ⟨(6, [], []), rfl, ⟨by show (6 : Nat) ≤ 10; decide, rfl, Nat.zero_le _, fun _ => rfl⟩, fun s => ?_⟩
  refine step_of (x := callN 6 [] []) ?_
  rw [List.take_zero]
  show Sy71Neutral.callOf (6 :: (([] : List Nat).map fun (n : Nat) => (n : Int))) = _
  rw [callOf_6, all_some (k := 0) rfl ha]
  rfl
theorem part_7 {r : List Int} {c : List (List Int)} {t : List Int} (h : PyFlat.call PySy71.shape (7 :: r) = some (c, t)) (hb : PyInside.call PySy71.bound c = true) : ∃ tr, Part (7 :: r) c t tr := by
  obtain ⟨hl, xs, hr, rfl⟩ := call_of (show PySy71.shape 7 = some (0, 0) from rfl) h
  obtain ⟨rfl, rfl⟩ := Prod.mk.inj (Option.some.inj hr)
  have ha : ∀ n ∈ ([] : List Nat), n < 4294967296 := fun _ z => nomatch z
  refine ⟨(7, [], []), rfl, ⟨by show (7 : Nat) ≤ 10; decide, rfl, Nat.zero_le _, fun _ => rfl⟩, fun s => ?_⟩
  refine step_of (x := callN 7 [] []) ?_
  rw [List.take_zero]
  show Sy71Neutral.callOf (7 :: (([] : List Nat).map fun (n : Nat) => (n : Int))) = _
  rw [callOf_7, all_some (k := 0) rfl ha]
  rfl
theorem part_8 {r : List Int} {c : List (List Int)} {t : List Int} (h : PyFlat.call PySy71.shape (8 :: r) = some (c, t)) (hb : PyInside.call PySy71.bound c = true) : ∃ tr, Part (8 :: r) c t tr := by
  obtain ⟨hl, xs, hr, rfl⟩ := call_of (show PySy71.shape 8 = some (2, 0) from rfl) h
  obtain ⟨rfl, rfl⟩ := Prod.mk.inj (Option.some.inj hr)
  obtain ⟨x0, x1, r, rfl⟩ : ∃ x0 x1 r', r = x0 :: x1 :: r' := (match r, hl with | x0 :: x1 :: r', _ => ⟨x0, x1, r', rfl⟩)
  replace hb : (PyInside.within 0 4294967295 x0 && (PyInside.within 0 4294967295 x1 && true) && true) = true := hb
  simp only [Bool.and_true, Bool.and_eq_true] at hb
  obtain ⟨n0, rfl, h0⟩ := nat_within hb.1
  obtain ⟨n1, rfl, h1⟩ := nat_within hb.2
  have ha : ∀ n ∈ [n0, n1], n < 4294967296 := fun n hn => by
    rcases List.mem_cons.mp hn with rfl | hn
    · exact h0
    · rw [List.mem_singleton.mp hn]; exact h1
  refine ⟨(8, [n0, n1], []), rfl, ⟨by show (8 : Nat) ≤ 10; decide, rfl, Nat.zero_le _, fun _ => rfl⟩, fun s => ?_⟩
  refine step_of (x := callN 8 [n0, n1] []) ?_
  show Sy71Neutral.callOf (8 :: (([n0, n1] : List Nat).map fun (n : Nat) => (n : Int))) = _
  rw [callOf_8, all_some (k := 2) rfl ha]
  rfl
theorem part_9 {r : List Int} {c : List (List Int)} {t : List Int} (h : PyFlat.call PySy71.shape (9 :: r) = some (c, t)) (hb : PyInside.call PySy71.bound c = true) : ∃ tr, Part (9 :: r) c t tr := by
  obtain ⟨hl, xs, hr, rfl⟩ := call_of (show PySy71.shape 9 = some (1, 0) from rfl) h
  obtain ⟨rfl, rfl⟩ := Prod.mk.inj (Option.some.inj hr)
  obtain ⟨x0, r, rfl⟩ : ∃ x0 r', r = x0 :: r' := (match r, hl with | x0 :: r', _ => ⟨x0, r', rfl⟩)
  replace hb : (PyInside.within 0 4294967295 x0 && true && true) = true := hb
  simp only [Bool.and_true, Bool.and_eq_true] at hb
  obtain ⟨n0, rfl, h0⟩ := nat_within hb
  have ha : ∀ n ∈ [n0], n < 4294967296 := fun n hn => by
    rw [List.mem_singleton.mp hn]; exact h0
  refine ⟨(9, [n0], []), rfl, ⟨by show (9 : Nat) ≤ 10; decide, rfl, Nat.zero_le _, fun _ => rfl⟩, fun s => ?_⟩
  refine step_of (x := callN 9 [n0] []) ?_
  show Sy71Neutral.callOf (9 :: (([n0] : List Nat).map fun (n : Nat) => (n : Int))) = _
  rw [callOf_9, all_some (k := 1) rfl ha]
  rfl
theorem part_10 {r : List Int} {c : List (List Int)} {t : List Int} (h : PyFlat.call PySy71.shape (10 :: r) = some (c, t)) (hb : PyInside.call PySy71.bound c = true) : ∃ tr, Part (10 :: r) c t tr := by
  obtain ⟨hl, xs, hr, rfl⟩ := call_of (show PySy71.shape 10 = some (0, 0) from rfl) h
  obtain ⟨rfl, rfl⟩ := Prod.mk.inj (Option.some.inj hr)
  have ha : ∀ n ∈ ([] : List Nat), n < 4294967296 := fun _ z => nomatch z
  refine ⟨(10, [], []), rfl, ⟨by show (10 : Nat) ≤ 10; decide, rfl, Nat.zero_le _, fun _ => rfl⟩, fun s => ?_⟩
  refine step_of (x := callN 10 [] []) ?_
  rw [List.take_zero]
  show Sy71Neutral.callOf (10 :: (([] : List Nat).map fun (n : Nat) => (n : Int))) = _
  rw [callOf_10, all_some (k := 0) rfl ha]
  rfl
theorem part_1 {r : List Int} {c : List (List Int)} {t : List Int} (h : PyFlat.call PySy71.shape (1 :: r) = some (c, t)) (hb : PyInside.call PySy71.bound c = true) : ∃ tr, Part (1 :: r) c t tr := by
  obtain ⟨hl, xs, hr, rfl⟩ := call_of (show PySy71.shape 1 = some (1, 1) from rfl) h
  obtain ⟨x0, r, rfl⟩ : ∃ x0 r', r = x0 :: r' := (match r, hl with | x0 :: r', _ => ⟨x0, r', rfl⟩)
  replace hr : PyFlat.rows 1 r = some (xs, t) := hr
  cases r with
  | nil => cases hr
  | cons m r =>
    by_cases hm : 0 ≤ m ∧ m.toNat ≤ r.length
    · have e : PyFlat.row (m :: r) = some (r.take m.toNat, r.drop m.toNat) := if_pos hm
      unfold PyFlat.rows at hr
      rw [e] at hr
      obtain ⟨rfl, rfl⟩ := Prod.mk.inj (Option.some.inj hr)
      have hlen : (r.take m.toNat).length = m.toNat := by rw [List.length_take]; omega
      have hsp := (List.take_append_drop m.toNat r).symm
      generalize r.take m.toNat = y at hb hlen hsp h
      generalize r.drop m.toNat = u at hsp h
      replace hb : (PyInside.within 0 4294967295 x0 && true && (decide (0 ≤ y.length) && decide (y.length ≤ 60) && y.all (PyInside.within 0 4294967295) && true)) = true := hb
      simp only [Bool.and_true, Bool.and_eq_true] at hb
      obtain ⟨n0, rfl, h0⟩ := nat_within hb.1
      obtain ⟨cs, rfl, hcs⟩ := nats_within hb.2.2
      have h60 := of_decide_eq_true hb.2.1.2
      rw [List.length_map] at h60 hlen
      have em : m = (cs.length : Int) := by omega
      subst em
      refine ⟨(1, [n0], cs), ?_, ⟨by show (1 : Nat) ≤ 10; decide, rfl, h60, fun z => absurd rfl z⟩, fun s => ?_⟩
      · rw [hsp]
        unfold encT
        rfl
      · refine step_of (x := callN 1 [n0] cs) ?_
        have ha : ∀ n ∈ [n0], n < 4294967296 := fun n hn => by
          rw [List.mem_singleton.mp hn]; exact h0
        have e1 : Sy71Neutral.some_ 1 ((n0 : Int) :: (cs.length : Int) :: cs.map fun (n : Nat) => (n : Int)) = some ([n0], (cs.length : Int) :: cs.map fun (n : Nat) => (n : Int)) := many_of (ns := [n0]) ha
        show Sy71Neutral.callOf ([1] ++ [(n0 : Int)] ++ [((cs.map fun (n : Nat) => (n : Int)).length : Int)] ++ cs.map fun (n : Nat) => (n : Int)) = _
        rw [List.length_map]
        show (Sy71Neutral.some_ 1 ((n0 : Int) :: (cs.length : Int) :: cs.map fun (n : Nat) => (n : Int))).bind (fun (x : List Nat × List Int) => (Sy71Neutral.all_ (Sy71Neutral.rowIn x.2)).map fun (y : List Nat) => Sy71.Call.fill (Sy71Neutral.g x.1 0) y) = _
        rw [e1]
        show (Sy71Neutral.all_ (Sy71Neutral.rowIn ((cs.length : Int) :: cs.map fun (n : Nat) => (n : Int)))).map (fun (y : List Nat) => Sy71.Call.fill (Sy71Neutral.g [n0] 0) y) = _
        rw [all_row h60 hcs]
        rfl
    · have e : PyFlat.row (m :: r) = none := if_neg hm
      unfold PyFlat.rows at hr
      rw [e] at hr
      cases hr
theorem part_of {l : List Int} {c : List (List Int)} {t : List Int} (h : PyFlat.call PySy71.shape l = some (c, t)) (hb : PyInside.call PySy71.bound c = true) : ∃ tr, Part l c t tr := by
  cases l with
  | nil => cases h
  | cons p r =>
    by_cases c0 : p = 0
    · subst c0
      exact part_0 h hb
    by_cases c1 : p = 1
    · subst c1
      exact part_1 h hb
    by_cases c2 : p = 2
    · subst c2
      exact part_2 h hb
    by_cases c3 : p = 3
    · subst c3
      exact part_3 h hb
    by_cases c4 : p = 4
    · subst c4
      exact part_4 h hb
    by_cases c5 : p = 5
    · subst c5
      exact part_5 h hb
    by_cases c6 : p = 6
    · subst c6
      exact part_6 h hb
    by_cases c7 : p = 7
    · subst c7
      exact part_7 h hb
    by_cases c8 : p = 8
    · subst c8
      exact part_8 h hb
    by_cases c9 : p = 9
    · subst c9
      exact part_9 h hb
    by_cases c10 : p = 10
    · subst c10
      exact part_10 h hb
    have e : PySy71.shape p = none := by
      unfold PySy71.shape
      rw [if_neg c0, if_neg c1, if_neg c2, if_neg c3, if_neg c4, if_neg c5, if_neg c6, if_neg c7, if_neg c8, if_neg c9, if_neg c10]
    replace h : (match PySy71.shape p with
      | none => none
      | some (n, k) => if r.length < n then none else match PyFlat.rows k (r.drop n) with
        | none => none
        | some (xs, t) => some ((p :: r.take n) :: xs, t)) = some (c, t) := h
    rw [e] at h
    cases h
theorem calls_of : ∀ (f : Nat) {l : List Int} {raw : List (List (List Int))}, PyFlat.calls PySy71.shape f l = some raw → PyInside.calls PySy71.bound raw = true →
    ∃ ts : List Tri, l = ts.flatMap encT ∧ (∀ t ∈ ts, OkT t) ∧ ∀ s, PyFlat.told (PyFlat.played stp s (raw.map PySy71.whole)) = toldT s ts
  | f, [], raw, h, _ => by
    have e : raw = [] := by
      cases f <;> exact (Option.some.inj h).symm
    subst e
    exact ⟨[], rfl, (fun _ z => by cases z), fun _ => rfl⟩
  | 0, _ :: _, _, h, _ => by cases h
  | f + 1, p :: r, raw, h, hb => by
    unfold PyFlat.calls at h
    cases e : PyFlat.call PySy71.shape (p :: r) with
    | none => rw [e] at h; cases h
    | some y =>
      obtain ⟨c, t⟩ := y
      rw [e] at h
      cases e2 : PyFlat.calls PySy71.shape f t with
      | none =>
        replace h : (match PyFlat.calls PySy71.shape f t with
          | none => none
          | some cs => some (c :: cs)) = some raw := h
        rw [e2] at h; cases h
      | some cs =>
        replace h : (match PyFlat.calls PySy71.shape f t with
          | none => none
          | some cs => some (c :: cs)) = some raw := h
        rw [e2] at h
        obtain rfl := Option.some.inj h
        unfold PyInside.calls at hb
        rw [List.all_cons, Bool.and_eq_true] at hb
        obtain ⟨tr, h1, h2, h3⟩ := part_of e hb.1
        obtain ⟨ts, g1, g2, g3⟩ := calls_of f e2 hb.2
        refine ⟨tr :: ts, by rw [h1, g1]; rfl, fun t ht => ?_, fun s => ?_⟩
        · rcases List.mem_cons.mp ht with rfl | ht
          · exact h2
          · exact g2 t ht
        · show PyFlat.told ((stp s (PySy71.whole c)).2 :: PyFlat.played stp (stp s (PySy71.whole c)).1 (cs.map PySy71.whole)) = _
          rw [h3 s]
          unfold PyFlat.told
          rw [List.flatMap_cons]
          show _ :: (_ ++ PyFlat.told (PyFlat.played stp (stepT s tr).1 (cs.map PySy71.whole))) = _
          rw [g3]
          rfl
theorem answers_of {l : List Int} (h : PySy71.answers_asked l = true) : ∃ ts : List Tri, l = ts.flatMap encT ∧ (∀ t ∈ ts, OkT t) ∧ toldT Sy71.init ts = PySy71.answers l ∧ (toldT Sy71.init ts).length ≤ 10000000 := by
  unfold PySy71.answers_asked at h
  cases e : PyFlat.calls PySy71.shape l.length l with
  | none => rw [e] at h; cases h
  | some raw =>
    rw [e] at h
    simp only [Bool.and_eq_true] at h
    obtain ⟨⟨⟨⟨_, _⟩, hb⟩, _⟩, hs⟩ := h
    obtain ⟨ts, h1, h2, h3⟩ := calls_of _ e hb
    have ea : PySy71.answers l = toldT Sy71.init ts := by
      unfold PySy71.answers PySy71.calls
      rw [e]
      exact h3 Sy71.init
    refine ⟨ts, h1, h2, ea.symm, ?_⟩
    rw [← ea]
    exact of_decide_eq_true hs
end Td

/-! What the written part holds; the end. (Printed by gen_end.py.) -/
namespace Td
open PySem PySem.Spec PyProof.Rows L2
/-- an error of the class at S is what an except clause names -/
theorem exm_self {K : PySem.W.Frag} {S : Addr} (h1 : PySem.W.subIn K (.ref S) (.type "BaseException") = some true) (h2 : PySem.W.isClsIn K S = true) (h3 : PySem.W.typeIn K (.ref S) = some (.type "type")) (h4 : PySem.W.subIn K (.ref S) (.ref S) = some true) :
    PySem.W.exmOne K (.ref S) (.ref S) = some true := by
  have e1 : (PySem.W.subIn K (.ref S) (.type "BaseException") == some true) = true := by rw [h1] <;> rfl
  have e2 : ((PySem.W.clsIn K S).isSome && PySem.W.typeIn K (.ref S) == some (.type "type")) = true := by
    have h2' : (PySem.W.clsIn K S).isSome = true := h2
    rw [h2', h3] <;> rfl
  show (if (PySem.W.subIn K (.ref S) (.type "BaseException") == some true) = true then (if ((PySem.W.clsIn K S).isSome && PySem.W.typeIn K (.ref S) == some (.type "type")) = true then PySem.W.subIn K (.ref S) (.ref S) else none) else none) = some true
  rw [if_pos e1, if_pos e2]
  exact h4
theorem all_mk {P : Program} {w : World} {K : PySem.W.Frag} {h : Heap} {mg : Str → Option Value} {fa : Addr} (X : K.In h) (G : h.Ns mainGlobals mg) (hfa : mg "answers" = some (.ref fa))
    {fTopRun fGoing fPoured fIsSorted fAllPourings fNeed fListed fBegun fAsked fAnswers fComingInit fComingTellSteps fComingLeadsTo fComingPlan fComingFirstStep fComingCountSorted fComingCountLost fKeeperInit fKeeperNeedTube fKeeperDrops fKeeperFill fKeeperGoes fKeeperPour fKeeperMay fKeeperSortedTold fKeeperComing fKeeperFewest fKeeperPlanTold fKeeperReach fKeeperLost fKeeperTube fKeeperState fDeskInit fDeskCall fDeskTold fRefusedInit cComing cKeeper cDesk cRefused cTooMany nA NR : Addr}
    {ocTopRun kVTopRun dcTopRun pmTopRun cdTopRun ctTopRun ocGoing kVGoing dcGoing pmGoing cdGoing ctGoing ocPoured kVPoured dcPoured pmPoured cdPoured ctPoured ocIsSorted kVIsSorted dcIsSorted pmIsSorted cdIsSorted ctIsSorted ocAllPourings kVAllPourings dcAllPourings pmAllPourings cdAllPourings ctAllPourings ocNeed kVNeed dcNeed pmNeed cdNeed ctNeed ocListed kVListed dcListed pmListed cdListed ctListed ocBegun kVBegun dcBegun pmBegun cdBegun ctBegun ocAsked kVAsked dcAsked pmAsked cdAsked ctAsked ocAnswers kVAnswers dcAnswers pmAnswers cdAnswers ctAnswers ocComingInit kVComingInit dcComingInit pmComingInit cdComingInit ctComingInit ocComingTellSteps kVComingTellSteps dcComingTellSteps pmComingTellSteps cdComingTellSteps ctComingTellSteps ocComingLeadsTo kVComingLeadsTo dcComingLeadsTo pmComingLeadsTo cdComingLeadsTo ctComingLeadsTo ocComingPlan kVComingPlan dcComingPlan pmComingPlan cdComingPlan ctComingPlan ocComingFirstStep kVComingFirstStep dcComingFirstStep pmComingFirstStep cdComingFirstStep ctComingFirstStep ocComingCountSorted kVComingCountSorted dcComingCountSorted pmComingCountSorted cdComingCountSorted ctComingCountSorted ocComingCountLost kVComingCountLost dcComingCountLost pmComingCountLost cdComingCountLost ctComingCountLost ocKeeperInit kVKeeperInit dcKeeperInit pmKeeperInit cdKeeperInit ctKeeperInit ocKeeperNeedTube kVKeeperNeedTube dcKeeperNeedTube pmKeeperNeedTube cdKeeperNeedTube ctKeeperNeedTube ocKeeperDrops kVKeeperDrops dcKeeperDrops pmKeeperDrops cdKeeperDrops ctKeeperDrops ocKeeperFill kVKeeperFill dcKeeperFill pmKeeperFill cdKeeperFill ctKeeperFill ocKeeperGoes kVKeeperGoes dcKeeperGoes pmKeeperGoes cdKeeperGoes ctKeeperGoes ocKeeperPour kVKeeperPour dcKeeperPour pmKeeperPour cdKeeperPour ctKeeperPour ocKeeperMay kVKeeperMay dcKeeperMay pmKeeperMay cdKeeperMay ctKeeperMay ocKeeperSortedTold kVKeeperSortedTold dcKeeperSortedTold pmKeeperSortedTold cdKeeperSortedTold ctKeeperSortedTold ocKeeperComing kVKeeperComing dcKeeperComing pmKeeperComing cdKeeperComing ctKeeperComing ocKeeperFewest kVKeeperFewest dcKeeperFewest pmKeeperFewest cdKeeperFewest ctKeeperFewest ocKeeperPlanTold kVKeeperPlanTold dcKeeperPlanTold pmKeeperPlanTold cdKeeperPlanTold ctKeeperPlanTold ocKeeperReach kVKeeperReach dcKeeperReach pmKeeperReach cdKeeperReach ctKeeperReach ocKeeperLost kVKeeperLost dcKeeperLost pmKeeperLost cdKeeperLost ctKeeperLost ocKeeperTube kVKeeperTube dcKeeperTube pmKeeperTube cdKeeperTube ctKeeperTube ocKeeperState kVKeeperState dcKeeperState pmKeeperState cdKeeperState ctKeeperState ocDeskInit kVDeskInit dcDeskInit pmDeskInit cdDeskInit ctDeskInit ocDeskCall kVDeskCall dcDeskCall pmDeskCall cdDeskCall ctDeskCall ocDeskTold kVDeskTold dcDeskTold pmDeskTold cdDeskTold ctDeskTold ocRefusedInit kVRefusedInit dcRefusedInit pmRefusedInit cdRefusedInit ctRefusedInit : Value}
    {odTopRun anTopRun odGoing anGoing odPoured anPoured odIsSorted anIsSorted odAllPourings anAllPourings odNeed anNeed odListed anListed odBegun anBegun odAsked anAsked odAnswers anAnswers odComingInit anComingInit odComingTellSteps anComingTellSteps odComingLeadsTo anComingLeadsTo odComingPlan anComingPlan odComingFirstStep anComingFirstStep odComingCountSorted anComingCountSorted odComingCountLost anComingCountLost odKeeperInit anKeeperInit odKeeperNeedTube anKeeperNeedTube odKeeperDrops anKeeperDrops odKeeperFill anKeeperFill odKeeperGoes anKeeperGoes odKeeperPour anKeeperPour odKeeperMay anKeeperMay odKeeperSortedTold anKeeperSortedTold odKeeperComing anKeeperComing odKeeperFewest anKeeperFewest odKeeperPlanTold anKeeperPlanTold odKeeperReach anKeeperReach odKeeperLost anKeeperLost odKeeperTube anKeeperTube odKeeperState anKeeperState odDeskInit anDeskInit odDeskCall anDeskCall odDeskTold anDeskTold odRefusedInit anRefusedInit odN ddR : Option Addr} {slTopRun slGoing slPoured slIsSorted slAllPourings slNeed slListed slBegun slAsked slAnswers slComingInit slComingTellSteps slComingLeadsTo slComingPlan slComingFirstStep slComingCountSorted slComingCountLost slKeeperInit slKeeperNeedTube slKeeperDrops slKeeperFill slKeeperGoes slKeeperPour slKeeperMay slKeeperSortedTold slKeeperComing slKeeperFewest slKeeperPlanTold slKeeperReach slKeeperLost slKeeperTube slKeeperState slDeskInit slDeskCall slDeskTold slRefusedInit slN : Array (Option Value)} {itsN : Array Value} {nN : Nat}
    {tMostRacks tNotSo tAbsent tSpoilt tCannot tTooMany tMostRoom tLeastTubes tMostTubes tMostColour tBegins tFill : Nat}
    {nmR qR : Str} {bsR : List Value} {snR : List Str} {subR : List Value} {abR : Bool} {colR : Option Bool} {m0R m1R m2R m3R m5R : Option Value}
    (aComing : PySem.W.nsIn K mainGlobals "Coming" = some (some (.ref cComing)))
    (aKeeper : PySem.W.nsIn K mainGlobals "Keeper" = some (some (.ref cKeeper)))
    (aDesk : PySem.W.nsIn K mainGlobals "Desk" = some (some (.ref cDesk)))
    (aRefused : PySem.W.nsIn K mainGlobals "Refused" = some (some (.ref cRefused)))
    (aTooMany : PySem.W.nsIn K mainGlobals "TooMany" = some (some (.ref cTooMany)))
    (aNumbers : PySem.W.nsIn K mainGlobals "NUMBERS" = some (some (.ref nA)))
    (lNumbers : K.lookup nA = some ⟨.type "tuple", odN, .seq itsN nN, slN⟩)
    (vNumbers : Vals ([2, 1, 2, 2, 0, 0, 0, 0, 2, 1, 0].map V.int) itsN.toList)
    (zNumbers : itsN.size ≤ sizeLine)
    (bLen : PySem.W.nsIn K mainGlobals "len" = some none)
    (bMin : PySem.W.nsIn K mainGlobals "min" = some none)
    (bList : PySem.W.nsIn K mainGlobals "list" = some none)
    (bTuple : PySem.W.nsIn K mainGlobals "tuple" = some none)
    (bSet : PySem.W.nsIn K mainGlobals "set" = some none)
    (bRange : PySem.W.nsIn K mainGlobals "range" = some none)
    (bInt : PySem.W.nsIn K mainGlobals "int" = some none)
    (bSum : PySem.W.nsIn K mainGlobals "sum" = some none)
    (vMostRacks : PySem.W.nsIn K mainGlobals "MOST_RACKS" = some (some (.int 300 tMostRacks)))
    (vNotSo : PySem.W.nsIn K mainGlobals "NOT_SO" = some (some (.int (-1) tNotSo)))
    (vAbsent : PySem.W.nsIn K mainGlobals "ABSENT" = some (some (.int (-2) tAbsent)))
    (vSpoilt : PySem.W.nsIn K mainGlobals "SPOILT" = some (some (.int (-4) tSpoilt)))
    (vCannot : PySem.W.nsIn K mainGlobals "CANNOT" = some (some (.int (-6) tCannot)))
    (vTooMany : PySem.W.nsIn K mainGlobals "TOO_MANY" = some (some (.int (-9) tTooMany)))
    (vMostRoom : PySem.W.nsIn K mainGlobals "MOST_ROOM" = some (some (.int 4 tMostRoom)))
    (vLeastTubes : PySem.W.nsIn K mainGlobals "LEAST_TUBES" = some (some (.int 2 tLeastTubes)))
    (vMostTubes : PySem.W.nsIn K mainGlobals "MOST_TUBES" = some (some (.int 5 tMostTubes)))
    (vMostColour : PySem.W.nsIn K mainGlobals "MOST_COLOUR" = some (some (.int 5 tMostColour)))
    (vBegins : PySem.W.nsIn K mainGlobals "BEGINS" = some (some (.int 0 tBegins)))
    (vFill : PySem.W.nsIn K mainGlobals "FILL" = some (some (.int 1 tFill)))
    (aTopRun : PySem.W.nsIn K mainGlobals "top_run" = some (some (.ref fTopRun)))
    (lTopRun : K.lookup fTopRun = some ⟨ocTopRun, odTopRun, .func (PySem.W.fnOf "top_run" "top_run" (defArgs sTopRun) (defBody sTopRun) (defScope sTopRun) .none kVTopRun dcTopRun pmTopRun anTopRun cdTopRun ctTopRun), slTopRun⟩)
    (cTopRun : PySem.W.codeIn K cdTopRun "top_run" = true)
    (kTopRun : PySem.W.keepIn K (.ref fTopRun) = true)
    (aGoing : PySem.W.nsIn K mainGlobals "going" = some (some (.ref fGoing)))
    (lGoing : K.lookup fGoing = some ⟨ocGoing, odGoing, .func (PySem.W.fnOf "going" "going" (defArgs sGoing) (defBody sGoing) (defScope sGoing) .none kVGoing dcGoing pmGoing anGoing cdGoing ctGoing), slGoing⟩)
    (cGoing : PySem.W.codeIn K cdGoing "going" = true)
    (kGoing : PySem.W.keepIn K (.ref fGoing) = true)
    (aPoured : PySem.W.nsIn K mainGlobals "poured" = some (some (.ref fPoured)))
    (lPoured : K.lookup fPoured = some ⟨ocPoured, odPoured, .func (PySem.W.fnOf "poured" "poured" (defArgs sPoured) (defBody sPoured) (defScope sPoured) .none kVPoured dcPoured pmPoured anPoured cdPoured ctPoured), slPoured⟩)
    (cPoured : PySem.W.codeIn K cdPoured "poured" = true)
    (kPoured : PySem.W.keepIn K (.ref fPoured) = true)
    (aIsSorted : PySem.W.nsIn K mainGlobals "is_sorted" = some (some (.ref fIsSorted)))
    (lIsSorted : K.lookup fIsSorted = some ⟨ocIsSorted, odIsSorted, .func (PySem.W.fnOf "is_sorted" "is_sorted" (defArgs sIsSorted) (defBody sIsSorted) (defScope sIsSorted) .none kVIsSorted dcIsSorted pmIsSorted anIsSorted cdIsSorted ctIsSorted), slIsSorted⟩)
    (cIsSorted : PySem.W.codeIn K cdIsSorted "is_sorted" = true)
    (kIsSorted : PySem.W.keepIn K (.ref fIsSorted) = true)
    (aAllPourings : PySem.W.nsIn K mainGlobals "all_pourings" = some (some (.ref fAllPourings)))
    (lAllPourings : K.lookup fAllPourings = some ⟨ocAllPourings, odAllPourings, .func (PySem.W.fnOf "all_pourings" "all_pourings" (defArgs sAllPourings) (defBody sAllPourings) (defScope sAllPourings) .none kVAllPourings dcAllPourings pmAllPourings anAllPourings cdAllPourings ctAllPourings), slAllPourings⟩)
    (cAllPourings : PySem.W.codeIn K cdAllPourings "all_pourings" = true)
    (kAllPourings : PySem.W.keepIn K (.ref fAllPourings) = true)
    (aNeed : PySem.W.nsIn K mainGlobals "need" = some (some (.ref fNeed)))
    (lNeed : K.lookup fNeed = some ⟨ocNeed, odNeed, .func (PySem.W.fnOf "need" "need" (defArgs sNeed) (defBody sNeed) (defScope sNeed) .none kVNeed dcNeed pmNeed anNeed cdNeed ctNeed), slNeed⟩)
    (cNeed : PySem.W.codeIn K cdNeed "need" = true)
    (kNeed : PySem.W.keepIn K (.ref fNeed) = true)
    (aListed : PySem.W.nsIn K mainGlobals "listed" = some (some (.ref fListed)))
    (lListed : K.lookup fListed = some ⟨ocListed, odListed, .func (PySem.W.fnOf "listed" "listed" (defArgs sListed) (defBody sListed) (defScope sListed) .none kVListed dcListed pmListed anListed cdListed ctListed), slListed⟩)
    (cListed : PySem.W.codeIn K cdListed "listed" = true)
    (kListed : PySem.W.keepIn K (.ref fListed) = true)
    (aBegun : PySem.W.nsIn K mainGlobals "begun" = some (some (.ref fBegun)))
    (lBegun : K.lookup fBegun = some ⟨ocBegun, odBegun, .func (PySem.W.fnOf "begun" "begun" (defArgs sBegun) (defBody sBegun) (defScope sBegun) .none kVBegun dcBegun pmBegun anBegun cdBegun ctBegun), slBegun⟩)
    (cBegun : PySem.W.codeIn K cdBegun "begun" = true)
    (kBegun : PySem.W.keepIn K (.ref fBegun) = true)
    (aAsked : PySem.W.nsIn K mainGlobals "asked" = some (some (.ref fAsked)))
    (lAsked : K.lookup fAsked = some ⟨ocAsked, odAsked, .func (PySem.W.fnOf "asked" "asked" (defArgs sAsked) (defBody sAsked) (defScope sAsked) .none kVAsked dcAsked pmAsked anAsked cdAsked ctAsked), slAsked⟩)
    (cAsked : PySem.W.codeIn K cdAsked "asked" = true)
    (kAsked : PySem.W.keepIn K (.ref fAsked) = true)
    (aAnswers : PySem.W.nsIn K mainGlobals "answers" = some (some (.ref fAnswers)))
    (lAnswers : K.lookup fAnswers = some ⟨ocAnswers, odAnswers, .func (PySem.W.fnOf "answers" "answers" (defArgs sAnswers) (defBody sAnswers) (defScope sAnswers) .none kVAnswers dcAnswers pmAnswers anAnswers cdAnswers ctAnswers), slAnswers⟩)
    (cAnswers : PySem.W.codeIn K cdAnswers "answers" = true)
    (kAnswers : PySem.W.keepIn K (.ref fAnswers) = true)
    (aComingInit : PySem.W.findIn K (.ref cComing) "__init__" = some (some (.ref fComingInit)))
    (iComingInit : PySem.W.isFn K (.ref fComingInit) = true)
    (lComingInit : K.lookup fComingInit = some ⟨ocComingInit, odComingInit, .func (PySem.W.fnOf "__init__" "Coming.__init__" (defArgs sComingInit) (defBody sComingInit) (defScope sComingInit) .none kVComingInit dcComingInit pmComingInit anComingInit cdComingInit ctComingInit), slComingInit⟩)
    (cComingInit : PySem.W.codeIn K cdComingInit "Coming.__init__" = true)
    (kComingInit : PySem.W.keepIn K (.ref fComingInit) = true)
    (aComingTellSteps : PySem.W.findIn K (.ref cComing) "tell_steps" = some (some (.ref fComingTellSteps)))
    (iComingTellSteps : PySem.W.isFn K (.ref fComingTellSteps) = true)
    (lComingTellSteps : K.lookup fComingTellSteps = some ⟨ocComingTellSteps, odComingTellSteps, .func (PySem.W.fnOf "tell_steps" "Coming.tell_steps" (defArgs sComingTellSteps) (defBody sComingTellSteps) (defScope sComingTellSteps) .none kVComingTellSteps dcComingTellSteps pmComingTellSteps anComingTellSteps cdComingTellSteps ctComingTellSteps), slComingTellSteps⟩)
    (cComingTellSteps : PySem.W.codeIn K cdComingTellSteps "Coming.tell_steps" = true)
    (kComingTellSteps : PySem.W.keepIn K (.ref fComingTellSteps) = true)
    (aComingLeadsTo : PySem.W.findIn K (.ref cComing) "leads_to" = some (some (.ref fComingLeadsTo)))
    (iComingLeadsTo : PySem.W.isFn K (.ref fComingLeadsTo) = true)
    (lComingLeadsTo : K.lookup fComingLeadsTo = some ⟨ocComingLeadsTo, odComingLeadsTo, .func (PySem.W.fnOf "leads_to" "Coming.leads_to" (defArgs sComingLeadsTo) (defBody sComingLeadsTo) (defScope sComingLeadsTo) .none kVComingLeadsTo dcComingLeadsTo pmComingLeadsTo anComingLeadsTo cdComingLeadsTo ctComingLeadsTo), slComingLeadsTo⟩)
    (cComingLeadsTo : PySem.W.codeIn K cdComingLeadsTo "Coming.leads_to" = true)
    (kComingLeadsTo : PySem.W.keepIn K (.ref fComingLeadsTo) = true)
    (aComingPlan : PySem.W.findIn K (.ref cComing) "plan" = some (some (.ref fComingPlan)))
    (iComingPlan : PySem.W.isFn K (.ref fComingPlan) = true)
    (lComingPlan : K.lookup fComingPlan = some ⟨ocComingPlan, odComingPlan, .func (PySem.W.fnOf "plan" "Coming.plan" (defArgs sComingPlan) (defBody sComingPlan) (defScope sComingPlan) .none kVComingPlan dcComingPlan pmComingPlan anComingPlan cdComingPlan ctComingPlan), slComingPlan⟩)
    (cComingPlan : PySem.W.codeIn K cdComingPlan "Coming.plan" = true)
    (kComingPlan : PySem.W.keepIn K (.ref fComingPlan) = true)
    (aComingFirstStep : PySem.W.findIn K (.ref cComing) "first_step" = some (some (.ref fComingFirstStep)))
    (iComingFirstStep : PySem.W.isFn K (.ref fComingFirstStep) = true)
    (lComingFirstStep : K.lookup fComingFirstStep = some ⟨ocComingFirstStep, odComingFirstStep, .func (PySem.W.fnOf "first_step" "Coming.first_step" (defArgs sComingFirstStep) (defBody sComingFirstStep) (defScope sComingFirstStep) .none kVComingFirstStep dcComingFirstStep pmComingFirstStep anComingFirstStep cdComingFirstStep ctComingFirstStep), slComingFirstStep⟩)
    (cComingFirstStep : PySem.W.codeIn K cdComingFirstStep "Coming.first_step" = true)
    (kComingFirstStep : PySem.W.keepIn K (.ref fComingFirstStep) = true)
    (aComingCountSorted : PySem.W.findIn K (.ref cComing) "count_sorted" = some (some (.ref fComingCountSorted)))
    (iComingCountSorted : PySem.W.isFn K (.ref fComingCountSorted) = true)
    (lComingCountSorted : K.lookup fComingCountSorted = some ⟨ocComingCountSorted, odComingCountSorted, .func (PySem.W.fnOf "count_sorted" "Coming.count_sorted" (defArgs sComingCountSorted) (defBody sComingCountSorted) (defScope sComingCountSorted) .none kVComingCountSorted dcComingCountSorted pmComingCountSorted anComingCountSorted cdComingCountSorted ctComingCountSorted), slComingCountSorted⟩)
    (cComingCountSorted : PySem.W.codeIn K cdComingCountSorted "Coming.count_sorted" = true)
    (kComingCountSorted : PySem.W.keepIn K (.ref fComingCountSorted) = true)
    (aComingCountLost : PySem.W.findIn K (.ref cComing) "count_lost" = some (some (.ref fComingCountLost)))
    (iComingCountLost : PySem.W.isFn K (.ref fComingCountLost) = true)
    (lComingCountLost : K.lookup fComingCountLost = some ⟨ocComingCountLost, odComingCountLost, .func (PySem.W.fnOf "count_lost" "Coming.count_lost" (defArgs sComingCountLost) (defBody sComingCountLost) (defScope sComingCountLost) .none kVComingCountLost dcComingCountLost pmComingCountLost anComingCountLost cdComingCountLost ctComingCountLost), slComingCountLost⟩)
    (cComingCountLost : PySem.W.codeIn K cdComingCountLost "Coming.count_lost" = true)
    (kComingCountLost : PySem.W.keepIn K (.ref fComingCountLost) = true)
    (aKeeperInit : PySem.W.findIn K (.ref cKeeper) "__init__" = some (some (.ref fKeeperInit)))
    (iKeeperInit : PySem.W.isFn K (.ref fKeeperInit) = true)
    (lKeeperInit : K.lookup fKeeperInit = some ⟨ocKeeperInit, odKeeperInit, .func (PySem.W.fnOf "__init__" "Keeper.__init__" (defArgs sKeeperInit) (defBody sKeeperInit) (defScope sKeeperInit) .none kVKeeperInit dcKeeperInit pmKeeperInit anKeeperInit cdKeeperInit ctKeeperInit), slKeeperInit⟩)
    (cKeeperInit : PySem.W.codeIn K cdKeeperInit "Keeper.__init__" = true)
    (kKeeperInit : PySem.W.keepIn K (.ref fKeeperInit) = true)
    (aKeeperNeedTube : PySem.W.findIn K (.ref cKeeper) "need_tube" = some (some (.ref fKeeperNeedTube)))
    (iKeeperNeedTube : PySem.W.isFn K (.ref fKeeperNeedTube) = true)
    (lKeeperNeedTube : K.lookup fKeeperNeedTube = some ⟨ocKeeperNeedTube, odKeeperNeedTube, .func (PySem.W.fnOf "need_tube" "Keeper.need_tube" (defArgs sKeeperNeedTube) (defBody sKeeperNeedTube) (defScope sKeeperNeedTube) .none kVKeeperNeedTube dcKeeperNeedTube pmKeeperNeedTube anKeeperNeedTube cdKeeperNeedTube ctKeeperNeedTube), slKeeperNeedTube⟩)
    (cKeeperNeedTube : PySem.W.codeIn K cdKeeperNeedTube "Keeper.need_tube" = true)
    (kKeeperNeedTube : PySem.W.keepIn K (.ref fKeeperNeedTube) = true)
    (aKeeperDrops : PySem.W.findIn K (.ref cKeeper) "drops" = some (some (.ref fKeeperDrops)))
    (iKeeperDrops : PySem.W.isFn K (.ref fKeeperDrops) = true)
    (lKeeperDrops : K.lookup fKeeperDrops = some ⟨ocKeeperDrops, odKeeperDrops, .func (PySem.W.fnOf "drops" "Keeper.drops" (defArgs sKeeperDrops) (defBody sKeeperDrops) (defScope sKeeperDrops) .none kVKeeperDrops dcKeeperDrops pmKeeperDrops anKeeperDrops cdKeeperDrops ctKeeperDrops), slKeeperDrops⟩)
    (cKeeperDrops : PySem.W.codeIn K cdKeeperDrops "Keeper.drops" = true)
    (kKeeperDrops : PySem.W.keepIn K (.ref fKeeperDrops) = true)
    (aKeeperFill : PySem.W.findIn K (.ref cKeeper) "fill" = some (some (.ref fKeeperFill)))
    (iKeeperFill : PySem.W.isFn K (.ref fKeeperFill) = true)
    (lKeeperFill : K.lookup fKeeperFill = some ⟨ocKeeperFill, odKeeperFill, .func (PySem.W.fnOf "fill" "Keeper.fill" (defArgs sKeeperFill) (defBody sKeeperFill) (defScope sKeeperFill) .none kVKeeperFill dcKeeperFill pmKeeperFill anKeeperFill cdKeeperFill ctKeeperFill), slKeeperFill⟩)
    (cKeeperFill : PySem.W.codeIn K cdKeeperFill "Keeper.fill" = true)
    (kKeeperFill : PySem.W.keepIn K (.ref fKeeperFill) = true)
    (aKeeperGoes : PySem.W.findIn K (.ref cKeeper) "goes" = some (some (.ref fKeeperGoes)))
    (iKeeperGoes : PySem.W.isFn K (.ref fKeeperGoes) = true)
    (lKeeperGoes : K.lookup fKeeperGoes = some ⟨ocKeeperGoes, odKeeperGoes, .func (PySem.W.fnOf "goes" "Keeper.goes" (defArgs sKeeperGoes) (defBody sKeeperGoes) (defScope sKeeperGoes) .none kVKeeperGoes dcKeeperGoes pmKeeperGoes anKeeperGoes cdKeeperGoes ctKeeperGoes), slKeeperGoes⟩)
    (cKeeperGoes : PySem.W.codeIn K cdKeeperGoes "Keeper.goes" = true)
    (kKeeperGoes : PySem.W.keepIn K (.ref fKeeperGoes) = true)
    (aKeeperPour : PySem.W.findIn K (.ref cKeeper) "pour" = some (some (.ref fKeeperPour)))
    (iKeeperPour : PySem.W.isFn K (.ref fKeeperPour) = true)
    (lKeeperPour : K.lookup fKeeperPour = some ⟨ocKeeperPour, odKeeperPour, .func (PySem.W.fnOf "pour" "Keeper.pour" (defArgs sKeeperPour) (defBody sKeeperPour) (defScope sKeeperPour) .none kVKeeperPour dcKeeperPour pmKeeperPour anKeeperPour cdKeeperPour ctKeeperPour), slKeeperPour⟩)
    (cKeeperPour : PySem.W.codeIn K cdKeeperPour "Keeper.pour" = true)
    (kKeeperPour : PySem.W.keepIn K (.ref fKeeperPour) = true)
    (aKeeperMay : PySem.W.findIn K (.ref cKeeper) "may" = some (some (.ref fKeeperMay)))
    (iKeeperMay : PySem.W.isFn K (.ref fKeeperMay) = true)
    (lKeeperMay : K.lookup fKeeperMay = some ⟨ocKeeperMay, odKeeperMay, .func (PySem.W.fnOf "may" "Keeper.may" (defArgs sKeeperMay) (defBody sKeeperMay) (defScope sKeeperMay) .none kVKeeperMay dcKeeperMay pmKeeperMay anKeeperMay cdKeeperMay ctKeeperMay), slKeeperMay⟩)
    (cKeeperMay : PySem.W.codeIn K cdKeeperMay "Keeper.may" = true)
    (kKeeperMay : PySem.W.keepIn K (.ref fKeeperMay) = true)
    (aKeeperSortedTold : PySem.W.findIn K (.ref cKeeper) "sorted_told" = some (some (.ref fKeeperSortedTold)))
    (iKeeperSortedTold : PySem.W.isFn K (.ref fKeeperSortedTold) = true)
    (lKeeperSortedTold : K.lookup fKeeperSortedTold = some ⟨ocKeeperSortedTold, odKeeperSortedTold, .func (PySem.W.fnOf "sorted_told" "Keeper.sorted_told" (defArgs sKeeperSortedTold) (defBody sKeeperSortedTold) (defScope sKeeperSortedTold) .none kVKeeperSortedTold dcKeeperSortedTold pmKeeperSortedTold anKeeperSortedTold cdKeeperSortedTold ctKeeperSortedTold), slKeeperSortedTold⟩)
    (cKeeperSortedTold : PySem.W.codeIn K cdKeeperSortedTold "Keeper.sorted_told" = true)
    (kKeeperSortedTold : PySem.W.keepIn K (.ref fKeeperSortedTold) = true)
    (aKeeperComing : PySem.W.findIn K (.ref cKeeper) "coming" = some (some (.ref fKeeperComing)))
    (iKeeperComing : PySem.W.isFn K (.ref fKeeperComing) = true)
    (lKeeperComing : K.lookup fKeeperComing = some ⟨ocKeeperComing, odKeeperComing, .func (PySem.W.fnOf "coming" "Keeper.coming" (defArgs sKeeperComing) (defBody sKeeperComing) (defScope sKeeperComing) .none kVKeeperComing dcKeeperComing pmKeeperComing anKeeperComing cdKeeperComing ctKeeperComing), slKeeperComing⟩)
    (cKeeperComing : PySem.W.codeIn K cdKeeperComing "Keeper.coming" = true)
    (kKeeperComing : PySem.W.keepIn K (.ref fKeeperComing) = true)
    (aKeeperFewest : PySem.W.findIn K (.ref cKeeper) "fewest" = some (some (.ref fKeeperFewest)))
    (iKeeperFewest : PySem.W.isFn K (.ref fKeeperFewest) = true)
    (lKeeperFewest : K.lookup fKeeperFewest = some ⟨ocKeeperFewest, odKeeperFewest, .func (PySem.W.fnOf "fewest" "Keeper.fewest" (defArgs sKeeperFewest) (defBody sKeeperFewest) (defScope sKeeperFewest) .none kVKeeperFewest dcKeeperFewest pmKeeperFewest anKeeperFewest cdKeeperFewest ctKeeperFewest), slKeeperFewest⟩)
    (cKeeperFewest : PySem.W.codeIn K cdKeeperFewest "Keeper.fewest" = true)
    (kKeeperFewest : PySem.W.keepIn K (.ref fKeeperFewest) = true)
    (aKeeperPlanTold : PySem.W.findIn K (.ref cKeeper) "plan_told" = some (some (.ref fKeeperPlanTold)))
    (iKeeperPlanTold : PySem.W.isFn K (.ref fKeeperPlanTold) = true)
    (lKeeperPlanTold : K.lookup fKeeperPlanTold = some ⟨ocKeeperPlanTold, odKeeperPlanTold, .func (PySem.W.fnOf "plan_told" "Keeper.plan_told" (defArgs sKeeperPlanTold) (defBody sKeeperPlanTold) (defScope sKeeperPlanTold) .none kVKeeperPlanTold dcKeeperPlanTold pmKeeperPlanTold anKeeperPlanTold cdKeeperPlanTold ctKeeperPlanTold), slKeeperPlanTold⟩)
    (cKeeperPlanTold : PySem.W.codeIn K cdKeeperPlanTold "Keeper.plan_told" = true)
    (kKeeperPlanTold : PySem.W.keepIn K (.ref fKeeperPlanTold) = true)
    (aKeeperReach : PySem.W.findIn K (.ref cKeeper) "reach" = some (some (.ref fKeeperReach)))
    (iKeeperReach : PySem.W.isFn K (.ref fKeeperReach) = true)
    (lKeeperReach : K.lookup fKeeperReach = some ⟨ocKeeperReach, odKeeperReach, .func (PySem.W.fnOf "reach" "Keeper.reach" (defArgs sKeeperReach) (defBody sKeeperReach) (defScope sKeeperReach) .none kVKeeperReach dcKeeperReach pmKeeperReach anKeeperReach cdKeeperReach ctKeeperReach), slKeeperReach⟩)
    (cKeeperReach : PySem.W.codeIn K cdKeeperReach "Keeper.reach" = true)
    (kKeeperReach : PySem.W.keepIn K (.ref fKeeperReach) = true)
    (aKeeperLost : PySem.W.findIn K (.ref cKeeper) "lost" = some (some (.ref fKeeperLost)))
    (iKeeperLost : PySem.W.isFn K (.ref fKeeperLost) = true)
    (lKeeperLost : K.lookup fKeeperLost = some ⟨ocKeeperLost, odKeeperLost, .func (PySem.W.fnOf "lost" "Keeper.lost" (defArgs sKeeperLost) (defBody sKeeperLost) (defScope sKeeperLost) .none kVKeeperLost dcKeeperLost pmKeeperLost anKeeperLost cdKeeperLost ctKeeperLost), slKeeperLost⟩)
    (cKeeperLost : PySem.W.codeIn K cdKeeperLost "Keeper.lost" = true)
    (kKeeperLost : PySem.W.keepIn K (.ref fKeeperLost) = true)
    (aKeeperTube : PySem.W.findIn K (.ref cKeeper) "tube" = some (some (.ref fKeeperTube)))
    (iKeeperTube : PySem.W.isFn K (.ref fKeeperTube) = true)
    (lKeeperTube : K.lookup fKeeperTube = some ⟨ocKeeperTube, odKeeperTube, .func (PySem.W.fnOf "tube" "Keeper.tube" (defArgs sKeeperTube) (defBody sKeeperTube) (defScope sKeeperTube) .none kVKeeperTube dcKeeperTube pmKeeperTube anKeeperTube cdKeeperTube ctKeeperTube), slKeeperTube⟩)
    (cKeeperTube : PySem.W.codeIn K cdKeeperTube "Keeper.tube" = true)
    (kKeeperTube : PySem.W.keepIn K (.ref fKeeperTube) = true)
    (aKeeperState : PySem.W.findIn K (.ref cKeeper) "state" = some (some (.ref fKeeperState)))
    (iKeeperState : PySem.W.isFn K (.ref fKeeperState) = true)
    (lKeeperState : K.lookup fKeeperState = some ⟨ocKeeperState, odKeeperState, .func (PySem.W.fnOf "state" "Keeper.state" (defArgs sKeeperState) (defBody sKeeperState) (defScope sKeeperState) .none kVKeeperState dcKeeperState pmKeeperState anKeeperState cdKeeperState ctKeeperState), slKeeperState⟩)
    (cKeeperState : PySem.W.codeIn K cdKeeperState "Keeper.state" = true)
    (kKeeperState : PySem.W.keepIn K (.ref fKeeperState) = true)
    (aDeskInit : PySem.W.findIn K (.ref cDesk) "__init__" = some (some (.ref fDeskInit)))
    (iDeskInit : PySem.W.isFn K (.ref fDeskInit) = true)
    (lDeskInit : K.lookup fDeskInit = some ⟨ocDeskInit, odDeskInit, .func (PySem.W.fnOf "__init__" "Desk.__init__" (defArgs sDeskInit) (defBody sDeskInit) (defScope sDeskInit) .none kVDeskInit dcDeskInit pmDeskInit anDeskInit cdDeskInit ctDeskInit), slDeskInit⟩)
    (cDeskInit : PySem.W.codeIn K cdDeskInit "Desk.__init__" = true)
    (kDeskInit : PySem.W.keepIn K (.ref fDeskInit) = true)
    (aDeskCall : PySem.W.findIn K (.ref cDesk) "call" = some (some (.ref fDeskCall)))
    (iDeskCall : PySem.W.isFn K (.ref fDeskCall) = true)
    (lDeskCall : K.lookup fDeskCall = some ⟨ocDeskCall, odDeskCall, .func (PySem.W.fnOf "call" "Desk.call" (defArgs sDeskCall) (defBody sDeskCall) (defScope sDeskCall) .none kVDeskCall dcDeskCall pmDeskCall anDeskCall cdDeskCall ctDeskCall), slDeskCall⟩)
    (cDeskCall : PySem.W.codeIn K cdDeskCall "Desk.call" = true)
    (kDeskCall : PySem.W.keepIn K (.ref fDeskCall) = true)
    (aDeskTold : PySem.W.findIn K (.ref cDesk) "told" = some (some (.ref fDeskTold)))
    (iDeskTold : PySem.W.isFn K (.ref fDeskTold) = true)
    (lDeskTold : K.lookup fDeskTold = some ⟨ocDeskTold, odDeskTold, .func (PySem.W.fnOf "told" "Desk.told" (defArgs sDeskTold) (defBody sDeskTold) (defScope sDeskTold) .none kVDeskTold dcDeskTold pmDeskTold anDeskTold cdDeskTold ctDeskTold), slDeskTold⟩)
    (cDeskTold : PySem.W.codeIn K cdDeskTold "Desk.told" = true)
    (kDeskTold : PySem.W.keepIn K (.ref fDeskTold) = true)
    (aRefusedInit : PySem.W.findIn K (.ref cRefused) "__init__" = some (some (.ref fRefusedInit)))
    (iRefusedInit : PySem.W.typeIn K (.ref fRefusedInit) = some (.type "function"))
    (lRefusedInit : K.lookup fRefusedInit = some ⟨ocRefusedInit, odRefusedInit, .func (PySem.W.fnOf "__init__" "Refused.__init__" (defArgs sRefusedInit) (defBody sRefusedInit) (defScope sRefusedInit) .none kVRefusedInit dcRefusedInit pmRefusedInit anRefusedInit cdRefusedInit ctRefusedInit), slRefusedInit⟩)
    (cRefusedInit : PySem.W.codeIn K cdRefusedInit "Refused.__init__" = true)
    (kRefusedInit : PySem.W.keepIn K (.ref fRefusedInit) = true)
    (pgComing : PySem.W.plainGet K cComing Str.empty = true)
    (hdComing : PySem.W.hasDictIn K cComing = true)
    (poComing : PySem.W.plainOver K cComing = true)
    (saComing : PySem.W.findIn K (.ref cComing) "__setattr__" = some (some (.builtin "object.__setattr__")))
    (mkComing : PySem.W.makesIn K cComing = true)
    (kcComing : PySem.W.keepIn K (.ref cComing) = true)
    (nComingPourings : PySem.W.findIn K (.ref cComing) "pourings" = some none)
    (nComingRacks : PySem.W.findIn K (.ref cComing) "racks" = some none)
    (nComingSteps : PySem.W.findIn K (.ref cComing) "steps" = some none)
    (pgKeeper : PySem.W.plainGet K cKeeper Str.empty = true)
    (hdKeeper : PySem.W.hasDictIn K cKeeper = true)
    (poKeeper : PySem.W.plainOver K cKeeper = true)
    (saKeeper : PySem.W.findIn K (.ref cKeeper) "__setattr__" = some (some (.builtin "object.__setattr__")))
    (mkKeeper : PySem.W.makesIn K cKeeper = true)
    (kcKeeper : PySem.W.keepIn K (.ref cKeeper) = true)
    (nKeeperRoom : PySem.W.findIn K (.ref cKeeper) "room" = some none)
    (nKeeperRack : PySem.W.findIn K (.ref cKeeper) "rack" = some none)
    (nKeeperCount : PySem.W.findIn K (.ref cKeeper) "count" = some none)
    (pgDesk : PySem.W.plainGet K cDesk Str.empty = true)
    (hdDesk : PySem.W.hasDictIn K cDesk = true)
    (poDesk : PySem.W.plainOver K cDesk = true)
    (saDesk : PySem.W.findIn K (.ref cDesk) "__setattr__" = some (some (.builtin "object.__setattr__")))
    (mkDesk : PySem.W.makesIn K cDesk = true)
    (kcDesk : PySem.W.keepIn K (.ref cDesk) = true)
    (nDeskKeeper : PySem.W.findIn K (.ref cDesk) "keeper" = some none)
    (xlRefused : K.lookup cRefused = some (excClassObj nmR qR cRefused NR bsR [.type "ValueError", .type "Exception", .type "BaseException", .type "object"] true snR subR abR colR ddR m0R m1R m2R m3R m5R "ValueError.__new__"))
    (saRefused : PySem.W.findIn K (.ref cRefused) "__setattr__" = some (some (.builtin "object.__setattr__")))
    (gaRefused : PySem.W.findIn K (.ref cRefused) "__getattribute__" = some (some (.builtin "BaseException.__getattribute__")))
    (ggRefused : PySem.W.findIn K (.ref cRefused) "__getattr__" = some none)
    (naRefused : PySem.W.findIn K (.ref cRefused) "answer" = some none)
    (hdRefused : PySem.W.hasDictIn K cRefused = true)
    (kcRefused : PySem.W.keepIn K (.ref cRefused) = true)
    (exRefused : PySem.W.subIn K (.ref cRefused) (.type "BaseException") = some true)
    (tyRefused : PySem.W.typeIn K (.ref cRefused) = some (.type "type"))
    (icRefused : PySem.W.isClsIn K cRefused = true)
    (ssRefused : PySem.W.subIn K (.ref cRefused) (.ref cRefused) = some true)
    (kcTooMany : PySem.W.keepIn K (.ref cTooMany) = true)
    (exTooMany : PySem.W.subIn K (.ref cTooMany) (.type "BaseException") = some true)
    (tyTooMany : PySem.W.typeIn K (.ref cTooMany) = some (.type "type"))
    (icTooMany : PySem.W.isClsIn K cTooMany = true)
    (ssTooMany : PySem.W.subIn K (.ref cTooMany) (.ref cTooMany) = some true)
    (xTooMany : PySem.W.excIn K cTooMany [.type "ValueError", .type "Exception", .type "BaseException", .type "object"] "ValueError.__new__" = true)
    : ∃ fd : FuncData, (∀ (s : Shared) (us : List Value), us.length = (["calls"] : List Str).length → BindsTo s fd ⟨us, []⟩ ((["calls"] : List Str).zip us)) ∧ ∀ base : Heap, K.In base → base.Ns mainGlobals mg → FnOk P w K mg base CX0 12 fa fd ["calls"] (spAnswers K) := by
  have e := hfa.symm.trans (PySem.W.mg_of X G aAnswers)
  have e2 : fAnswers = fa := by
    cases e
    rfl
  subst e2
  have FTopRun := fun_mk (st := sTopRun) lTopRun cTopRun kTopRun
  have BTopRun := FTopRun.binds (ps := ["tube"]) fun _ _ _ _ _ _ us hl => match us, hl with | [_], _ => rfl
  have FGoing := fun_mk (st := sGoing) lGoing cGoing kGoing
  have BGoing := FGoing.binds (ps := ["rack", "room", "one", "other"]) fun _ _ _ _ _ _ us hl => match us, hl with | [_, _, _, _], _ => rfl
  have FPoured := fun_mk (st := sPoured) lPoured cPoured kPoured
  have BPoured := FPoured.binds (ps := ["rack", "one", "other", "count"]) fun _ _ _ _ _ _ us hl => match us, hl with | [_, _, _, _], _ => rfl
  have FIsSorted := fun_mk (st := sIsSorted) lIsSorted cIsSorted kIsSorted
  have BIsSorted := FIsSorted.binds (ps := ["rack"]) fun _ _ _ _ _ _ us hl => match us, hl with | [_], _ => rfl
  have FAllPourings := fun_mk (st := sAllPourings) lAllPourings cAllPourings kAllPourings
  have BAllPourings := FAllPourings.binds (ps := ["rack", "room"]) fun _ _ _ _ _ _ us hl => match us, hl with | [_, _], _ => rfl
  have FNeed := fun_mk (st := sNeed) lNeed cNeed kNeed
  have BNeed := FNeed.binds (ps := ["truth", "answer"]) fun _ _ _ _ _ _ us hl => match us, hl with | [_, _], _ => rfl
  have FListed := fun_mk (st := sListed) lListed cListed kListed
  have BListed := FListed.binds (ps := ["row"]) fun _ _ _ _ _ _ us hl => match us, hl with | [_], _ => rfl
  have FBegun := fun_mk (st := sBegun) lBegun cBegun kBegun
  have BBegun := FBegun.binds (ps := ["room", "tubes"]) fun _ _ _ _ _ _ us hl => match us, hl with | [_, _], _ => rfl
  have FAsked := fun_mk (st := sAsked) lAsked cAsked kAsked
  have BAsked := FAsked.binds (ps := ["keeper", "word", "numbers", "row"]) fun _ _ _ _ _ _ us hl => match us, hl with | [_, _, _, _], _ => rfl
  have FAnswers := fun_mk (st := sAnswers) lAnswers cAnswers kAnswers
  have BAnswers := FAnswers.binds (ps := ["calls"]) fun _ _ _ _ _ _ us hl => match us, hl with | [_], _ => rfl
  have FComingInit := fun_mk (st := sComingInit) lComingInit cComingInit kComingInit
  have BComingInit := FComingInit.binds (ps := ["self", "rack", "room"]) fun _ _ _ _ _ _ us hl => match us, hl with | [_, _, _], _ => rfl
  have FComingTellSteps := fun_mk (st := sComingTellSteps) lComingTellSteps cComingTellSteps kComingTellSteps
  have BComingTellSteps := FComingTellSteps.binds (ps := ["self"]) fun _ _ _ _ _ _ us hl => match us, hl with | [_], _ => rfl
  have FComingLeadsTo := fun_mk (st := sComingLeadsTo) lComingLeadsTo cComingLeadsTo kComingLeadsTo
  have BComingLeadsTo := FComingLeadsTo.binds (ps := ["self", "rack", "count"]) fun _ _ _ _ _ _ us hl => match us, hl with | [_, _, _], _ => rfl
  have FComingPlan := fun_mk (st := sComingPlan) lComingPlan cComingPlan kComingPlan
  have BComingPlan := FComingPlan.binds (ps := ["self", "rack"]) fun _ _ _ _ _ _ us hl => match us, hl with | [_, _], _ => rfl
  have FComingFirstStep := fun_mk (st := sComingFirstStep) lComingFirstStep cComingFirstStep kComingFirstStep
  have BComingFirstStep := FComingFirstStep.binds (ps := ["self", "rack"]) fun _ _ _ _ _ _ us hl => match us, hl with | [_, _], _ => rfl
  have FComingCountSorted := fun_mk (st := sComingCountSorted) lComingCountSorted cComingCountSorted kComingCountSorted
  have BComingCountSorted := FComingCountSorted.binds (ps := ["self"]) fun _ _ _ _ _ _ us hl => match us, hl with | [_], _ => rfl
  have FComingCountLost := fun_mk (st := sComingCountLost) lComingCountLost cComingCountLost kComingCountLost
  have BComingCountLost := FComingCountLost.binds (ps := ["self"]) fun _ _ _ _ _ _ us hl => match us, hl with | [_], _ => rfl
  have FKeeperInit := fun_mk (st := sKeeperInit) lKeeperInit cKeeperInit kKeeperInit
  have BKeeperInit := FKeeperInit.binds (ps := ["self", "room", "tubes"]) fun _ _ _ _ _ _ us hl => match us, hl with | [_, _, _], _ => rfl
  have FKeeperNeedTube := fun_mk (st := sKeeperNeedTube) lKeeperNeedTube cKeeperNeedTube kKeeperNeedTube
  have BKeeperNeedTube := FKeeperNeedTube.binds (ps := ["self", "tube"]) fun _ _ _ _ _ _ us hl => match us, hl with | [_, _], _ => rfl
  have FKeeperDrops := fun_mk (st := sKeeperDrops) lKeeperDrops cKeeperDrops kKeeperDrops
  have BKeeperDrops := FKeeperDrops.binds (ps := ["self"]) fun _ _ _ _ _ _ us hl => match us, hl with | [_], _ => rfl
  have FKeeperFill := fun_mk (st := sKeeperFill) lKeeperFill cKeeperFill kKeeperFill
  have BKeeperFill := FKeeperFill.binds (ps := ["self", "tube", "colours"]) fun _ _ _ _ _ _ us hl => match us, hl with | [_, _, _], _ => rfl
  have FKeeperGoes := fun_mk (st := sKeeperGoes) lKeeperGoes cKeeperGoes kKeeperGoes
  have BKeeperGoes := FKeeperGoes.binds (ps := ["self", "one", "other"]) fun _ _ _ _ _ _ us hl => match us, hl with | [_, _, _], _ => rfl
  have FKeeperPour := fun_mk (st := sKeeperPour) lKeeperPour cKeeperPour kKeeperPour
  have BKeeperPour := FKeeperPour.binds (ps := ["self", "one", "other"]) fun _ _ _ _ _ _ us hl => match us, hl with | [_, _, _], _ => rfl
  have FKeeperMay := fun_mk (st := sKeeperMay) lKeeperMay cKeeperMay kKeeperMay
  have BKeeperMay := FKeeperMay.binds (ps := ["self", "one", "other"]) fun _ _ _ _ _ _ us hl => match us, hl with | [_, _, _], _ => rfl
  have FKeeperSortedTold := fun_mk (st := sKeeperSortedTold) lKeeperSortedTold cKeeperSortedTold kKeeperSortedTold
  have BKeeperSortedTold := FKeeperSortedTold.binds (ps := ["self"]) fun _ _ _ _ _ _ us hl => match us, hl with | [_], _ => rfl
  have FKeeperComing := fun_mk (st := sKeeperComing) lKeeperComing cKeeperComing kKeeperComing
  have BKeeperComing := FKeeperComing.binds (ps := ["self"]) fun _ _ _ _ _ _ us hl => match us, hl with | [_], _ => rfl
  have FKeeperFewest := fun_mk (st := sKeeperFewest) lKeeperFewest cKeeperFewest kKeeperFewest
  have BKeeperFewest := FKeeperFewest.binds (ps := ["self"]) fun _ _ _ _ _ _ us hl => match us, hl with | [_], _ => rfl
  have FKeeperPlanTold := fun_mk (st := sKeeperPlanTold) lKeeperPlanTold cKeeperPlanTold kKeeperPlanTold
  have BKeeperPlanTold := FKeeperPlanTold.binds (ps := ["self"]) fun _ _ _ _ _ _ us hl => match us, hl with | [_], _ => rfl
  have FKeeperReach := fun_mk (st := sKeeperReach) lKeeperReach cKeeperReach kKeeperReach
  have BKeeperReach := FKeeperReach.binds (ps := ["self"]) fun _ _ _ _ _ _ us hl => match us, hl with | [_], _ => rfl
  have FKeeperLost := fun_mk (st := sKeeperLost) lKeeperLost cKeeperLost kKeeperLost
  have BKeeperLost := FKeeperLost.binds (ps := ["self", "one", "other"]) fun _ _ _ _ _ _ us hl => match us, hl with | [_, _, _], _ => rfl
  have FKeeperTube := fun_mk (st := sKeeperTube) lKeeperTube cKeeperTube kKeeperTube
  have BKeeperTube := FKeeperTube.binds (ps := ["self", "tube"]) fun _ _ _ _ _ _ us hl => match us, hl with | [_, _], _ => rfl
  have FKeeperState := fun_mk (st := sKeeperState) lKeeperState cKeeperState kKeeperState
  have BKeeperState := FKeeperState.binds (ps := ["self"]) fun _ _ _ _ _ _ us hl => match us, hl with | [_], _ => rfl
  have FDeskInit := fun_mk (st := sDeskInit) lDeskInit cDeskInit kDeskInit
  have BDeskInit := FDeskInit.binds (ps := ["self"]) fun _ _ _ _ _ _ us hl => match us, hl with | [_], _ => rfl
  have FDeskCall := fun_mk (st := sDeskCall) lDeskCall cDeskCall kDeskCall
  have BDeskCall := FDeskCall.binds (ps := ["self", "word", "numbers", "row"]) fun _ _ _ _ _ _ us hl => match us, hl with | [_, _, _, _], _ => rfl
  have FDeskTold := fun_mk (st := sDeskTold) lDeskTold cDeskTold kDeskTold
  have BDeskTold := FDeskTold.binds (ps := ["self", "word", "numbers", "row"]) fun _ _ _ _ _ _ us hl => match us, hl with | [_, _, _, _], _ => rfl
  have FRefusedInit := fun_mk (st := sRefusedInit) lRefusedInit cRefusedInit kRefusedInit
  have BRefusedInit := FRefusedInit.binds (ps := ["self", "answer"]) fun _ _ _ _ _ _ us hl => match us, hl with | [_, _], _ => rfl
  have T : Txt K mg { fTopRun := fTopRun, dTopRun := (PySem.W.fnOf "top_run" "top_run" (defArgs sTopRun) (defBody sTopRun) (defScope sTopRun) .none kVTopRun dcTopRun pmTopRun anTopRun cdTopRun ctTopRun), fGoing := fGoing, dGoing := (PySem.W.fnOf "going" "going" (defArgs sGoing) (defBody sGoing) (defScope sGoing) .none kVGoing dcGoing pmGoing anGoing cdGoing ctGoing), fPoured := fPoured, dPoured := (PySem.W.fnOf "poured" "poured" (defArgs sPoured) (defBody sPoured) (defScope sPoured) .none kVPoured dcPoured pmPoured anPoured cdPoured ctPoured), fIsSorted := fIsSorted, dIsSorted := (PySem.W.fnOf "is_sorted" "is_sorted" (defArgs sIsSorted) (defBody sIsSorted) (defScope sIsSorted) .none kVIsSorted dcIsSorted pmIsSorted anIsSorted cdIsSorted ctIsSorted), fAllPourings := fAllPourings, dAllPourings := (PySem.W.fnOf "all_pourings" "all_pourings" (defArgs sAllPourings) (defBody sAllPourings) (defScope sAllPourings) .none kVAllPourings dcAllPourings pmAllPourings anAllPourings cdAllPourings ctAllPourings), fNeed := fNeed, dNeed := (PySem.W.fnOf "need" "need" (defArgs sNeed) (defBody sNeed) (defScope sNeed) .none kVNeed dcNeed pmNeed anNeed cdNeed ctNeed), fListed := fListed, dListed := (PySem.W.fnOf "listed" "listed" (defArgs sListed) (defBody sListed) (defScope sListed) .none kVListed dcListed pmListed anListed cdListed ctListed), fBegun := fBegun, dBegun := (PySem.W.fnOf "begun" "begun" (defArgs sBegun) (defBody sBegun) (defScope sBegun) .none kVBegun dcBegun pmBegun anBegun cdBegun ctBegun), fAsked := fAsked, dAsked := (PySem.W.fnOf "asked" "asked" (defArgs sAsked) (defBody sAsked) (defScope sAsked) .none kVAsked dcAsked pmAsked anAsked cdAsked ctAsked), fAnswers := fAnswers, dAnswers := (PySem.W.fnOf "answers" "answers" (defArgs sAnswers) (defBody sAnswers) (defScope sAnswers) .none kVAnswers dcAnswers pmAnswers anAnswers cdAnswers ctAnswers), fComingInit := fComingInit, dComingInit := (PySem.W.fnOf "__init__" "Coming.__init__" (defArgs sComingInit) (defBody sComingInit) (defScope sComingInit) .none kVComingInit dcComingInit pmComingInit anComingInit cdComingInit ctComingInit), fComingTellSteps := fComingTellSteps, dComingTellSteps := (PySem.W.fnOf "tell_steps" "Coming.tell_steps" (defArgs sComingTellSteps) (defBody sComingTellSteps) (defScope sComingTellSteps) .none kVComingTellSteps dcComingTellSteps pmComingTellSteps anComingTellSteps cdComingTellSteps ctComingTellSteps), fComingLeadsTo := fComingLeadsTo, dComingLeadsTo := (PySem.W.fnOf "leads_to" "Coming.leads_to" (defArgs sComingLeadsTo) (defBody sComingLeadsTo) (defScope sComingLeadsTo) .none kVComingLeadsTo dcComingLeadsTo pmComingLeadsTo anComingLeadsTo cdComingLeadsTo ctComingLeadsTo), fComingPlan := fComingPlan, dComingPlan := (PySem.W.fnOf "plan" "Coming.plan" (defArgs sComingPlan) (defBody sComingPlan) (defScope sComingPlan) .none kVComingPlan dcComingPlan pmComingPlan anComingPlan cdComingPlan ctComingPlan), fComingFirstStep := fComingFirstStep, dComingFirstStep := (PySem.W.fnOf "first_step" "Coming.first_step" (defArgs sComingFirstStep) (defBody sComingFirstStep) (defScope sComingFirstStep) .none kVComingFirstStep dcComingFirstStep pmComingFirstStep anComingFirstStep cdComingFirstStep ctComingFirstStep), fComingCountSorted := fComingCountSorted, dComingCountSorted := (PySem.W.fnOf "count_sorted" "Coming.count_sorted" (defArgs sComingCountSorted) (defBody sComingCountSorted) (defScope sComingCountSorted) .none kVComingCountSorted dcComingCountSorted pmComingCountSorted anComingCountSorted cdComingCountSorted ctComingCountSorted), fComingCountLost := fComingCountLost, dComingCountLost := (PySem.W.fnOf "count_lost" "Coming.count_lost" (defArgs sComingCountLost) (defBody sComingCountLost) (defScope sComingCountLost) .none kVComingCountLost dcComingCountLost pmComingCountLost anComingCountLost cdComingCountLost ctComingCountLost), fKeeperInit := fKeeperInit, dKeeperInit := (PySem.W.fnOf "__init__" "Keeper.__init__" (defArgs sKeeperInit) (defBody sKeeperInit) (defScope sKeeperInit) .none kVKeeperInit dcKeeperInit pmKeeperInit anKeeperInit cdKeeperInit ctKeeperInit), fKeeperNeedTube := fKeeperNeedTube, dKeeperNeedTube := (PySem.W.fnOf "need_tube" "Keeper.need_tube" (defArgs sKeeperNeedTube) (defBody sKeeperNeedTube) (defScope sKeeperNeedTube) .none kVKeeperNeedTube dcKeeperNeedTube pmKeeperNeedTube anKeeperNeedTube cdKeeperNeedTube ctKeeperNeedTube), fKeeperDrops := fKeeperDrops, dKeeperDrops := (PySem.W.fnOf "drops" "Keeper.drops" (defArgs sKeeperDrops) (defBody sKeeperDrops) (defScope sKeeperDrops) .none kVKeeperDrops dcKeeperDrops pmKeeperDrops anKeeperDrops cdKeeperDrops ctKeeperDrops), fKeeperFill := fKeeperFill, dKeeperFill := (PySem.W.fnOf "fill" "Keeper.fill" (defArgs sKeeperFill) (defBody sKeeperFill) (defScope sKeeperFill) .none kVKeeperFill dcKeeperFill pmKeeperFill anKeeperFill cdKeeperFill ctKeeperFill), fKeeperGoes := fKeeperGoes, dKeeperGoes := (PySem.W.fnOf "goes" "Keeper.goes" (defArgs sKeeperGoes) (defBody sKeeperGoes) (defScope sKeeperGoes) .none kVKeeperGoes dcKeeperGoes pmKeeperGoes anKeeperGoes cdKeeperGoes ctKeeperGoes), fKeeperPour := fKeeperPour, dKeeperPour := (PySem.W.fnOf "pour" "Keeper.pour" (defArgs sKeeperPour) (defBody sKeeperPour) (defScope sKeeperPour) .none kVKeeperPour dcKeeperPour pmKeeperPour anKeeperPour cdKeeperPour ctKeeperPour), fKeeperMay := fKeeperMay, dKeeperMay := (PySem.W.fnOf "may" "Keeper.may" (defArgs sKeeperMay) (defBody sKeeperMay) (defScope sKeeperMay) .none kVKeeperMay dcKeeperMay pmKeeperMay anKeeperMay cdKeeperMay ctKeeperMay), fKeeperSortedTold := fKeeperSortedTold, dKeeperSortedTold := (PySem.W.fnOf "sorted_told" "Keeper.sorted_told" (defArgs sKeeperSortedTold) (defBody sKeeperSortedTold) (defScope sKeeperSortedTold) .none kVKeeperSortedTold dcKeeperSortedTold pmKeeperSortedTold anKeeperSortedTold cdKeeperSortedTold ctKeeperSortedTold), fKeeperComing := fKeeperComing, dKeeperComing := (PySem.W.fnOf "coming" "Keeper.coming" (defArgs sKeeperComing) (defBody sKeeperComing) (defScope sKeeperComing) .none kVKeeperComing dcKeeperComing pmKeeperComing anKeeperComing cdKeeperComing ctKeeperComing), fKeeperFewest := fKeeperFewest, dKeeperFewest := (PySem.W.fnOf "fewest" "Keeper.fewest" (defArgs sKeeperFewest) (defBody sKeeperFewest) (defScope sKeeperFewest) .none kVKeeperFewest dcKeeperFewest pmKeeperFewest anKeeperFewest cdKeeperFewest ctKeeperFewest), fKeeperPlanTold := fKeeperPlanTold, dKeeperPlanTold := (PySem.W.fnOf "plan_told" "Keeper.plan_told" (defArgs sKeeperPlanTold) (defBody sKeeperPlanTold) (defScope sKeeperPlanTold) .none kVKeeperPlanTold dcKeeperPlanTold pmKeeperPlanTold anKeeperPlanTold cdKeeperPlanTold ctKeeperPlanTold), fKeeperReach := fKeeperReach, dKeeperReach := (PySem.W.fnOf "reach" "Keeper.reach" (defArgs sKeeperReach) (defBody sKeeperReach) (defScope sKeeperReach) .none kVKeeperReach dcKeeperReach pmKeeperReach anKeeperReach cdKeeperReach ctKeeperReach), fKeeperLost := fKeeperLost, dKeeperLost := (PySem.W.fnOf "lost" "Keeper.lost" (defArgs sKeeperLost) (defBody sKeeperLost) (defScope sKeeperLost) .none kVKeeperLost dcKeeperLost pmKeeperLost anKeeperLost cdKeeperLost ctKeeperLost), fKeeperTube := fKeeperTube, dKeeperTube := (PySem.W.fnOf "tube" "Keeper.tube" (defArgs sKeeperTube) (defBody sKeeperTube) (defScope sKeeperTube) .none kVKeeperTube dcKeeperTube pmKeeperTube anKeeperTube cdKeeperTube ctKeeperTube), fKeeperState := fKeeperState, dKeeperState := (PySem.W.fnOf "state" "Keeper.state" (defArgs sKeeperState) (defBody sKeeperState) (defScope sKeeperState) .none kVKeeperState dcKeeperState pmKeeperState anKeeperState cdKeeperState ctKeeperState), fDeskInit := fDeskInit, dDeskInit := (PySem.W.fnOf "__init__" "Desk.__init__" (defArgs sDeskInit) (defBody sDeskInit) (defScope sDeskInit) .none kVDeskInit dcDeskInit pmDeskInit anDeskInit cdDeskInit ctDeskInit), fDeskCall := fDeskCall, dDeskCall := (PySem.W.fnOf "call" "Desk.call" (defArgs sDeskCall) (defBody sDeskCall) (defScope sDeskCall) .none kVDeskCall dcDeskCall pmDeskCall anDeskCall cdDeskCall ctDeskCall), fDeskTold := fDeskTold, dDeskTold := (PySem.W.fnOf "told" "Desk.told" (defArgs sDeskTold) (defBody sDeskTold) (defScope sDeskTold) .none kVDeskTold dcDeskTold pmDeskTold anDeskTold cdDeskTold ctDeskTold), fRefusedInit := fRefusedInit, dRefusedInit := (PySem.W.fnOf "__init__" "Refused.__init__" (defArgs sRefusedInit) (defBody sRefusedInit) (defScope sRefusedInit) .none kVRefusedInit dcRefusedInit pmRefusedInit anRefusedInit cdRefusedInit ctRefusedInit), cComing := cComing, cKeeper := cKeeper, cDesk := cDesk, cRefused := cRefused, cTooMany := cTooMany, numbers := nA } :=
    { bLen := PySem.W.mg_none_of X G bLen,
      bMin := PySem.W.mg_none_of X G bMin,
      bList := PySem.W.mg_none_of X G bList,
      bTuple := PySem.W.mg_none_of X G bTuple,
      bSet := PySem.W.mg_none_of X G bSet,
      bRange := PySem.W.mg_none_of X G bRange,
      bInt := PySem.W.mg_none_of X G bInt,
      bSum := PySem.W.mg_none_of X G bSum,
      vMostRacks := ⟨_, PySem.W.mg_of X G vMostRacks⟩,
      vNotSo := ⟨_, PySem.W.mg_of X G vNotSo⟩,
      vAbsent := ⟨_, PySem.W.mg_of X G vAbsent⟩,
      vSpoilt := ⟨_, PySem.W.mg_of X G vSpoilt⟩,
      vCannot := ⟨_, PySem.W.mg_of X G vCannot⟩,
      vTooMany := ⟨_, PySem.W.mg_of X G vTooMany⟩,
      vMostRoom := ⟨_, PySem.W.mg_of X G vMostRoom⟩,
      vLeastTubes := ⟨_, PySem.W.mg_of X G vLeastTubes⟩,
      vMostTubes := ⟨_, PySem.W.mg_of X G vMostTubes⟩,
      vMostColour := ⟨_, PySem.W.mg_of X G vMostColour⟩,
      vBegins := ⟨_, PySem.W.mg_of X G vBegins⟩,
      vFill := ⟨_, PySem.W.mg_of X G vFill⟩,
      vNumbers := PySem.W.mg_of X G aNumbers,
      numbers := ⟨_, _, _, lNumbers, rfl, rfl, zNumbers, vNumbers⟩,
      oTopRun := ⟨FTopRun, PySem.W.mg_of X G aTopRun, BTopRun⟩,
      oGoing := ⟨FGoing, PySem.W.mg_of X G aGoing, BGoing⟩,
      oPoured := ⟨FPoured, PySem.W.mg_of X G aPoured, BPoured⟩,
      oIsSorted := ⟨FIsSorted, PySem.W.mg_of X G aIsSorted, BIsSorted⟩,
      oAllPourings := ⟨FAllPourings, PySem.W.mg_of X G aAllPourings, BAllPourings⟩,
      oNeed := ⟨FNeed, PySem.W.mg_of X G aNeed, BNeed⟩,
      oListed := ⟨FListed, PySem.W.mg_of X G aListed, BListed⟩,
      oBegun := ⟨FBegun, PySem.W.mg_of X G aBegun, BBegun⟩,
      oAsked := ⟨FAsked, PySem.W.mg_of X G aAsked, BAsked⟩,
      oAnswers := ⟨FAnswers, PySem.W.mg_of X G aAnswers, BAnswers⟩,
      oComingInit := ⟨FComingInit, ⟨mkComing, aComingInit, iComingInit, kcComing⟩, BComingInit⟩,
      oComingTellSteps := ⟨FComingTellSteps, ⟨aComingTellSteps, iComingTellSteps, kComingTellSteps⟩, BComingTellSteps⟩,
      oComingLeadsTo := ⟨FComingLeadsTo, ⟨aComingLeadsTo, iComingLeadsTo, kComingLeadsTo⟩, BComingLeadsTo⟩,
      oComingPlan := ⟨FComingPlan, ⟨aComingPlan, iComingPlan, kComingPlan⟩, BComingPlan⟩,
      oComingFirstStep := ⟨FComingFirstStep, ⟨aComingFirstStep, iComingFirstStep, kComingFirstStep⟩, BComingFirstStep⟩,
      oComingCountSorted := ⟨FComingCountSorted, ⟨aComingCountSorted, iComingCountSorted, kComingCountSorted⟩, BComingCountSorted⟩,
      oComingCountLost := ⟨FComingCountLost, ⟨aComingCountLost, iComingCountLost, kComingCountLost⟩, BComingCountLost⟩,
      oKeeperInit := ⟨FKeeperInit, ⟨mkKeeper, aKeeperInit, iKeeperInit, kcKeeper⟩, BKeeperInit⟩,
      oKeeperNeedTube := ⟨FKeeperNeedTube, ⟨aKeeperNeedTube, iKeeperNeedTube, kKeeperNeedTube⟩, BKeeperNeedTube⟩,
      oKeeperDrops := ⟨FKeeperDrops, ⟨aKeeperDrops, iKeeperDrops, kKeeperDrops⟩, BKeeperDrops⟩,
      oKeeperFill := ⟨FKeeperFill, ⟨aKeeperFill, iKeeperFill, kKeeperFill⟩, BKeeperFill⟩,
      oKeeperGoes := ⟨FKeeperGoes, ⟨aKeeperGoes, iKeeperGoes, kKeeperGoes⟩, BKeeperGoes⟩,
      oKeeperPour := ⟨FKeeperPour, ⟨aKeeperPour, iKeeperPour, kKeeperPour⟩, BKeeperPour⟩,
      oKeeperMay := ⟨FKeeperMay, ⟨aKeeperMay, iKeeperMay, kKeeperMay⟩, BKeeperMay⟩,
      oKeeperSortedTold := ⟨FKeeperSortedTold, ⟨aKeeperSortedTold, iKeeperSortedTold, kKeeperSortedTold⟩, BKeeperSortedTold⟩,
      oKeeperComing := ⟨FKeeperComing, ⟨aKeeperComing, iKeeperComing, kKeeperComing⟩, BKeeperComing⟩,
      oKeeperFewest := ⟨FKeeperFewest, ⟨aKeeperFewest, iKeeperFewest, kKeeperFewest⟩, BKeeperFewest⟩,
      oKeeperPlanTold := ⟨FKeeperPlanTold, ⟨aKeeperPlanTold, iKeeperPlanTold, kKeeperPlanTold⟩, BKeeperPlanTold⟩,
      oKeeperReach := ⟨FKeeperReach, ⟨aKeeperReach, iKeeperReach, kKeeperReach⟩, BKeeperReach⟩,
      oKeeperLost := ⟨FKeeperLost, ⟨aKeeperLost, iKeeperLost, kKeeperLost⟩, BKeeperLost⟩,
      oKeeperTube := ⟨FKeeperTube, ⟨aKeeperTube, iKeeperTube, kKeeperTube⟩, BKeeperTube⟩,
      oKeeperState := ⟨FKeeperState, ⟨aKeeperState, iKeeperState, kKeeperState⟩, BKeeperState⟩,
      oDeskInit := ⟨FDeskInit, ⟨mkDesk, aDeskInit, iDeskInit, kcDesk⟩, BDeskInit⟩,
      oDeskCall := ⟨FDeskCall, ⟨aDeskCall, iDeskCall, kDeskCall⟩, BDeskCall⟩,
      oDeskTold := ⟨FDeskTold, ⟨aDeskTold, iDeskTold, kDeskTold⟩, BDeskTold⟩,
      gComing := PySem.W.mg_of X G aComing,
      clComing := ⟨pgComing, hdComing, poComing, saComing⟩,
      nComingPourings := nComingPourings,
      nComingRacks := nComingRacks,
      nComingSteps := nComingSteps,
      gKeeper := PySem.W.mg_of X G aKeeper,
      clKeeper := ⟨pgKeeper, hdKeeper, poKeeper, saKeeper⟩,
      nKeeperRoom := nKeeperRoom,
      nKeeperRack := nKeeperRack,
      nKeeperCount := nKeeperCount,
      gDesk := PySem.W.mg_of X G aDesk,
      clDesk := ⟨pgDesk, hdDesk, poDesk, saDesk⟩,
      nDeskKeeper := nDeskKeeper,
      gRefused := PySem.W.mg_of X G aRefused,
      oexRefused := ⟨⟨_, _, _, _, _, _, _, _, _, _, _, _, _, _, _, xlRefused, by decide +kernel⟩, saRefused, exRefused, tyRefused, kcRefused⟩,
      xfRefused := ⟨gaRefused, ggRefused, exRefused, hdRefused⟩,
      naRefused := naRefused,
      iRefused := aRefusedInit,
      tRefused := iRefusedInit,
      eRefused := exm_self exRefused icRefused tyRefused ssRefused,
      oRefusedInit := FRefusedInit,
      bRefusedInit := BRefusedInit,
      gTooMany := PySem.W.mg_of X G aTooMany,
      xTooMany := xTooMany,
      kTooMany := kcTooMany,
      bTooMany := exTooMany,
      tTooMany := tyTooMany,
      eTooMany := exm_self exTooMany icTooMany tyTooMany ssTooMany }
  exact ⟨(PySem.W.fnOf "answers" "answers" (defArgs sAnswers) (defBody sAnswers) (defScope sAnswers) .none kVAnswers dcAnswers pmAnswers anAnswers cdAnswers ctAnswers), fun s us hu => match us, hu with | [_], _ => .of_eq rfl, fun base _ _ => ok_Answers T⟩
end Td
open PySem PySem.W PyProof.Rows
set_option maxRecDepth 100000 in
set_option maxHeartbeats 8000000 in
theorem PySem.Challenge.cw_tubedrops_s01_answers_holds : PySem.Challenge.rw_tubedrops_s01_answers.Holds := by
  w_on; k_headS; (case hw => exact ⟨[.list [.int 4]], by decide +kernel, by decide +kernel⟩)
  k_fillS
  refine L2.walk_specK (r := PySem.Challenge.rw_tubedrops_s01_answers) (k := 12) (CX := L2.CX0) (ps := ["calls"]) (sp := Td.spAnswers) (by decide +kernel) rfl rfl ⟨rfl, by decide, by decide⟩ (fun w h Y => PySem.W.kIn_of Y) ?F ?S (fun _ _ _ _ z => z)
  case F =>
    intro w mg fa h Y KX G hmg
    refine' Td.all_mk KX G hmg ?aComing ?aKeeper ?aDesk ?aRefused ?aTooMany ?aNumbers ?lNumbers ?vNumbers ?zNumbers ?bLen ?bMin ?bList ?bTuple ?bSet ?bRange ?bInt ?bSum ?vMostRacks ?vNotSo ?vAbsent ?vSpoilt ?vCannot ?vTooMany ?vMostRoom ?vLeastTubes ?vMostTubes ?vMostColour ?vBegins ?vFill ?aTopRun ?lTopRun ?cTopRun ?kTopRun ?aGoing ?lGoing ?cGoing ?kGoing ?aPoured ?lPoured ?cPoured ?kPoured ?aIsSorted ?lIsSorted ?cIsSorted ?kIsSorted ?aAllPourings ?lAllPourings ?cAllPourings ?kAllPourings ?aNeed ?lNeed ?cNeed ?kNeed ?aListed ?lListed ?cListed ?kListed ?aBegun ?lBegun ?cBegun ?kBegun ?aAsked ?lAsked ?cAsked ?kAsked ?aAnswers ?lAnswers ?cAnswers ?kAnswers ?aComingInit ?iComingInit ?lComingInit ?cComingInit ?kComingInit ?aComingTellSteps ?iComingTellSteps ?lComingTellSteps ?cComingTellSteps ?kComingTellSteps ?aComingLeadsTo ?iComingLeadsTo ?lComingLeadsTo ?cComingLeadsTo ?kComingLeadsTo ?aComingPlan ?iComingPlan ?lComingPlan ?cComingPlan ?kComingPlan ?aComingFirstStep ?iComingFirstStep ?lComingFirstStep ?cComingFirstStep ?kComingFirstStep ?aComingCountSorted ?iComingCountSorted ?lComingCountSorted ?cComingCountSorted ?kComingCountSorted ?aComingCountLost ?iComingCountLost ?lComingCountLost ?cComingCountLost ?kComingCountLost ?aKeeperInit ?iKeeperInit ?lKeeperInit ?cKeeperInit ?kKeeperInit ?aKeeperNeedTube ?iKeeperNeedTube ?lKeeperNeedTube ?cKeeperNeedTube ?kKeeperNeedTube ?aKeeperDrops ?iKeeperDrops ?lKeeperDrops ?cKeeperDrops ?kKeeperDrops ?aKeeperFill ?iKeeperFill ?lKeeperFill ?cKeeperFill ?kKeeperFill ?aKeeperGoes ?iKeeperGoes ?lKeeperGoes ?cKeeperGoes ?kKeeperGoes ?aKeeperPour ?iKeeperPour ?lKeeperPour ?cKeeperPour ?kKeeperPour ?aKeeperMay ?iKeeperMay ?lKeeperMay ?cKeeperMay ?kKeeperMay ?aKeeperSortedTold ?iKeeperSortedTold ?lKeeperSortedTold ?cKeeperSortedTold ?kKeeperSortedTold ?aKeeperComing ?iKeeperComing ?lKeeperComing ?cKeeperComing ?kKeeperComing ?aKeeperFewest ?iKeeperFewest ?lKeeperFewest ?cKeeperFewest ?kKeeperFewest ?aKeeperPlanTold ?iKeeperPlanTold ?lKeeperPlanTold ?cKeeperPlanTold ?kKeeperPlanTold ?aKeeperReach ?iKeeperReach ?lKeeperReach ?cKeeperReach ?kKeeperReach ?aKeeperLost ?iKeeperLost ?lKeeperLost ?cKeeperLost ?kKeeperLost ?aKeeperTube ?iKeeperTube ?lKeeperTube ?cKeeperTube ?kKeeperTube ?aKeeperState ?iKeeperState ?lKeeperState ?cKeeperState ?kKeeperState ?aDeskInit ?iDeskInit ?lDeskInit ?cDeskInit ?kDeskInit ?aDeskCall ?iDeskCall ?lDeskCall ?cDeskCall ?kDeskCall ?aDeskTold ?iDeskTold ?lDeskTold ?cDeskTold ?kDeskTold ?aRefusedInit ?iRefusedInit ?lRefusedInit ?cRefusedInit ?kRefusedInit ?pgComing ?hdComing ?poComing ?saComing ?mkComing ?kcComing ?nComingPourings ?nComingRacks ?nComingSteps ?pgKeeper ?hdKeeper ?poKeeper ?saKeeper ?mkKeeper ?kcKeeper ?nKeeperRoom ?nKeeperRack ?nKeeperCount ?pgDesk ?hdDesk ?poDesk ?saDesk ?mkDesk ?kcDesk ?nDeskKeeper ?xlRefused ?saRefused ?gaRefused ?ggRefused ?naRefused ?hdRefused ?kcRefused ?exRefused ?tyRefused ?icRefused ?ssRefused ?kcTooMany ?exTooMany ?tyTooMany ?icTooMany ?ssTooMany ?xTooMany
    (case aComing => k_is)
    (case aKeeper => k_is)
    (case aDesk => k_is)
    (case aRefused => k_is)
    (case aTooMany => k_is)
    (case aNumbers => k_is)
    (case lNumbers => k_is)
    (case vNumbers => exact .cons ⟨_, rfl⟩ (.cons ⟨_, rfl⟩ (.cons ⟨_, rfl⟩ (.cons ⟨_, rfl⟩ (.cons ⟨_, rfl⟩ (.cons ⟨_, rfl⟩ (.cons ⟨_, rfl⟩ (.cons ⟨_, rfl⟩ (.cons ⟨_, rfl⟩ (.cons ⟨_, rfl⟩ (.cons ⟨_, rfl⟩ (.nil))))))))))))
    (case zNumbers => show 11 ≤ sizeLine; decide)
    (case bLen => k_is)
    (case bMin => k_is)
    (case bList => k_is)
    (case bTuple => k_is)
    (case bSet => k_is)
    (case bRange => k_is)
    (case bInt => k_is)
    (case bSum => k_is)
    (case vMostRacks => k_is)
    (case vNotSo => k_is)
    (case vAbsent => k_is)
    (case vSpoilt => k_is)
    (case vCannot => k_is)
    (case vTooMany => k_is)
    (case vMostRoom => k_is)
    (case vLeastTubes => k_is)
    (case vMostTubes => k_is)
    (case vMostColour => k_is)
    (case vBegins => k_is)
    (case vFill => k_is)
    (case aTopRun => k_is)
    (case lTopRun => k_is)
    (case cTopRun => k_is)
    (case kTopRun => k_is)
    (case aGoing => k_is)
    (case lGoing => k_is)
    (case cGoing => k_is)
    (case kGoing => k_is)
    (case aPoured => k_is)
    (case lPoured => k_is)
    (case cPoured => k_is)
    (case kPoured => k_is)
    (case aIsSorted => k_is)
    (case lIsSorted => k_is)
    (case cIsSorted => k_is)
    (case kIsSorted => k_is)
    (case aAllPourings => k_is)
    (case lAllPourings => k_is)
    (case cAllPourings => k_is)
    (case kAllPourings => k_is)
    (case aNeed => k_is)
    (case lNeed => k_is)
    (case cNeed => k_is)
    (case kNeed => k_is)
    (case aListed => k_is)
    (case lListed => k_is)
    (case cListed => k_is)
    (case kListed => k_is)
    (case aBegun => k_is)
    (case lBegun => k_is)
    (case cBegun => k_is)
    (case kBegun => k_is)
    (case aAsked => k_is)
    (case lAsked => k_is)
    (case cAsked => k_is)
    (case kAsked => k_is)
    (case aAnswers => k_is)
    (case lAnswers => k_is)
    (case cAnswers => k_is)
    (case kAnswers => k_is)
    (case aComingInit => k_is)
    (case iComingInit => k_is)
    (case lComingInit => k_is)
    (case cComingInit => k_is)
    (case kComingInit => k_is)
    (case aComingTellSteps => k_is)
    (case iComingTellSteps => k_is)
    (case lComingTellSteps => k_is)
    (case cComingTellSteps => k_is)
    (case kComingTellSteps => k_is)
    (case aComingLeadsTo => k_is)
    (case iComingLeadsTo => k_is)
    (case lComingLeadsTo => k_is)
    (case cComingLeadsTo => k_is)
    (case kComingLeadsTo => k_is)
    (case aComingPlan => k_is)
    (case iComingPlan => k_is)
    (case lComingPlan => k_is)
    (case cComingPlan => k_is)
    (case kComingPlan => k_is)
    (case aComingFirstStep => k_is)
    (case iComingFirstStep => k_is)
    (case lComingFirstStep => k_is)
    (case cComingFirstStep => k_is)
    (case kComingFirstStep => k_is)
    (case aComingCountSorted => k_is)
    (case iComingCountSorted => k_is)
    (case lComingCountSorted => k_is)
    (case cComingCountSorted => k_is)
    (case kComingCountSorted => k_is)
    (case aComingCountLost => k_is)
    (case iComingCountLost => k_is)
    (case lComingCountLost => k_is)
    (case cComingCountLost => k_is)
    (case kComingCountLost => k_is)
    (case aKeeperInit => k_is)
    (case iKeeperInit => k_is)
    (case lKeeperInit => k_is)
    (case cKeeperInit => k_is)
    (case kKeeperInit => k_is)
    (case aKeeperNeedTube => k_is)
    (case iKeeperNeedTube => k_is)
    (case lKeeperNeedTube => k_is)
    (case cKeeperNeedTube => k_is)
    (case kKeeperNeedTube => k_is)
    (case aKeeperDrops => k_is)
    (case iKeeperDrops => k_is)
    (case lKeeperDrops => k_is)
    (case cKeeperDrops => k_is)
    (case kKeeperDrops => k_is)
    (case aKeeperFill => k_is)
    (case iKeeperFill => k_is)
    (case lKeeperFill => k_is)
    (case cKeeperFill => k_is)
    (case kKeeperFill => k_is)
    (case aKeeperGoes => k_is)
    (case iKeeperGoes => k_is)
    (case lKeeperGoes => k_is)
    (case cKeeperGoes => k_is)
    (case kKeeperGoes => k_is)
    (case aKeeperPour => k_is)
    (case iKeeperPour => k_is)
    (case lKeeperPour => k_is)
    (case cKeeperPour => k_is)
    (case kKeeperPour => k_is)
    (case aKeeperMay => k_is)
    (case iKeeperMay => k_is)
    (case lKeeperMay => k_is)
    (case cKeeperMay => k_is)
    (case kKeeperMay => k_is)
    (case aKeeperSortedTold => k_is)
    (case iKeeperSortedTold => k_is)
    (case lKeeperSortedTold => k_is)
    (case cKeeperSortedTold => k_is)
    (case kKeeperSortedTold => k_is)
    (case aKeeperComing => k_is)
    (case iKeeperComing => k_is)
    (case lKeeperComing => k_is)
    (case cKeeperComing => k_is)
    (case kKeeperComing => k_is)
    (case aKeeperFewest => k_is)
    (case iKeeperFewest => k_is)
    (case lKeeperFewest => k_is)
    (case cKeeperFewest => k_is)
    (case kKeeperFewest => k_is)
    (case aKeeperPlanTold => k_is)
    (case iKeeperPlanTold => k_is)
    (case lKeeperPlanTold => k_is)
    (case cKeeperPlanTold => k_is)
    (case kKeeperPlanTold => k_is)
    (case aKeeperReach => k_is)
    (case iKeeperReach => k_is)
    (case lKeeperReach => k_is)
    (case cKeeperReach => k_is)
    (case kKeeperReach => k_is)
    (case aKeeperLost => k_is)
    (case iKeeperLost => k_is)
    (case lKeeperLost => k_is)
    (case cKeeperLost => k_is)
    (case kKeeperLost => k_is)
    (case aKeeperTube => k_is)
    (case iKeeperTube => k_is)
    (case lKeeperTube => k_is)
    (case cKeeperTube => k_is)
    (case kKeeperTube => k_is)
    (case aKeeperState => k_is)
    (case iKeeperState => k_is)
    (case lKeeperState => k_is)
    (case cKeeperState => k_is)
    (case kKeeperState => k_is)
    (case aDeskInit => k_is)
    (case iDeskInit => k_is)
    (case lDeskInit => k_is)
    (case cDeskInit => k_is)
    (case kDeskInit => k_is)
    (case aDeskCall => k_is)
    (case iDeskCall => k_is)
    (case lDeskCall => k_is)
    (case cDeskCall => k_is)
    (case kDeskCall => k_is)
    (case aDeskTold => k_is)
    (case iDeskTold => k_is)
    (case lDeskTold => k_is)
    (case cDeskTold => k_is)
    (case kDeskTold => k_is)
    (case aRefusedInit => k_is)
    (case iRefusedInit => k_is)
    (case lRefusedInit => k_is)
    (case cRefusedInit => k_is)
    (case kRefusedInit => k_is)
    (case pgComing => k_is)
    (case hdComing => k_is)
    (case poComing => k_is)
    (case saComing => k_is)
    (case mkComing => k_is)
    (case kcComing => k_is)
    (case nComingPourings => k_is)
    (case nComingRacks => k_is)
    (case nComingSteps => k_is)
    (case pgKeeper => k_is)
    (case hdKeeper => k_is)
    (case poKeeper => k_is)
    (case saKeeper => k_is)
    (case mkKeeper => k_is)
    (case kcKeeper => k_is)
    (case nKeeperRoom => k_is)
    (case nKeeperRack => k_is)
    (case nKeeperCount => k_is)
    (case pgDesk => k_is)
    (case hdDesk => k_is)
    (case poDesk => k_is)
    (case saDesk => k_is)
    (case mkDesk => k_is)
    (case kcDesk => k_is)
    (case nDeskKeeper => k_is)
    (case xlRefused => k_is)
    (case saRefused => k_is)
    (case gaRefused => k_is)
    (case ggRefused => k_is)
    (case naRefused => k_is)
    (case hdRefused => k_is)
    (case kcRefused => k_is)
    (case exRefused => k_is)
    (case tyRefused => k_is)
    (case icRefused => k_is)
    (case ssRefused => first | rfl | k_is)
    (case kcTooMany => k_is)
    (case exTooMany => k_is)
    (case tyTooMany => k_is)
    (case icTooMany => k_is)
    (case ssTooMany => first | rfl | k_is)
    (case xTooMany => k_exc)
  case S =>
    intro K H xs a hO hwi hask hx
    cases hx with
    | cons h1 h2 =>
      cases h2
      cases h1 with
      | lst hs ha =>
        have e := L2.ints_dw a.1 _ ha
        subst e
        obtain ⟨ts, t1, t2, t3, t4⟩ := Td.answers_of (l := a.1) hask
        exact ⟨_, a.1, ts, rfl, hs, t1, t2, t4, fun H' p hp => .lst (L2.SqL.of hp) (by rw [t3]; exact L2.dw_ints _)⟩
#print axioms PySem.Challenge.cw_tubedrops_s01_answers_holds

