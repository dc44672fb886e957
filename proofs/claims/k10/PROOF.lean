import PyProof.Rows.All
import Wide.All
import OpenK.AllK
import Wide.FinOn
import HandS.ForMost
import PyProof.TupleKey
import HandS.TupAny
import HandS.Deep
import HandS.IsInst
import HandS.Wide
import HandS.ForExc
import HandS.Style
import KE.DatumOrd
import HandS.Conv
import HandS.ClsMeth
import PySem.Challenge.RW_tilelaw_k10_plane_by_sizes
set_option Elab.async false
set_option linter.all false
set_option maxRecDepth 100000
/-! ND1: keys that are pairs of a flat key and a tuple of flat keys. -/
namespace DM
open PySem PyProof.Rows
open Sem (wp)
section
variable {prog : Program} {w : World} {K : Type} [DecidableEq K] (knd : KeyKind prog w K)
def IsPairKey (h : Heap) (k : K × List K) (a : Addr) : Prop := ∃ o v c n, h.get? a = some o ∧ o.cls = .type "tuple" ∧ o.data = .seq #[v, .ref c] n ∧ knd.is k.1 v = true ∧ IsTupleKey knd h k.2 c
variable {knd}
theorem IsPairKey.typeIs {s : Shared} {k : K × List K} {a : Addr} (x : IsPairKey knd s.heap k a) : s.TypeIs (.ref a) "tuple" := let ⟨o, _, _, _, ho, hc, _⟩ := x; ⟨o, ho, hc⟩
theorem IsPairKey.inj {h : Heap} {a : Addr} {x y : K × List K} (hx : IsPairKey knd h x a) (hy : IsPairKey knd h y a) : x = y := by
  obtain ⟨o, v, c, n, ho, _, hd, hv, hc⟩ := hx
  obtain ⟨o', v', c', n', ho', _, hd', hv', hc'⟩ := hy
  obtain rfl : o = o' := Option.some.inj (ho.symm.trans ho')
  rw [hd] at hd'
  injection hd' with h1 _
  have e : [v, Value.ref c] = [v', Value.ref c'] := congrArg Array.toList h1
  simp at e
  obtain ⟨rfl, rfl⟩ := e
  exact Prod.ext (knd.inj _ _ _ hv hv') (hc.inj hc')
theorem IsPairKey.keeps {h h' : Heap} {k : K × List K} {a d : Addr} {o : Obj} {es ep} (x : IsPairKey knd h k a) (ho : h.get? d = some o) (hd : o.data = .dict es ep) (hs : Heap.SameBut d h h') : IsPairKey knd h' k a := by
  obtain ⟨o', v, c, n, ho', hc, hd', hv, hk⟩ := x
  have hne : a ≠ d := by
    rintro rfl
    obtain rfl : o' = o := Option.some.inj (ho'.symm.trans ho)
    rw [hd] at hd'; exact nomatch hd'
  exact ⟨o', v, c, n, (hs.2 a hne).trans ho', hc, hd', hv, hk.keeps ho hd hs⟩
def pairKeyHash (knd : KeyKind prog w K) (k : K × List K) : Int := reduceHash (Builtin.Tuple.tupleHashOf [knd.hash k.1, tupleKeyHash knd k.2])
variable {A : Around} {E : Value → Shared → Prop} {s : Shared}
theorem wpAny_pyHash_pair {k : K × List K} {a : Addr} {Q : Int → Shared → Prop} (hu : A.units + 2 < cLine) (hk : IsPairKey knd s.heap k a) (h : Q (pairKeyHash knd k) { s with toks := s.toks + (k.2.length + 3) }) :
    wpAny (model prog w) A (pyHash (.ref a)) Q E s := by
  have hT := hk.typeIs
  obtain ⟨o, v, c, n, ho, _, hd, hv, hc⟩ := hk
  unfold pyHash
  first | unfold pyHashByItsType | skip
  first | refine wpAny_bind (wpAny_cRoomFor_or (.inr (by omega)) ?_) | skip
  refine wpAny_bind (wpAny_specialOf hT F.slot_tuple_hash.lookup ?_)
  show wpAny _ _ (if (some (Value.builtin "tuple.__hash__") == some Value.none) = true then _ else _) Q E s
  rw [if_neg (by rw [beq_builtin_none]; exact Bool.false_ne_true)]
  refine wpAny_bind (wpAny_specialOf hT F.slot_tuple_hash.lookup ?_)
  show wpAny _ _ (callSpecialIfBoundUnlessNone? (.ref a) "__hash__" _ >>= _) Q E s
  refine wpAny_bind (wpAny_callSpecialIfBoundUnlessNone?_slot hT F.slot_tuple_hash (wpAny_call_entry F.slot_tuple_hash hT F.entry_tuple_hash ?_ (F.args_tuple_hash_1 _)))
  show wpAny _ _ (Builtin.Tuple.tupleItemsOf (.ref a) >>= _) _ _ s
  refine wpAny_bind (wpAny_tupleItemsOf ho hd ?_)
  refine wpAny_bind ?_
  rw [← Array.forIn_toList]
  refine wpAny_forIn_list _
    (fun rest (b : Array Int) s' => (rest = [v, .ref c] ∧ b = #[] ∧ s' = s) ∨ (rest = [.ref c] ∧ b.toList = [knd.hash k.1] ∧ s' = { s with toks := s.toks + 1 }) ∨ (rest = [] ∧ b.toList = [knd.hash k.1, tupleKeyHash knd k.2] ∧ s' = { s with toks := s.toks + (k.2.length + 2) }))
    _ ?_ ?_ _ _ (.inl ⟨rfl, rfl, rfl⟩)
  · rintro x rest b s' (⟨e, rfl, rfl⟩ | ⟨e, hb, rfl⟩ | ⟨e, _⟩)
    · injection e with e1 e2
      subst e1 e2
      refine wpAny_bind (knd.pyHash hv ?_)
      first
        | exact wpAny_pure (.inr (.inl ⟨rfl, by simp, rfl⟩))
        | exact wpAny_bind (wpAny_pure (wpAny_pure (.inr (.inl ⟨rfl, by simp, rfl⟩))))
    · injection e with e1 e2
      subst e1 e2
      refine wpAny_bind (wpAny_pyHash_tuple (knd := knd) (ks := k.2) ?_ hc ?_)
      · show A.units + 1 < cLine
        omega
      · first
          | exact wpAny_pure (.inr (.inr ⟨rfl, by simp [hb], by simp; omega⟩))
          | exact wpAny_bind (wpAny_pure (wpAny_pure (.inr (.inr ⟨rfl, by simp [hb], by simp; omega⟩))))
    · cases e
  · rintro b s' (⟨e, _⟩ | ⟨e, _⟩ | ⟨_, hb, rfl⟩)
    · cases e
    · cases e
    · show wpAny _ _ (retInt (Builtin.Tuple.tupleHashOf b.toList)) _ _ _
      rw [hb]
      refine wpAny_ret_mkInt ?_
      show wpAny _ _ (if (decide (-(2 : Int) ^ 63 ≤ Builtin.Tuple.tupleHashOf [knd.hash k.1, tupleKeyHash knd k.2]) && decide (Builtin.Tuple.tupleHashOf [knd.hash k.1, tupleKeyHash knd k.2] < 2 ^ 63)) = true then _ else _) Q E _
      unfold pairKeyHash reduceHash at h
      by_cases hr : (decide (-(2 : Int) ^ 63 ≤ Builtin.Tuple.tupleHashOf [knd.hash k.1, tupleKeyHash knd k.2]) && decide (Builtin.Tuple.tupleHashOf [knd.hash k.1, tupleKeyHash knd k.2] < 2 ^ 63)) = true
      · rw [if_pos hr]
        rw [if_pos hr] at h
        exact wpAny_pure (by simpa [Nat.add_assoc] using h)
      · rw [if_neg hr]
        rw [if_neg hr] at h
        exact wpAny_bind (wpAny_rule (wpAny_pure (by simpa [Nat.add_assoc] using h)))
theorem pair_eq_tree {x y : K × List K} {a b : Addr} {P : Fin → Shared → Prop} (hu : A.units < cLine) (hx : IsPairKey knd s.heap x a) (hy : IsPairKey knd s.heap y b) (h : P (.done (.ret (.bool (decide (x = y))))) s) :
    wpAny (model prog w) A (Builtin.«tuple.__eq__» ⟨[.ref a, .ref b], []⟩) P E s := by
  have hTb := hy.typeIs
  obtain ⟨oa, va, ca, na, hoa, _, hda, hva, hca⟩ := hx
  obtain ⟨ob, vb, cb, nb, hob, _, hdb, hvb, hcb⟩ := hy
  show wpAny _ _ (isInstance (.ref b) (.type "tuple") >>= _) _ _ s
  refine wpAny_bind (wpAny_isInstance hTb isSubtype_tuple_tuple ?_)
  simp only [Bool.not_true, Bool.false_eq_true, if_false]
  refine wpAny_bind (wpAny_tupleItemsOf hoa hda ?_)
  refine wpAny_bind (wpAny_tupleItemsOf hob hdb ?_)
  refine wpAny_bind ?_
  refine wpAny_forIn_list _
    (fun rest r s' => r.1 = none ∧ s' = s ∧ ((rest = [(va, vb), (.ref ca, .ref cb)]) ∨ (rest = [(.ref ca, .ref cb)] ∧ x.1 = y.1) ∨ (rest = [] ∧ x.1 = y.1 ∧ x.2 = y.2)))
    _ ?_ ?_ _ _ ⟨rfl, rfl, .inl rfl⟩
  · rintro ⟨u, v⟩ rest r s' ⟨hr, rfl, (e | ⟨e, h1⟩ | ⟨e, _⟩)⟩
    · injection e with e1 e2
      injection e1 with e1 e3
      subst e1 e2 e3
      refine wpAny_bind (knd.eqBool (a := x.1) (b := y.1) hva hvb ?_)
      by_cases hk : x.1 = y.1
      · rw [decide_eq_true hk]
        simp only [Bool.not_true, Bool.false_eq_true, if_false]
        exact wpAny_pure ⟨rfl, rfl, .inr (.inl ⟨by first | rfl | trivial, hk⟩)⟩
      · rw [decide_eq_false hk]
        simp only [Bool.not_false, if_true]
        have hf : decide (x = y) = false := decide_eq_false fun e => hk (by rw [e])
        rw [hf] at h
        exact wpAny_bind (wpAny_pure (wpAny_pure (wpAny_pure h)))
    · injection e with e1 e2
      injection e1 with e1 e3
      subst e1 e2 e3
      refine wpAny_bind (wpAny_eqBool_tuple (knd := knd) (x := x.2) (y := y.2) (by show A.units < cLine; exact hu) hca hcb ?_)
      by_cases hk : x.2 = y.2
      · rw [decide_eq_true hk]
        simp only [Bool.not_true, Bool.false_eq_true, if_false]
        exact wpAny_pure ⟨rfl, rfl, .inr (.inr ⟨by first | rfl | trivial, h1, hk⟩)⟩
      · rw [decide_eq_false hk]
        simp only [Bool.not_false, if_true]
        have hf : decide (x = y) = false := decide_eq_false fun e => hk (by rw [e])
        rw [hf] at h
        exact wpAny_bind (wpAny_pure (wpAny_pure (wpAny_pure h)))
    · cases e
  · rintro ⟨r1, r2⟩ s' ⟨hr, rfl, (e | ⟨e, h1⟩ | ⟨_, h1, h2⟩)⟩
    · cases e
    · cases e
    · simp only at hr
      subst hr
      refine wpAny_pure ?_
      have hf : decide (x = y) = true := decide_eq_true (Prod.ext h1 h2)
      rw [hf] at h
      exact h
theorem wpAny_eqBool_pair {x y : K × List K} {a b : Addr} {Q : Bool → Shared → Prop} (hu : A.units + 2 < cLine) (hx : IsPairKey knd s.heap x a) (hy : IsPairKey knd s.heap y b) (h : Q (decide (x = y)) s) :
    wpAny (model prog w) A (eqBool (.ref a) (.ref b)) Q E s := by
  unfold eqBool
  try with_reducible refine wpAny_holding ?_
  show wpAny _ _ (if (Value.ref a == Value.ref b) = true then _ else _) Q E s
  by_cases hab : (Value.ref a == Value.ref b) = true
  · rw [if_pos hab]
    have e : a = b := by have := eq_of_beq hab; injection this
    subst e
    obtain rfl := hx.inj hy
    exact wpAny_bind (wpAny_rule (wpAny_pure (by simpa using h)))
  · rw [if_neg hab]
    refine wpAny_bind (wpAny_richCompare_same_room (op := .Eq) hx.typeIs hy.typeIs F.slot_tuple_eq
      (wpAny_call_entry F.slot_tuple_eq hx.typeIs F.entry_tuple_eq (pair_eq_tree ?_ hx hy ⟨_, rfl, (fun e => nomatch e), wpAny_truthy_bool h⟩) (F.args_tuple_eq_2 _ _)) (by omega))
    first | (show A.units + 1 < cLine; omega) | (show A.units + 2 < cLine; omega) | (show A.units < cLine; omega)
theorem quiet_tuple7 {m : Nat} {ks : List K} {a : Addr} {Q : Bool → Shared → Prop} (hk : IsTupleKey knd s.heap ks a) (h : Q true s) : wpAny (model prog w) A (eqIsQuiet (m + 1) (.ref a)) Q E s := by
  have hT := hk.typeIs
  obtain ⟨o, items, n, ho, _, hd, hi⟩ := hk
  unfold eqIsQuiet
  refine wpAny_bind (wpAny_specialOf hT F.slot_tuple_eq.lookup ?_)
  show wpAny _ _ (isInstance (.ref a) (.type "tuple") >>= _) _ _ s
  refine wpAny_bind (wpAny_isInstance hT isSubtype_tuple_tuple ?_)
  simp only [Bool.not_true, Bool.false_eq_true, if_false]
  refine wpAny_bind (wpAny_seqItems ho hd ?_)
  refine wpAny_bind ?_
  show wpAny _ _ (forIn items _ _) _ _ s
  rw [← Array.forIn_toList]
  refine wpAny_forIn_list _ (fun rest r s' => r.1 = none ∧ s' = s ∧ ∀ v ∈ rest, carriedByValue v = true) _ ?_ ?_ _ _ ⟨rfl, rfl, hi.byValue⟩
  · rintro v rest r s' ⟨hr, rfl, hall⟩
    rw [eqIsQuiet_byValue _ (hall v List.mem_cons_self)]
    refine wpAny_bind (wpAny_pure ?_)
    simp only [Bool.not_true, Bool.false_eq_true, if_false]
    exact wpAny_pure ⟨rfl, rfl, fun u hu' => hall u (List.mem_cons_of_mem _ hu')⟩
  · rintro ⟨r1, r2⟩ s' ⟨hr, rfl, _⟩
    simp only at hr
    subst hr
    exact wpAny_pure h
theorem quiet_pair {k : K × List K} {a : Addr} {Q : Bool → Shared → Prop} (hk : IsPairKey knd s.heap k a) (h : Q true s) : wpAny (model prog w) A (eqIsQuiet 8 (.ref a)) Q E s := by
  have hT := hk.typeIs
  obtain ⟨o, v, c, n, ho, _, hd, hv, hc⟩ := hk
  unfold eqIsQuiet
  refine wpAny_bind (wpAny_specialOf hT F.slot_tuple_eq.lookup ?_)
  show wpAny _ _ (isInstance (.ref a) (.type "tuple") >>= _) _ _ s
  refine wpAny_bind (wpAny_isInstance hT isSubtype_tuple_tuple ?_)
  simp only [Bool.not_true, Bool.false_eq_true, if_false]
  refine wpAny_bind (wpAny_seqItems ho hd ?_)
  refine wpAny_bind ?_
  show wpAny _ _ (forIn (#[v, .ref c] : Array Value) _ _) _ _ s
  rw [← Array.forIn_toList]
  refine wpAny_forIn_list _ (fun rest r s' => r.1 = none ∧ s' = s ∧ ((rest = [v, .ref c]) ∨ (rest = [.ref c]) ∨ rest = [])) _ ?_ ?_ _ _ ⟨rfl, rfl, .inl rfl⟩
  · rintro u rest r s' ⟨hr, rfl, (e | e | e)⟩
    · injection e with e1 e2
      subst e1 e2
      rw [eqIsQuiet_byValue _ (knd.byValue _ _ hv)]
      refine wpAny_bind (wpAny_pure ?_)
      simp only [Bool.not_true, Bool.false_eq_true, if_false]
      exact wpAny_pure ⟨rfl, rfl, .inr (.inl (by first | rfl | trivial))⟩
    · injection e with e1 e2
      subst e1 e2
      refine wpAny_bind (quiet_tuple7 (knd := knd) (m := 6) hc ?_)
      simp only [Bool.not_true, Bool.false_eq_true, if_false]
      exact wpAny_pure ⟨rfl, rfl, .inr (.inr (by first | rfl | trivial))⟩
    · cases e
  · rintro ⟨r1, r2⟩ s' ⟨hr, rfl, _⟩
    simp only at hr
    subst hr
    exact wpAny_pure h
end
def pairKind {prog : Program} {w : World} {K : Type} [DecidableEq K] (knd : KeyKind prog w K) : HeapKind prog w (K × List K) where
  is := IsPairKey knd
  hash := pairKeyHash knd
  draws := fun k => k.2.length + 3
  room := fun A => A.units + 2 < cLine
  inj := fun hx hy => hx.inj hy
  keeps := fun x ho hd hs => x.keeps ho hd hs
  pyHash := fun hu hk h => wpAny_pyHash_pair hu hk h
  eqBool := fun hu hx hy h => wpAny_eqBool_pair hu hx hy h
  quiet := fun hk h => quiet_pair hk h
end DM

set_option maxRecDepth 100000
/-! ND2: dicts of any kind of heap keys, as objects known by what is true of them. -/
namespace DM
open PySem PySem.Spec PyProof.Rows L2
section
variable {K' : Type} [DecidableEq K']
abbrev RelN : List (K' × Addr × V) → List (K' × Addr × Value) → Prop := Paired fun p q => p.1 = q.1 ∧ p.2.1 = q.2.1 ∧ RelV p.2.2 q.2.2
def gdP {P : Program} {w : World} (kd : HeapKind P w K') (a : Addr) (xs : List (K' × Addr × V)) (h : Heap) : Prop :=
  xs.length ≤ sizeLine ∧ (a == sysModules) = false ∧ ∃ ys, RelN xs ys ∧ ∃ o es ep, h.get? a = some o ∧ o.ExactDict ∧ o.data = .dict es ep ∧ es.toList = ys.map (entryOfKey kd) ∧ (ys.map (·.1)).Nodup
def gdO {P : Program} {w : World} (kd : HeapKind P w K') (a : Addr) (xs : List (K' × Addr × V)) : HO := .ext (gdP kd a xs)
def valN (xs : List (K' × Addr × V)) (k : K') : Option V := (xs.find? fun x => decide (x.1 = k)).map (·.2.2)
def putX (xs : List (K' × Addr × V)) (k : K') (b : Addr) (v : V) : List (K' × Addr × V) := if (valN xs k).isSome then xs.map (fun x => if x.1 = k then (x.1, x.2.1, v) else x) else xs ++ [(k, b, v)]
theorem RelN.val {xs : List (K' × Addr × V)} {ys : List (K' × Addr × Value)} (r : RelN xs ys) (k : K') : RelO (valN xs k) ((atKey ys k).map (·.2)) := by
  induction r with
  | nil => exact True.intro
  | @cons p q ps qs h t ih =>
    unfold valN atKey at ih ⊢
    by_cases e : q.1 = k
    · have e' : p.1 = k := h.1.trans e
      simp only [List.find?_cons, e, e', decide_true, Option.map_some]
      exact h.2.2
    · have e' : ¬ p.1 = k := fun z => e (h.1.symm.trans z)
      simp only [List.find?_cons, e, e', decide_false]
      exact ih
theorem RelN.put {xs : List (K' × Addr × V)} {ys : List (K' × Addr × Value)} (r : RelN xs ys) (k : K') {b : Addr} {y : V} {u : Value} (ry : RelV y u) : RelN (putX xs k b y) (storedH ys k b u) := by
  unfold putX storedH
  have q := (r.val k).isSome_eq
  rw [Option.isSome_map] at q
  rw [← q]
  by_cases h : (valN xs k).isSome = true
  · rw [if_pos h, if_pos h]
    clear q h
    induction r with
    | nil => exact .nil
    | @cons p q ps qs h t ih =>
      rw [List.map_cons, List.map_cons]
      refine .cons ?_ ih
      unfold putAt
      by_cases e : q.1 = k
      · rw [if_pos e, if_pos (h.1.trans e)]
        exact ⟨h.1, h.2.1, ry⟩
      · rw [if_neg e, if_neg fun z => e (h.1.symm.trans z)]
        exact h
  · rw [if_neg h, if_neg h]
    exact Paired.snoc r ⟨rfl, rfl, ry⟩
theorem RelN.addrs {xs : List (K' × Addr × V)} {ys : List (K' × Addr × Value)} (r : RelN xs ys) : ∀ y ∈ ys, ∃ x ∈ xs, x.1 = y.1 ∧ x.2.1 = y.2.1 := by
  induction r with
  | nil => intro y hy; cases hy
  | @cons p q ps qs h t ih =>
    intro y hy
    rcases List.mem_cons.mp hy with rfl | hy
    · exact ⟨p, List.mem_cons_self, h.1, h.2.1⟩
    · obtain ⟨x, hx, e⟩ := ih y hy
      exact ⟨x, List.mem_cons_of_mem _ hx, e⟩
theorem putX_len (xs : List (K' × Addr × V)) (k : K') (b : Addr) (v : V) : (putX xs k b v).length ≤ xs.length + 1 := by
  unfold putX; split <;> simp
variable {X : Cx} {kd : HeapKind X.prog X.w K'} {pins : List (Addr × Obj)} {σ : L2.St} {H : Hp} {s : Shared} {a b : Addr} {xs : List (K' × Addr × V)} {k : K'} {A : Around} {E : Value → Shared → Prop}
/-- a key, whatever the heap is in full -/
def KeyIn (X : Cx) (kd : HeapKind X.prog X.w K') (H : Hp) (k : K') (b : Addr) : Prop := ∀ (pins : List (Addr × Obj)) (σ : L2.St) (s : Shared), Inv X pins σ H s → kd.is s.heap k b
theorem gd_at (I : Inv X pins σ H s) (e : H a = some (gdO kd a xs)) : gdP kd a xs s.heap := by
  have x : ObjOk X.prog X.w H s.heap a (.ext (gdP kd a xs)) := I.hok a _ e
  exact x.1
theorem gd_ok {H' : Hp} {h : Heap} (x : gdP kd a xs h) : ObjOk X.prog X.w H' h a (gdO kd a xs) := by
  obtain ⟨z, hd, ys, r, o, es, ep, h1, h2, h3, h4, h5⟩ := x
  refine ⟨⟨z, hd, ys, r, o, es, ep, h1, h2, h3, h4, h5⟩, ⟨o, h1⟩, fun g1 g2 y q => ?_⟩
  obtain ⟨z, hd, ys, r, o, es, ep, h1, h2, h3, h4, h5⟩ := y
  exact ⟨z, hd, ys, r, o, es, ep, q _ h1, h2, h3, h4, h5⟩
theorem gd_of (I : Inv X pins σ H s) (e : H a = some (gdO kd a xs)) (hk : ∀ x ∈ xs, KeyIn X kd H x.1 x.2.1) : xs.length ≤ sizeLine ∧ (a == sysModules) = false ∧ ∃ ys, RelN xs ys ∧ s.heap.DictOfH kd a ys := by
  obtain ⟨z, hd, ys, r, o, es, ep, h1, h2, h3, h4, h5⟩ := gd_at I e
  refine ⟨z, hd, ys, r, o, es, ep, h1, h2, h3, h4, fun y hy => ?_, h5⟩
  obtain ⟨x, hx, e1, e2⟩ := r.addrs y hy
  rw [← e1, ← e2]
  exact hk x hx _ _ _ I
theorem gd_in {Q : Value → Shared → Prop} (hu : kd.room A.in1) (I : Inv X pins σ H s) (e : H a = some (gdO kd a xs)) (hk : ∀ x ∈ xs, KeyIn X kd H x.1 x.2.1) (ky : KeyIn X kd H k b) (h : ∀ s', Inv X pins σ H s' → Q (.bool (valN xs k).isSome) s') :
    wpAny (model X.prog X.w) A (compareOp .In (.ref b) (.ref a)) Q E s := by
  obtain ⟨z, hd, ys, r, dd⟩ := gd_of I e hk
  refine wpAny_in_heap hu (ky _ _ _ I) hd dd ?_
  have q := (r.val k).isSome_eq
  rw [Option.isSome_map] at q
  rw [← q]
  exact h _ (I.tok _)
theorem gd_notIn {Q : Value → Shared → Prop} (hu : kd.room A.in1) (I : Inv X pins σ H s) (e : H a = some (gdO kd a xs)) (hk : ∀ x ∈ xs, KeyIn X kd H x.1 x.2.1) (ky : KeyIn X kd H k b) (h : ∀ s', Inv X pins σ H s' → Q (.bool (!(valN xs k).isSome)) s') :
    wpAny (model X.prog X.w) A (compareOp .NotIn (.ref b) (.ref a)) Q E s := by
  obtain ⟨z, hd, ys, r, dd⟩ := gd_of I e hk
  refine wpAny_notIn_heap hu (ky _ _ _ I) hd dd ?_
  have q := (r.val k).isSome_eq
  rw [Option.isSome_map] at q
  rw [← q]
  exact h _ (I.tok _)
theorem gd_getItem {v : V} {Q : Value → Shared → Prop} (hu : kd.room A.in1) (I : Inv X pins σ H s) (e : H a = some (gdO kd a xs)) (hk : ∀ x ∈ xs, KeyIn X kd H x.1 x.2.1) (ky : KeyIn X kd H k b) (l : valN xs k = some v) (h : ∀ w' s', Inv X pins σ H s' → RelV v w' → Q w' s') :
    wpAny (model X.prog X.w) A (getItem (.ref a) (.ref b)) Q E s := by
  obtain ⟨z, hd, ys, r, dd⟩ := gd_of I e hk
  obtain ⟨w', hw, rw'⟩ := RelO.some_of (v := v) (o := (atKey ys k).map (·.2)) (by rw [← l]; exact r.val k)
  obtain ⟨p, hp, hp2⟩ := Option.map_eq_some_iff.mp hw
  refine wpAny_getItem_heap hu (ky _ _ _ I) dd hp ?_
  rw [hp2]
  exact h w' _ (I.tok _) rw'
theorem gd_setItem {v : V} {u : Value} {Q : Unit → Shared → Prop} (hu : kd.room A.in1) (I : Inv X pins σ H s) (e : H a = some (gdO kd a xs)) (hk : ∀ x ∈ xs, KeyIn X kd H x.1 x.2.1) (ky : KeyIn X kd H k b) (hl : xs.length < sizeLine) (rv : RelV v u)
    (h : ∀ s', Inv X pins σ (upd H a (gdO kd a (putX xs k b v))) s' → Q () s') : wpAny (model X.prog X.w) A (setItem (.ref a) (.ref b) u) Q E s := by
  obtain ⟨z, hd, ys, r, dd⟩ := gd_of I e hk
  have hz : ys.length ≤ sizeLine := by rw [← Paired.length r]; exact z
  have hl2 : (putX xs k b v).length ≤ sizeLine := by have := putX_len xs k b v; omega
  refine wpAny_setItem_heap (hsz := hz) hu (ky _ _ _ I) dd fun h' dd' hs => h _ ?_
  obtain ⟨q, es, ep, hq, h2, h3, h4, _, h5⟩ := dd'
  exact d_write I (by rw [e]; exact True.intro) hs ⟨q, hq⟩ (gd_ok ⟨hl2, hd, _, r.put k rv, q, es, ep, hq, h2, h3, h4, h5⟩)
theorem gd_new (I : Inv X pins σ H s) : Inv X pins σ (upd H s.heap.objs.size (gdO kd s.heap.objs.size [])) { s with heap := s.heap.push { cls := .type "dict", data := .dict #[] }, toks := s.toks } :=
  I.laid (a := s.heap.objs.size) (t' := s.toks) (fun _ _ q => Heap.get?_push_of_some _ q) (Nat.le_refl _) (gd_ok ⟨Nat.zero_le _, beq_eq_false_iff_ne.mpr (Ne.symm (Nat.ne_of_lt I.big)), [], .nil, _, #[], 0, Heap.get?_push_size _ rfl, ⟨rfl, rfl, rfl⟩, rfl, rfl, List.nodup_nil⟩)
theorem gd_typeIs (I : Inv X pins σ H s) (e : H a = some (gdO kd a xs)) : s.TypeIs (.ref a) "dict" := by
  obtain ⟨_, _, _, _, o, _, _, h1, h2, _⟩ := gd_at I e
  exact ⟨o, h1, h2.1⟩
theorem gd_noDict (I : Inv X pins σ H s) (e : H a = some (gdO kd a xs)) : ∀ b, Value.ref a = .ref b → ∃ ob, s.heap.get? b = some ob ∧ ob.dict = none := fun b q => by
  cases q
  obtain ⟨_, _, _, _, ob, _, _, h1, h2, _⟩ := gd_at I e
  exact ⟨ob, h1, h2.2.1⟩
/-! ### rules -/
variable {o i value e : Expr} {pos pos' apos cpos : Pos} {td ty tv tx : TE}
/-- at a dict and a key -/
def GdAt (X : Cx) (kd : HeapKind X.prog X.w K') (x y : V) (H : Hp) (R : Addr → List (K' × Addr × V) → K' → Addr → Prop) : Prop := ∃ a b xs k, x = .ref a ∧ y = .ref b ∧ H a = some (gdO kd a xs) ∧ (∀ x ∈ xs, KeyIn X kd H x.1 x.2.1) ∧ KeyIn X kd H k b ∧ R a xs k b
theorem pe_gnew : PE X (.Dict [] [] pos) (fun _ H Q => ∀ p, H p = none → Q (.ref p) (upd H p (gdO kd p []))) := ⟨fun pins s σ H Q I h =>
  wpAny_Dict_empty ⟨.ref s.heap.objs.size, _, gd_new (kd := kd) I, rfl, h _ (I.hok.fresh (Nat.le_refl _))⟩⟩
theorem pe_gget (hu : kd.room X.A.in1) (ho : PE X o td) (hi : PE X i ty) (hs : NoSl i) : PE X (.Subscript o i pos) (fun σ H Q => td σ H fun x H1 => ty σ H1 fun y H2 => GdAt X kd x y H2 fun a xs k b => ∃ v, valN xs k = some v ∧ Q v H2) := by
  refine ⟨fun pins s σ H Q I h => ?_⟩
  refine subD_of PySem.F.slot_dict_getitem.lookup hs (thn (ho.run pins s σ H _ I h) fun u s1 ⟨x, H1, I1, rx, q1⟩ => thn (hi.run pins s1 σ H1 _ I1 q1) fun iv s2 ⟨y, H2, I2, ry, a, b, xs, k, ex, ey, g, hk, ky, v, l, q2⟩ => ?_)
  subst ex ey
  obtain rfl : u = Value.ref a := rx
  obtain rfl : iv = Value.ref b := ry
  exact ⟨gd_typeIs I2 g, gd_getItem hu I2 g hk ky l fun w' s3 I3 rw' => ⟨v, H2, I3, rw', q2⟩⟩
theorem pc_gin (hu : kd.room X.A.in1) (hi : PE X i ty) (ho : PE X o td) : PC X .In i o (fun σ H Q => ty σ H fun y H1 => td σ H1 fun x H2 => GdAt X kd x y H2 fun a xs k b => Q (.bl (valN xs k).isSome) H2) := by
  refine ⟨fun pins s σ H Q I h => ?_⟩
  refine thn (hi.run pins s σ H _ I h) fun iv s1 ⟨y, H1, I1, ry, q1⟩ => thn (ho.run pins s1 σ H1 _ I1 q1) fun u s2 ⟨x, H2, I2, rx, a, b, xs, k, ex, ey, g, hk, ky, q2⟩ => ?_
  subst ex ey
  obtain rfl : u = Value.ref a := rx
  obtain rfl : iv = Value.ref b := ry
  exact gd_in hu I2 g hk ky fun s3 I3 => ⟨.bl (valN xs k).isSome, H2, I3, rfl, q2⟩
theorem pc_gnotin (hu : kd.room X.A.in1) (hi : PE X i ty) (ho : PE X o td) : PC X .NotIn i o (fun σ H Q => ty σ H fun y H1 => td σ H1 fun x H2 => GdAt X kd x y H2 fun a xs k b => Q (.bl (!(valN xs k).isSome)) H2) := by
  refine ⟨fun pins s σ H Q I h => ?_⟩
  refine thn (hi.run pins s σ H _ I h) fun iv s1 ⟨y, H1, I1, ry, q1⟩ => thn (ho.run pins s1 σ H1 _ I1 q1) fun u s2 ⟨x, H2, I2, rx, a, b, xs, k, ex, ey, g, hk, ky, q2⟩ => ?_
  subst ex ey
  obtain rfl : u = Value.ref a := rx
  obtain rfl : iv = Value.ref b := ry
  exact gd_notIn hu I2 g hk ky fun s3 I3 => ⟨.bl (!(valN xs k).isSome), H2, I3, rfl, q2⟩
theorem ps_gput (hu : kd.room X.A.in1) (ho : PE X o td) (hi : PE X i ty) (hv : PE X value tv) (hs : swapsWith value (some (.Subscript o i pos')) pos.line X.env = pure false) :
    PS X (.Assign [.Subscript o i pos'] value pos) (fun D σ H => tv σ H fun v H1 => td σ H1 fun x H2 => ty σ H2 fun y H3 => GdAt X kd x y H3 fun a xs k b => xs.length < sizeLine ∧ D.nx σ (upd H3 a (gdO kd a (putX xs k b v)))) := by
  refine ⟨fun pins s σ H D I h => ?_⟩
  refine wpAny_Assign_Subscript (thn (hv.run pins s σ H _ I h) fun r s1 ⟨v, H1, I1, rv, q1⟩ => thn (ho.run pins s1 σ H1 _ I1 q1) fun u s2 ⟨x, H2, I2, rx, q2⟩ => thn (hi.run pins s2 σ H2 _ I2 q2) fun iv s3 ⟨y, H3, I3, ry, a, b, xs, k, ex, ey, g, hk, ky, hl, q3⟩ => ?_) hs
  subst ex ey
  obtain rfl : u = Value.ref a := rx
  obtain rfl : iv = Value.ref b := ry
  exact gd_setItem hu I3 g hk ky hl rv fun s4 I4 => ⟨σ, _, I4, q3⟩
end
/-! ### d.get(k, x) -/
section
variable {K' : Type} [DecidableEq K'] {X : Cx} {kd : HeapKind X.prog X.w K'} {pins : List (Addr × Obj)} {σ : L2.St} {H : Hp} {s : Shared} {a b : Addr} {xs : List (K' × Addr × V)} {k : K'} {A : Around} {E : Value → Shared → Prop}
theorem gd_get2 {d : V} {r : Value} {Q : Value → Shared → Prop} (hu : kd.room A.in1) (I : Inv X pins σ H s) (e : H a = some (gdO kd a xs)) (hk : ∀ x ∈ xs, KeyIn X kd H x.1 x.2.1) (ky : KeyIn X kd H k b) (rd : RelV d r) (h : ∀ w' s', Inv X pins σ H s' → RelV ((valN xs k).getD d) w' → Q w' s') :
    wpAny (model X.prog X.w) A (call (.builtin "dict.get") [.ref a, .ref b, r]) Q E s := by
  obtain ⟨z, hd, ys, rel, dd⟩ := gd_of I e hk
  exact call_meetsIn PySem.F.slot_dict_get dd.typeIs PySem.F.entry_dict_get (PySem.F.args_dict_get_3 _ _ _) (meetsH_dict_get_default kd a b hd r) ⟨hu, k, ys, ky _ _ _ I, dd, h _ _ (I.tok _) ((rel.val k).getD rd)⟩
variable {o e f : Expr} {apos cpos : Pos} {td ty tx : TE}
theorem pe_gget2 (hu : kd.room X.A.in1) (ho : PE X o td) (he : PE X e ty) (hf : PE X f tx) (m : M2 X o "get" apos e f cpos) : PE X (.Call (.Attribute o "get" apos) [e, f] [] cpos)
    (fun σ H Q => td σ H fun x H1 => (∃ a xs, x = .ref a ∧ H1 a = some (gdO kd a xs)) ∧ ty σ H1 fun y H2 => tx σ H2 fun z H3 => GdAt X kd x y H3 fun a xs k b => Q ((valN xs k).getD z) H3) := by
  refine ⟨fun pins s σ H Q I h => ?_⟩
  refine wpAny_Call_method m.base m.few m.line PySem.F.plainAttrs_dict PySem.F.slot_dict_get PySem.F.type_dict_get (thn (ho.run pins s σ H _ I h) fun u s1 ⟨x, H1, I1, rx, ⟨a, xs, ex, ea⟩, q1⟩ => ?_)
  subst ex
  obtain rfl : u = Value.ref a := rx
  refine ⟨gd_typeIs I1 ea, gd_noDict I1 ea, ?_⟩
  rw [m.trees]
  refine Calls.callWith_builtin rfl (Calls.evalArgs_plain (Calls.spliced_cons (thn (he.run pins s1 σ H1 _ I1 q1) fun iv s2 ⟨y, H2, I2, ry, q2⟩ =>
    Calls.spliced_cons (thn (hf.run pins s2 σ H2 _ I2 q2) fun fv s3 ⟨z, H3, I3, rz, a', b, xs', k, ex', ey, g, hk, ky, q3⟩ => Calls.spliced_nil ?_))))
  cases ex'
  subst ey
  obtain rfl : iv = Value.ref b := ry
  exact gd_get2 hu I3 g hk ky rz fun w' s4 I4 rw' => ⟨_, H3, I4, rw', q3⟩
end
/-! ### keys -/
section
variable {X : Cx} {pins : List (Addr × Obj)} {σ : L2.St} {H : Hp} {s : Shared} {a b c : Addr}
theorem tup_key (I : Inv X pins σ H s) {ks : List Key} (h : SqT X.K H b (ks.map kV)) : (tupleKind (mixKind X.prog X.w)).is s.heap ks b := by
  obtain ⟨its, r, ⟨o, h1, h2, n, h3⟩, _⟩ := I.tuple h
  exact ⟨o, its.toArray, n, h1, h2, h3, by simpa using items_are r⟩
theorem keyIn_tup {ks : List Key} (h : SqT X.K H b (ks.map kV)) : KeyIn X (tupleKind (mixKind X.prog X.w)) H ks b := fun _ _ _ I => tup_key I h
theorem keyIn_pair {k : Key} {ks : List Key} (h : SqT X.K H b [kV k, .ref c]) (h2 : SqT X.K H c (ks.map kV)) : KeyIn X (pairKind (mixKind X.prog X.w)) H (k, ks) b := fun _ _ s I => by
  obtain ⟨its, r, ⟨o, e1, e2, n, e3⟩, _⟩ := I.tuple h
  cases r with
  | cons r1 r =>
    cases r with
    | cons r2 r =>
      cases r
      rename_i v u
      obtain rfl : u = Value.ref c := r2
      exact ⟨o, v, c, n, e1, e2, e3, kV_is r1, tup_key I h2⟩
theorem room_tup (hu : X.A.units + 64 < cLine) : (tupleKind (mixKind X.prog X.w)).room X.A.in1 := tupleKind_room_in1 (by omega)
theorem room_pair (hu : X.A.units + 64 < cLine) : (pairKind (mixKind X.prog X.w)).room X.A.in1 := by
  show X.A.units + 1 + 2 < cLine
  omega
end
end DM

/-! DM1: the D-machine: a small functional language for the Python that the program and the laws use, and its interpreter over plain data. -/
namespace DM
open PySem

/-- a value of the machine: data; a cell of the store; a frozen instance; a frozen dict -/
inductive W where
  | d (x : PyData)
  | h (i : Nat)
  | o (c : Nat) (fs : List (Nat × PyData))
  | dc (kvs : List (PyData × PyData))
/-- what may be changed -/
inductive Cell where
  | lst (l : List PyData)
  | dct (nd : Bool) (kvs : List (PyData × PyData))
  | ins (c : Nat) (fs : List (Nat × W))
  | fzl (l : List PyData)
  | gone
/-- an exception of a class of the program: the class, its fields -/
structure Xc where
  c : Nat
  fs : List (Nat × PyData)
/-! dict keys: tuples of ints and texts; pairs of such a thing and such a tuple -/
def flatK : PyData → Option L2.Key
  | .int i => some (.inl i)
  | .str x => some (.inr x)
  | _ => none
def flatKs : List PyData → Option (List L2.Key)
  | [] => some []
  | x :: xs => match flatK x, flatKs xs with
    | some k, some ks => some (k :: ks)
    | _, _ => none
def fkO : PyData → Option (List L2.Key)
  | .tuple l => flatKs l
  | _ => none
def pkO : PyData → Option (L2.Key × List L2.Key)
  | .tuple [i, .tuple l] => match flatK i, flatKs l with
    | some k, some ks => some (k, ks)
    | _, _ => none
  | _ => none
def dFind {κ : Type} [DecidableEq κ] (ko : PyData → Option κ) (kvs : List (PyData × PyData)) (k : κ) : Option PyData := (kvs.find? fun q => decide (ko q.1 = some k)).map (·.2)
def dPutK {κ : Type} [DecidableEq κ] (ko : PyData → Option κ) (kvs : List (PyData × PyData)) (k : κ) (key v : PyData) : List (PyData × PyData) :=
  if (dFind ko kvs k).isSome then kvs.map (fun q => if ko q.1 = some k then (q.1, v) else q) else kvs ++ [(key, v)]
def dGet (nd : Bool) (kvs : List (PyData × PyData)) (key : PyData) : Option (Option PyData) := if nd then (pkO key).map (dFind pkO kvs) else (fkO key).map (dFind fkO kvs)
def dPut (nd : Bool) (kvs : List (PyData × PyData)) (key v : PyData) : Option (List (PyData × PyData)) := if nd then (pkO key).map fun k => dPutK pkO kvs k key v else (fkO key).map fun k => dPutK fkO kvs k key v
abbrev Env := List (Option W)
inductive R (β : Type) where
  | ok (a : β) (s : List Cell)
  | ex (x : Xc) (s : List Cell)
  | no
def R.bind {β γ : Type} (r : R β) (k : β → List Cell → R γ) : R γ := match r with
  | .ok a s => k a s
  | .ex x s => .ex x s
  | .no => .no
@[simp] theorem R.bind_ok {β γ : Type} (a : β) (s : List Cell) (k : β → List Cell → R γ) : (R.ok a s).bind k = k a s := rfl
@[simp] theorem R.bind_ex {β γ : Type} (x : Xc) (s : List Cell) (k : β → List Cell → R γ) : (R.ex x s : R β).bind k = .ex x s := rfl
@[simp] theorem R.bind_no {β γ : Type} (k : β → List Cell → R γ) : (R.no : R β).bind k = .no := rfl
/-- what a def hands back: a value; a new list; what it raises -/
inductive Ro where
  | ret (w : W)
  | fresh (l : List PyData)
  | ex (x : Xc)
/-- a value, or a new list -/
inductive Rv where
  | w (x : W)
  | l (xs : List PyData)
/-- what a def is worth (n: its arguments): without a look at the store; or upon the store -/
inductive Fs where
  | p (n : Nat) (g : List W → Option Ro)
  | m (n : Nat) (f : List W → List Cell → R Rv)
/-- what a class's call is worth (n: its arguments): a frozen instance; or a new cell -/
inductive Ms where
  | p (n : Nat) (g : List W → Option (Except Xc (List (Nat × PyData))))
  | m (n : Nat) (f : List W → List Cell → R Rv)
structure Phi where
  fn : Nat → Option Fs
  mt : Nat → Nat → Option Fs
  cl : Nat → Option Ms
  cm : Nat → Nat → Option Fs
  has : Nat → Nat → Bool

inductive BinK where | add | sub | mul | fdiv | mod | pow
  deriving DecidableEq
inductive CmpK where | eq | ne | lt | le | gt | ge | isN | notN | in_ | notIn
  deriving DecidableEq
/-- built-in functions whose answer is data -/
inductive BiK where | len | int | max2 | min2 | sum | maxl
  deriving DecidableEq
/-- built-in types that are asked for -/
inductive TyK where | str | int | bool | tuple | list | dict
  deriving DecidableEq

inductive Tg where
  | n (i : Nat)
  | t (is : List Nat)
  deriving DecidableEq
mutual
inductive E where
  | var (i : Nat)
  | cst (x : PyData)
  | bin (op : BinK) (a b : E)
  | cmp (op : CmpK) (a b : E)
  | chain (op op' : CmpK) (a b c : E)
  | and (a b : E)
  | or (a b : E)
  | not (a : E)
  | ite (c a b : E)
  | tup (es : Es)
  | idx (a i : E)
  | slc (a : E) (lo hi : Oe)
  | neg (a : E)
  | fld (a : E) (f : Nat)
  | call (f : Nat) (es : Es)
  | meth (o : E) (m : Nat) (es : Es)
  | mk (c : Nat) (es : Es)
  | bi (b : BiK) (es : Es)
  | tupOf (e : E)
  | isi (t : TyK) (e : E)
  | app (o e : E)
  | pop (o : E)
  | clr (o : E)
  | dnew (nd : Bool)
  | din (neg : Bool) (a b : E)
  | dget (a k : E)
  | dgetD (a k z : E)
  | cls (c m : Nat) (es : Es)
  | thc (f : Nat) (es : Es)
  | thm (o : E) (m : Nat) (es : Es)
  | fr (f : F)
  | th (f : F)
  | no
inductive F where
  | lst (es : Es)
  | comp (it : It) (tg : Tg) (own : List Nat) (c : Oe) (e : E)
  | call (f : Nat) (es : Es)
  | meth (o : E) (m : Nat) (es : Es)
  | list (e : E)
  | lrng (e : E)
  | sll (a : E) (lo hi : Oe)
  | add (a b : E)
  | mul (a : F) (b : E)
inductive Es where
  | nil
  | cons (e : E) (es : Es)
inductive Oe where
  | none
  | some (e : E)
inductive It where
  | seq (e : E)
  | rng1 (a : E)
  | rng2 (a b : E)
end
inductive S where
  | asg (t : Tg) (e : E)
  | par (is : List Nat) (es : Es)
  | setF (o : E) (f : Nat) (e : E)
  | setI (o i e : E)
  | setD (o k e : E)
  | ex (e : E)
  | ret (e : E)
  | retN
  | ite (c : E) (a b : List S)
  | while (c : E) (b : List S)
  | for (t : Tg) (it : It) (b : List S)
  | pass
  | brk
  | ct
  | no

/-! ### the store -/
def see (s : List Cell) : W → Option PyData
  | .d x => some x
  | .h i => match s[i]? with
    | some (.lst l) => some (.list l)
    | some (.fzl l) => some (.list l)
    | _ => none
  | _ => none
/-- the list of a live cell is frozen -/
def frz (s : List Cell) : W → Option (PyData × List Cell)
  | .d x => some (x, s)
  | .h i => match s[i]? with
    | some (.lst l) => some (.list l, s.set i (.fzl l))
    | some (.fzl l) => some (.list l, s)
    | _ => none
  | _ => none
def frzAll (s : List Cell) : List W → Option (List PyData × List Cell)
  | [] => some ([], s)
  | w :: ws => match frz s w with
    | none => none
    | some (x, s) => match frzAll s ws with
      | none => none
      | some (xs, s) => some (x :: xs, s)
/-- a cell's view as an argument of a def that looks at no store; whether it is a live one -/
def view (s : List Cell) : W → Option (W × Bool)
  | .d x => some (.d x, false)
  | .o c fs => some (.o c fs, false)
  | .dc kvs => some (.dc kvs, false)
  | .h i => match s[i]? with
    | some (.lst l) => some (.d (.list l), true)
    | some (.fzl l) => some (.d (.list l), false)
    | _ => none
def viewAll (s : List Cell) : List W → Option (List W × Bool)
  | [] => some ([], false)
  | w :: ws => match view s w, viewAll s ws with
    | some (x, b), some (xs, c) => some (x :: xs, b || c)
    | _, _ => none
def flat : W → Bool
  | .d .none => true
  | .d (.bool _) => true
  | .d (.int _) => true
  | .d (.str _) => true
  | _ => false
/-- fields -/
def putN {β : Type} (f : Nat) (v : β) : List (Nat × β) → List (Nat × β)
  | [] => [(f, v)]
  | p :: r => if p.1 = f then (f, v) :: r else p :: putN f v r
def getN {β : Type} (f : Nat) : List (Nat × β) → Option β
  | [] => none
  | p :: r => if f = p.1 then some p.2 else getN f r

/-! ### operators over data -/
def ixD (n : Nat) (i : Int) : Option Nat := if 0 ≤ i then (if i < n then some i.toNat else none) else if -(n : Int) ≤ i then some (i + n).toNat else none
def atD (l : List PyData) (i : Int) : Option PyData := (ixD l.length i).bind fun j => l[j]?
def mulOk (i j : Int) : Bool := (decide (-(2 ^ 64) < i) && decide (i < 2 ^ 64)) || (decide (-(2 ^ 64) < j) && decide (j < 2 ^ 64))
def divOk (j : Int) : Bool := decide (0 < j) && decide (j < 9223372036854775808)
def powOk (i j : Int) : Bool := decide (0 ≤ j) && decide (j ≤ 1000000) && decide (i.natAbs < 2 ^ 64)
def binD : BinK → PyData → PyData → Option PyData
  | .add, .int i, .int j => some (.int (i + j))
  | .add, .tuple a, .tuple b => if a.length + b.length ≤ sizeLine then some (.tuple (a ++ b)) else none
  | .add, .list a, .list b => if a.length + b.length ≤ sizeLine then some (.list (a ++ b)) else none
  | .sub, .int i, .int j => some (.int (i - j))
  | .mul, .int i, .int j => if mulOk i j then some (.int (i * j)) else none
  | .fdiv, .int i, .int j => if divOk j then some (.int (i / j)) else none
  | .mod, .int i, .int j => if decide (0 < j) then some (.int (i % j)) else none
  | .pow, .int i, .int j => if powOk i j then some (.int (i ^ j.toNat)) else none
  | _, _, _ => none
def okD (x : PyData) : Bool := SeqAt.shaped x
def isNone : PyData → Bool
  | .none => true
  | _ => false
def intsOf : List PyData → Option (List Int)
  | [] => some []
  | .int i :: r => (intsOf r).map (i :: ·)
  | _ => none
def cmpD : CmpK → PyData → PyData → Option Bool
  | .lt, .int i, .int j => some (decide (i < j))
  | .lt, .tuple a, .tuple b => match intsOf a, intsOf b with
    | some ns, some ms => some (HT.lexLt ns ms)
    | _, _ => none
  | .le, .int i, .int j => some (decide (i ≤ j))
  | .gt, .int i, .int j => some (decide (j < i))
  | .ge, .int i, .int j => some (decide (j ≤ i))
  | .eq, .int i, .int j => some (decide (i = j))
  | .ne, .int i, .int j => some (!decide (i = j))
  | .eq, a, b => if okD a && okD b then some (a.eqv b) else none
  | .ne, a, b => if okD a && okD b then some (!a.eqv b) else none
  | .isN, a, .none => some (isNone a)
  | .notN, a, .none => some (!isNone a)
  | .in_, a, .list l => if okD a && okD (.list l) then some (l.any fun z => z.eqv a) else none
  | .notIn, a, .list l => if okD a && okD (.list l) then some (!l.any fun z => z.eqv a) else none
  | _, _, _ => none
def maxI : List Int → Option Int
  | [] => none
  | i :: r => some (r.foldl (fun a y => if a < y then y else a) i)
def biD : BiK → List PyData → Option PyData
  | .len, [.list l] => some (.int l.length)
  | .len, [.tuple l] => some (.int l.length)
  | .int, [.int i] => some (.int i)
  | .int, [.bool b] => some (.int (if b then 1 else 0))
  | .max2, [.int i, .int j] => some (.int (if j > i then j else i))
  | .min2, [.int i, .int j] => some (.int (if j < i then j else i))
  | .sum, [.list l] => (intsOf l).map fun ns => .int ns.sum
  | .maxl, [.list l] => ((intsOf l).bind maxI).map .int
  | .maxl, [.tuple l] => ((intsOf l).bind maxI).map .int
  | _, _ => none
/-- is data of a built-in type -/
def isiD : TyK → PyData → Bool
  | .str, .str _ => true
  | .int, .int _ => true
  | .int, .bool _ => true
  | .bool, .bool _ => true
  | .tuple, .tuple _ => true
  | .list, .list _ => true
  | _, _ => false
def sIx (n d : Nat) : Option Int → Nat
  | none => d
  | some v => if v < 0 then (v + (n : Int)).toNat else min v.toNat n
def cut (l : List PyData) (lo hi : Option Int) : List PyData := (l.drop (sIx l.length 0 lo)).take (sIx l.length l.length hi - sIx l.length 0 lo)
def tt (w : W) (s : List Cell) : R Bool := match w with
  | .d (.bool b) => .ok b s
  | _ => .no
/-- an integer part -/
def ii (w : W) (s : List Cell) : R Int := match w with
  | .d (.int i) => .ok i s
  | _ => .no
def upTo (lo : Int) : Nat → List PyData
  | 0 => []
  | n + 1 => .int lo :: upTo (lo + 1) n
def smallI (j : Int) : Bool := decide (-4611686018427387904 ≤ j) && decide (j < 4611686018427387904)

/-! ### calls -/
def pX (s : List Cell) (live : Bool) : Option Ro → R Rv
  | some (.ret w) => if flat w || !live then .ok (.w w) s else .no
  | some (.fresh l) => if !live then .ok (.l l) s else .no
  | some (.ex x) => .ex x s
  | none => .no
def callX (φ : Fs) (ws : List W) (s : List Cell) : R Rv := match φ with
  | .p n g => if ws.length = n then match viewAll s ws with
    | some (vs, live) => pX s live (g vs)
    | none => .no
    else .no
  | .m n f => if ws.length = n then f ws s else .no
def rvW (r : Rv) (s : List Cell) : R W := match r with
  | .w w => .ok w s
  | .l l => .ok (.d (.list l)) s
def rvL (r : Rv) (s : List Cell) : R (List PyData) := match r with
  | .w _ => .no
  | .l l => .ok l s
def callF (φ : Fs) (ws : List W) (s : List Cell) : R W := (callX φ ws s).bind rvW
/-- .. where a new list comes back -/
def callL (φ : Fs) (ws : List W) (s : List Cell) : R (List PyData) := (callX φ ws s).bind rvL
def rvT (r : Rv) (s : List Cell) : R W := match r with
  | .w w => .ok w s
  | .l l => .ok (.h s.length) (s ++ [.lst l])
/-- .. where a new list, if one comes back, gets a cell -/
def callT (φ : Fs) (ws : List W) (s : List Cell) : R W := (callX φ ws s).bind rvT
/-- the class of a receiver -/
def clsOf (s : List Cell) : W → Option Nat
  | .o c _ => some c
  | .h i => match s[i]? with
    | some (.ins c _) => some c
    | _ => none
  | _ => none
def mkF (φ : Ms) (c : Nat) (ws : List W) (s : List Cell) : R W := match φ with
  | .p n g => if ws.length = n then match viewAll s ws with
    | some (vs, live) => match g vs with
      | some (.ok fs) => if !live then .ok (.o c fs) s else .no
      | some (.error x) => .ex x s
      | none => .no
    | none => .no
    else .no
  | .m n f => if ws.length = n then (f (.h s.length :: ws) (s ++ [.ins c []])).bind fun r s' => match r with
      | .w (.d .none) => .ok (.h s.length) s'
      | _ => .no
    else .no

/-! ### the interpreter -/
def wipeE (ρ : Env) : List Nat → Env
  | [] => ρ
  | v :: vs => (wipeE ρ vs).set v none
def setAll (ρ : Env) : List Nat → List PyData → Option Env
  | [], [] => some ρ
  | i :: is, x :: xs => setAll (ρ.set i (some (.d x))) is xs
  | _, _ => none
def asgT (ρ : Env) : Tg → W → Option Env
  | .n i, w => some (ρ.set i (some w))
  | .t is, .d (.tuple l) => setAll ρ is l
  | _, _ => none
/-- the items of a comprehension, one after another -/
def compL (f : PyData → List Cell → R (Option PyData)) : List PyData → List Cell → R (List PyData)
  | [], s => .ok [] s
  | x :: xs, s => match f x s with
    | .ok y s => (compL f xs s).bind fun ys s => match y with
      | some y => .ok (y :: ys) s
      | none => .ok ys s
    | _ => .no
def fldW (s : List Cell) (f : Nat) : W → Option W
  | .o _ fs => (getN f fs).map .d
  | .h i => match s[i]? with
    | some (.ins _ fs) => getN f fs
    | _ => none
  | _ => none
def lift {β : Type} (x : Option β) (s : List Cell) : R β := match x with
  | some a => .ok a s
  | none => .no
def frzR (w : W) (s : List Cell) : R PyData := match frz s w with
  | some (x, s) => .ok x s
  | none => .no
def frzsR (ws : List W) (s : List Cell) : R (List PyData) := match frzAll s ws with
  | some (x, s) => .ok x s
  | none => .no
def seeAll (s : List Cell) : List W → Option (List PyData)
  | [] => some []
  | w :: ws => match see s w, seeAll s ws with
    | some x, some xs => some (x :: xs)
    | _, _ => none
def seqOf : PyData → Option (List PyData)
  | .list l => some l
  | .tuple l => some l
  | _ => none

/-- is a list -/
def isL (w : W) (s : List Cell) : Bool := match see s w with
  | some (.list _) => true
  | _ => false
def appW (w : W) (x : PyData) (s : List Cell) : R W := match w with
  | .h i => match s[i]? with
    | some (.lst l) => if l.length < sizeLine then .ok (.d .none) (s.set i (.lst (l ++ [x]))) else .no
    | _ => .no
  | _ => .no

def popW (w : W) (s : List Cell) : R W := match w with
  | .h i => match s[i]? with
    | some (.lst l) => match l[l.length - 1]? with
      | some x => .ok (.d x) (s.set i (.lst l.dropLast))
      | none => .no
    | _ => .no
  | _ => .no
def clrW (w : W) (s : List Cell) : R W := match w with
  | .h i => match s[i]? with
    | some (.lst l) => .ok (.d .none) (s.set i (.lst []))
    | _ => .no
  | _ => .no
def dctOf (s : List Cell) : W → Option (Bool × List (PyData × PyData))
  | .h i => match s[i]? with
    | some (.dct nd kvs) => some (nd, kvs)
    | _ => none
  | _ => none
def getDW (w y : W) (s : List Cell) : Option (Option PyData) := match dctOf s w, see s y with
  | some (nd, kvs), some key => dGet nd kvs key
  | _, _ => none
def putDW (w : W) (key x : PyData) (s : List Cell) : R Unit := match w with
  | .h i => match s[i]? with
    | some (.dct nd kvs) => if kvs.length < sizeLine then match dPut nd kvs key x with
      | some kvs' => .ok () (s.set i (.dct nd kvs'))
      | none => .no
      else .no
    | _ => .no
  | _ => .no
def setWs (ρ : Env) : List Nat → List W → Option Env
  | [], [] => some ρ
  | i :: is, w :: ws => setWs (ρ.set i (some w)) is ws
  | _, _ => none

mutual
def runE (Φ : Phi) : E → Env → List Cell → R W
  | .var i, ρ, s => match ρ[i]? with
    | some (some w) => .ok w s
    | _ => .no
  | .cst x, _, s => .ok (.d x) s
  | .bin op a b, ρ, s => (runE Φ a ρ s).bind fun x s => (runE Φ b ρ s).bind fun y s => match see s x, see s y with
    | some x, some y => lift ((binD op x y).map .d) s
    | _, _ => .no
  | .cmp op a b, ρ, s => (runE Φ a ρ s).bind fun x s => (runE Φ b ρ s).bind fun y s => match see s x, see s y with
    | some x, some y => lift ((cmpD op x y).map fun b => .d (.bool b)) s
    | _, _ => .no
  | .chain op op' a b c, ρ, s => (runE Φ a ρ s).bind fun x s => (runE Φ b ρ s).bind fun y s => match see s x, see s y with
    | some x', some y' => match cmpD op x' y' with
      | some true => (runE Φ c ρ s).bind fun z s => match see s y, see s z with
        | some y, some z => lift ((cmpD op' y z).map fun b => .d (.bool b)) s
        | _, _ => .no
      | some false => .ok (.d (.bool false)) s
      | none => .no
    | _, _ => .no
  | .and a b, ρ, s => (runE Φ a ρ s).bind fun x s => (tt x s).bind fun c s => if c then runE Φ b ρ s else .ok (.d (.bool false)) s
  | .or a b, ρ, s => (runE Φ a ρ s).bind fun x s => (tt x s).bind fun c s => if c then .ok (.d (.bool true)) s else runE Φ b ρ s
  | .not a, ρ, s => (runE Φ a ρ s).bind fun x s => (tt x s).bind fun c s => .ok (.d (.bool (!c))) s
  | .ite c a b, ρ, s => (runE Φ c ρ s).bind fun x s => (tt x s).bind fun c s => if c then runE Φ a ρ s else runE Φ b ρ s
  | .tup es, ρ, s => (runEs Φ es ρ s).bind fun ws s => (frzsR ws s).bind fun xs s => if xs.length ≤ sizeLine then .ok (.d (.tuple xs)) s else .no
  | .idx a i, ρ, s => (runE Φ a ρ s).bind fun x s => (runE Φ i ρ s).bind fun y s => (ii y s).bind fun j s => match see s x with
    | some (.list l) => lift ((atD l j).map .d) s
    | some (.tuple l) => lift ((atD l j).map .d) s
    | _ => .no
  | .slc a lo hi, ρ, s => (runE Φ a ρ s).bind fun x s => (runO Φ lo ρ s).bind fun l s => (runO Φ hi ρ s).bind fun h s => match see s x with
    | some (.tuple xs) => .ok (.d (.tuple (cut xs l h))) s
    | some (.list xs) => .ok (.d (.list (cut xs l h))) s
    | _ => .no
  | .neg a, ρ, s => (runE Φ a ρ s).bind fun x s => (ii x s).bind fun i s => .ok (.d (.int (-i))) s
  | .fld a f, ρ, s => (runE Φ a ρ s).bind fun x s => lift (fldW s f x) s
  | .call f es, ρ, s => match Φ.fn f with
    | some φ => (runEs Φ es ρ s).bind fun ws s => callF φ ws s
    | none => .no
  | .meth o m es, ρ, s => (runE Φ o ρ s).bind fun w s => match clsOf s w with
    | some c => match Φ.mt c m with
      | some φ => (runEs Φ es ρ s).bind fun ws s => callF φ (w :: ws) s
      | none => .no
    | none => .no
  | .mk c es, ρ, s => match Φ.cl c with
    | some φ => (runEs Φ es ρ s).bind fun ws s => mkF φ c ws s
    | none => .no
  | .bi b es, ρ, s => (runEs Φ es ρ s).bind fun ws s => match seeAll s ws with
    | some xs => lift ((biD b xs).map .d) s
    | none => .no
  | .tupOf e, ρ, s => (runE Φ e ρ s).bind fun w s => match see s w with
    | some (.list l) => .ok (.d (.tuple l)) s
    | some (.tuple l) => .ok (.d (.tuple l)) s
    | _ => .no
  | .isi t e, ρ, s => (runE Φ e ρ s).bind fun w s => match see s w with
    | some x => .ok (.d (.bool (isiD t x))) s
    | none => .no
  | .app o e, ρ, s => (runE Φ o ρ s).bind fun w s => if isL w s then (runE Φ e ρ s).bind fun v s => (frzR v s).bind fun x s => appW w x s else .no
  | .pop o, ρ, s => (runE Φ o ρ s).bind fun w s => popW w s
  | .clr o, ρ, s => (runE Φ o ρ s).bind fun w s => clrW w s
  | .dnew nd, _, s => .ok (.h s.length) (s ++ [.dct nd []])
  | .din neg a b, ρ, s => (runE Φ a ρ s).bind fun x s => (runE Φ b ρ s).bind fun y s => match getDW y x s with
    | some r => .ok (.d (.bool (if neg then !r.isSome else r.isSome))) s
    | none => .no
  | .dget a k, ρ, s => (runE Φ a ρ s).bind fun x s => (runE Φ k ρ s).bind fun y s => match getDW x y s with
    | some (some r) => .ok (.d r) s
    | _ => .no
  | .dgetD a k z, ρ, s => (runE Φ a ρ s).bind fun x s => if (dctOf s x).isSome then (runE Φ k ρ s).bind fun y s => (runE Φ z ρ s).bind fun v s => match getDW x y s with
    | some (some r) => .ok (.d r) s
    | some none => .ok v s
    | none => .no
    else .no
  | .cls c m es, ρ, s => match Φ.cm c m with
    | some φ => (runEs Φ es ρ s).bind fun ws s => callF φ ws s
    | none => .no
  | .thc f es, ρ, s => match Φ.fn f with
    | some φ => (runEs Φ es ρ s).bind fun ws s => callT φ ws s
    | none => .no
  | .thm o m es, ρ, s => (runE Φ o ρ s).bind fun w s => match clsOf s w with
    | some c => match Φ.mt c m with
      | some φ => (runEs Φ es ρ s).bind fun ws s => callT φ (w :: ws) s
      | none => .no
    | none => .no
  | .fr f, ρ, s => (runF Φ f ρ s).bind fun l s => .ok (.d (.list l)) s
  | .th f, ρ, s => (runF Φ f ρ s).bind fun l s => .ok (.h s.length) (s ++ [.lst l])
  | .no, _, _ => .no
def runF (Φ : Phi) : F → Env → List Cell → R (List PyData)
  | .lst es, ρ, s => (runEs Φ es ρ s).bind fun ws s => (frzsR ws s).bind fun xs s => if xs.length ≤ sizeLine then .ok xs s else .no
  | .comp it tg own c e, ρ, s => (runI Φ it ρ s).bind fun items s => if items.length < sizeLine then compL (fun x s => match asgT (wipeE ρ own) tg (.d x) with
    | some ρ' => (runC Φ c ρ' s).bind fun b s => if b then (runE Φ e ρ' s).bind fun w s => (frzR w s).bind fun y s => .ok (some y) s else .ok none s
    | none => .no) items s else .no
  | .call f es, ρ, s => match Φ.fn f with
    | some φ => (runEs Φ es ρ s).bind fun ws s => callL φ ws s
    | none => .no
  | .meth o m es, ρ, s => (runE Φ o ρ s).bind fun w s => match clsOf s w with
    | some c => match Φ.mt c m with
      | some φ => (runEs Φ es ρ s).bind fun ws s => callL φ (w :: ws) s
      | none => .no
    | none => .no
  | .list e, ρ, s => (runE Φ e ρ s).bind fun w s => match see s w with
    | some x => lift (seqOf x) s
    | none => .no
  | .lrng a, ρ, s => (runE Φ a ρ s).bind fun x s => (ii x s).bind fun j s => if decide (j ≤ 16777216) && decide (-4611686018427387904 ≤ j) then .ok (upTo 0 j.toNat) s else .no
  | .sll a lo hi, ρ, s => (runE Φ a ρ s).bind fun x s => (runO Φ lo ρ s).bind fun l s => (runO Φ hi ρ s).bind fun h s => match see s x with
    | some (.list xs) => .ok (cut xs l h) s
    | _ => .no
  | .add a b, ρ, s => (runE Φ a ρ s).bind fun x s => (runE Φ b ρ s).bind fun y s => match see s x, see s y with
    | some (.list xs), some (.list ys) => if xs.length + ys.length ≤ sizeLine then .ok (xs ++ ys) s else .no
    | _, _ => .no
  | .mul a b, ρ, s => (runF Φ a ρ s).bind fun xs s => (runE Φ b ρ s).bind fun y s => (ii y s).bind fun k s =>
    if decide (-(2 ^ 63) ≤ k) && decide (k < 2 ^ 63) && decide (xs.length * k.toNat ≤ sizeLine) then .ok (List.replicate k.toNat xs).flatten s else .no
def runEs (Φ : Phi) : Es → Env → List Cell → R (List W)
  | .nil, _, s => .ok [] s
  | .cons e es, ρ, s => (runE Φ e ρ s).bind fun w s => (runEs Φ es ρ s).bind fun ws s => .ok (w :: ws) s
def runO (Φ : Phi) : Oe → Env → List Cell → R (Option Int)
  | .none, _, s => .ok none s
  | .some e, ρ, s => (runE Φ e ρ s).bind fun w s => (ii w s).bind fun i s => .ok (some i) s
/-- a condition, if there is one -/
def runC (Φ : Phi) : Oe → Env → List Cell → R Bool
  | .none, _, s => .ok true s
  | .some e, ρ, s => (runE Φ e ρ s).bind fun w s => tt w s
def runI (Φ : Phi) : It → Env → List Cell → R (List PyData)
  | .seq e, ρ, s => (runE Φ e ρ s).bind fun w s => (frzR w s).bind fun x s => lift (seqOf x) s
  | .rng1 a, ρ, s => (runE Φ a ρ s).bind fun x s => (ii x s).bind fun j s => if smallI j then .ok (upTo 0 j.toNat) s else .no
  | .rng2 a b, ρ, s => (runE Φ a ρ s).bind fun x s => (runE Φ b ρ s).bind fun y s => (ii x s).bind fun i s => (ii y s).bind fun j s => if smallI i && smallI j then .ok (upTo i (j - i).toNat) s else .no
end

/-- how a block ends -/
inductive O where
  | nx | brk | ct
  | ret (w : W)
  | ex (x : Xc)
abbrev RS := R (O × Env)
/-- an expression in a statement: what is raised ends the block -/
def R.st {β : Type} (r : R β) (ρ : Env) (k : β → List Cell → RS) : RS := match r with
  | .ok a s => k a s
  | .ex x s => .ok (.ex x, ρ) s
  | .no => .no
@[simp] theorem R.st_ok {β : Type} (a : β) (s : List Cell) (ρ : Env) (k : β → List Cell → RS) : (R.ok a s).st ρ k = k a s := rfl
@[simp] theorem R.st_ex {β : Type} (x : Xc) (s : List Cell) (ρ : Env) (k : β → List Cell → RS) : (R.ex x s : R β).st ρ k = .ok (.ex x, ρ) s := rfl
@[simp] theorem R.st_no {β : Type} (ρ : Env) (k : β → List Cell → RS) : (R.no : R β).st ρ k = .no := rfl
/-- one block, then another -/
def R.sq (r : RS) (k : Env → List Cell → RS) : RS := match r with
  | .ok (.nx, ρ) s => k ρ s
  | r => r
@[simp] theorem R.sq_nx (ρ : Env) (s : List Cell) (k : Env → List Cell → RS) : R.sq (.ok (.nx, ρ) s) k = k ρ s := rfl
@[simp] theorem R.sq_brk (ρ : Env) (s : List Cell) (k : Env → List Cell → RS) : R.sq (.ok (.brk, ρ) s) k = .ok (.brk, ρ) s := rfl
@[simp] theorem R.sq_ct (ρ : Env) (s : List Cell) (k : Env → List Cell → RS) : R.sq (.ok (.ct, ρ) s) k = .ok (.ct, ρ) s := rfl
@[simp] theorem R.sq_ret (w : W) (ρ : Env) (s : List Cell) (k : Env → List Cell → RS) : R.sq (.ok (.ret w, ρ) s) k = .ok (.ret w, ρ) s := rfl
@[simp] theorem R.sq_xx (x : Xc) (ρ : Env) (s : List Cell) (k : Env → List Cell → RS) : R.sq (.ok (.ex x, ρ) s) k = .ok (.ex x, ρ) s := rfl
@[simp] theorem R.sq_no (k : Env → List Cell → RS) : R.sq .no k = .no := rfl
/-- a loop's body, then the next turn -/
def R.lp (r : RS) (k : Env → List Cell → RS) : RS := match r with
  | .ok (.nx, ρ) s => k ρ s
  | .ok (.ct, ρ) s => k ρ s
  | .ok (.brk, ρ) s => .ok (.nx, ρ) s
  | r => r
@[simp] theorem R.lp_nx (ρ : Env) (s : List Cell) (k : Env → List Cell → RS) : R.lp (.ok (.nx, ρ) s) k = k ρ s := rfl
@[simp] theorem R.lp_brk (ρ : Env) (s : List Cell) (k : Env → List Cell → RS) : R.lp (.ok (.brk, ρ) s) k = .ok (.nx, ρ) s := rfl
@[simp] theorem R.lp_ct (ρ : Env) (s : List Cell) (k : Env → List Cell → RS) : R.lp (.ok (.ct, ρ) s) k = k ρ s := rfl
@[simp] theorem R.lp_ret (w : W) (ρ : Env) (s : List Cell) (k : Env → List Cell → RS) : R.lp (.ok (.ret w, ρ) s) k = .ok (.ret w, ρ) s := rfl
@[simp] theorem R.lp_xx (x : Xc) (ρ : Env) (s : List Cell) (k : Env → List Cell → RS) : R.lp (.ok (.ex x, ρ) s) k = .ok (.ex x, ρ) s := rfl
@[simp] theorem R.lp_no (k : Env → List Cell → RS) : R.lp .no k = .no := rfl
def whileL (c : Env → List Cell → R Bool) (b : Env → List Cell → RS) : Nat → Env → List Cell → RS
  | 0, _, _ => .no
  | n + 1, ρ, s => (c ρ s).st ρ fun k s => if k then R.lp (b ρ s) (whileL c b n) else .ok (.nx, ρ) s
def forL (g : Env → PyData → Option Env) (b : Env → List Cell → RS) : List PyData → Env → List Cell → RS
  | [], ρ, s => .ok (.nx, ρ) s
  | x :: xs, ρ, s => match g ρ x with
    | some ρ => R.lp (b ρ s) (forL g b xs)
    | none => .no
def setFW (Φ : Phi) (w : W) (f : Nat) (v : W) (s : List Cell) : R Unit := match w with
    | .h i => match s[i]? with
      | some (.ins c fs) => if fs.length < 1000 && Φ.has c f then .ok () (s.set i (.ins c (putN f v fs))) else .no
      | _ => .no
    | _ => .no
def setIW (w : W) (k : Int) (x : PyData) (s : List Cell) : R Unit := match w with
    | .h i => match s[i]? with
      | some (.lst l) => match ixD l.length k with
        | some j => .ok () (s.set i (.lst (l.set j x)))
        | none => .no
      | _ => .no
    | _ => .no
mutual
def runS (Φ : Phi) (n : Nat) : S → Env → List Cell → RS
  | .asg t e, ρ, s => (runE Φ e ρ s).st ρ fun w s => match asgT ρ t w with
    | some ρ => .ok (.nx, ρ) s
    | none => .no
  | .par is es, ρ, s => (runEs Φ es ρ s).st ρ fun ws s => match setWs ρ is ws with
    | some ρ => .ok (.nx, ρ) s
    | none => .no
  | .setF o f e, ρ, s => ((runE Φ e ρ s).bind fun v s => (runE Φ o ρ s).bind fun w s => setFW Φ w f v s).st ρ fun _ s => .ok (.nx, ρ) s
  | .setI o i e, ρ, s => ((runE Φ e ρ s).bind fun v s => (runE Φ o ρ s).bind fun w s => (runE Φ i ρ s).bind fun k s => (ii k s).bind fun k s => (frzR v s).bind fun x s => setIW w k x s).st ρ fun _ s => .ok (.nx, ρ) s
  | .setD o k e, ρ, s => ((runE Φ e ρ s).bind fun v s => (runE Φ o ρ s).bind fun w s => (runE Φ k ρ s).bind fun y s => (frzR v s).bind fun x s => (frzR y s).bind fun key s => putDW w key x s).st ρ fun _ s => .ok (.nx, ρ) s
  | .ex e, ρ, s => (runE Φ e ρ s).st ρ fun _ s => .ok (.nx, ρ) s
  | .ret e, ρ, s => (runE Φ e ρ s).st ρ fun w s => .ok (.ret w, ρ) s
  | .retN, ρ, s => .ok (.ret (.d .none), ρ) s
  | .ite c a b, ρ, s => ((runE Φ c ρ s).bind tt).st ρ fun k s => if k then runB Φ n a ρ s else runB Φ n b ρ s
  | .while c b, ρ, s => whileL (fun ρ s => (runE Φ c ρ s).bind tt) (fun ρ s => runB Φ n b ρ s) n ρ s
  | .for t it b, ρ, s => (runI Φ it ρ s).st ρ fun items s => forL (fun ρ x => asgT ρ t (.d x)) (fun ρ s => runB Φ n b ρ s) items ρ s
  | .pass, ρ, s => .ok (.nx, ρ) s
  | .brk, ρ, s => .ok (.brk, ρ) s
  | .ct, ρ, s => .ok (.ct, ρ) s
  | .no, _, _ => .no
def runB (Φ : Phi) (n : Nat) : List S → Env → List Cell → RS
  | [], ρ, s => .ok (.nx, ρ) s
  | c :: cs, ρ, s => R.sq (runS Φ n c ρ s) (runB Φ n cs)
end
/-! ### the end of a def's body -/
def startE (n : Nat) (ws : List W) : Env := ws.map some ++ List.replicate (n - ws.length) none
def finP (w : W) (s : List Cell) : Option Ro := match w with
  | .h i => match s[i]? with
    | some (.lst l) => some (.fresh l)
    | some (.fzl l) => some (.ret (.d (.list l)))
    | _ => none
  | w => some (.ret w)
def endP (r : RS) : Option Ro := match r with
  | .ok (.ret w, _) s => finP w s
  | .ok (.nx, _) _ => some (.ret (.d .none))
  | .ok (.ex x, _) _ => some (.ex x)
  | _ => none
def closedW (k : Nat) : W → Bool
  | .h i => decide (i < k)
  | _ => true
def closedC (k : Nat) : Cell → Bool
  | .ins _ fs => fs.all fun p => closedW k p.2
  | _ => true
def closedS (k : Nat) (s : List Cell) : Bool := s.all (closedC k)
def finM (k : Nat) (w : W) (s : List Cell) : R Rv := if closedS k (s.take k) && decide (k ≤ s.length) then match w with
    | .h i => if i < k then .ok (.w (.h i)) (s.take k) else match s[i]? with
      | some (.lst l) => .ok (.l l) (s.take k)
      | some (.fzl l) => .ok (.w (.d (.list l))) (s.take k)
      | _ => .no
    | w => .ok (.w w) (s.take k)
  else .no
def endM (k : Nat) (r : RS) : R Rv := match r with
  | .ok (.ret w, _) s => finM k w s
  | .ok (.nx, _) s => finM k (.d .none) s
  | .ok (.ex x, _) s => if closedS k (s.take k) && decide (k ≤ s.length) then .ex x (s.take k) else .no
  | _ => .no
/-- the end of an __init__: the fields of the instance that stands first in the store -/
def fldsD (s : List Cell) : List (Nat × W) → Option (List (Nat × PyData))
  | [] => some []
  | (f, w) :: r => match see s w, fldsD s r with
    | some x, some l => some ((f, x) :: l)
    | _, _ => none
def endI (c : Nat) (r : RS) : Option (Except Xc (List (Nat × PyData))) := match r with
  | .ok (.nx, _) s => match (s[0]? : Option Cell) with
    | some (Cell.ins c' fs) => if c' = c then (fldsD s fs).map Except.ok else none
    | _ => none
  | .ok (.ex x, _) _ => some (.error x)
  | _ => none
end DM

set_option maxRecDepth 100000
/-! DM2: how the machine's store lies in the abstract heap. -/
namespace DM
open PySem PySem.Spec PyProof.Rows L2

/-- the names by number; the classes' addresses -/
structure Tab where
  P : Program
  w : World
  K : PySem.W.Frag
  fn : Nat → Str
  nf : Nat
  mn : Nat → Str
  gn : Nat → Str
  cn : Nat → Str
  cls : Nat → Option Addr
  has : Nat → Nat → Bool

/-- fields that are data -/
abbrev FsD (T : Tab) (c : Nat) (G : Hp) : List (Str × V) → List (Nat × PyData) → Prop := Paired fun (p : Str × V) (q : Nat × PyData) => p.1 = T.fn q.1 ∧ T.has c q.1 = true ∧ Dp T.K G p.2 q.2
/-- fields of an exception -/
abbrev FsX (T : Tab) (G : Hp) : List (Str × V) → List (Nat × PyData) → Prop := Paired fun (p : Str × V) (q : Nat × PyData) => p.1 = T.fn q.1 ∧ q.1 < T.nf ∧ Dp T.K G p.2 q.2
/-- a dict whose keys are tuples of ints and texts -/
def DctT (T : Tab) (G H : Hp) (a : Addr) (kvs : List (PyData × PyData)) : Prop :=
  ∃ ks : List (List Key × V), H a = some (.dT ks) ∧ Paired (fun (p : List Key × V) (q : PyData × PyData) => (∃ l, q.1 = .tuple l ∧ flatKs l = some p.1) ∧ Dp T.K G p.2 q.2) ks kvs
/-- a dict: each key known, each value known -/
def DR {P : Program} {w : World} {κ : Type} [DecidableEq κ] (kd : HeapKind P w κ) (ko : PyData → Option κ) (K : PySem.W.Frag) (G H : Hp) (a : Addr) (kvs : List (PyData × PyData)) : Prop :=
  ∃ xs : List (κ × Addr × V), H a = some (gdO kd a xs) ∧ Paired (fun (x : κ × Addr × V) (q : PyData × PyData) => ko q.1 = some x.1 ∧ Dp K G (.ref x.2.1) q.1 ∧ Dp K G x.2.2 q.2) xs kvs
def DctR (T : Tab) (nd : Bool) (G H : Hp) (a : Addr) (kvs : List (PyData × PyData)) : Prop :=
  if nd then DR (pairKind (mixKind T.P T.w)) pkO T.K G H a kvs else DR (tupleKind (mixKind T.P T.w)) fkO T.K G H a kvs
def RW (T : Tab) (G : Hp) (α : List Addr) : W → V → Prop
  | .d x, v => Dp T.K G v x
  | .h i, v => ∃ a, α[i]? = some a ∧ v = .ref a
  | .o c fs, v => ∃ a C dx fvs, v = .ref a ∧ G a = some (.ins C dx fvs) ∧ T.cls c = some C ∧ FsD T c G fvs fs
  | .dc kvs, v => ∃ a, v = .ref a ∧ DctT T G G a kvs
abbrev RWs (T : Tab) (G : Hp) (α : List Addr) : List W → List V → Prop := Paired (RW T G α)
abbrev FsW (T : Tab) (c : Nat) (G : Hp) (α : List Addr) : List (Str × V) → List (Nat × W) → Prop := Paired fun (p : Str × V) (q : Nat × W) => p.1 = T.fn q.1 ∧ T.has c q.1 = true ∧ RW T G α q.2 p.2
def CellR (T : Tab) (B G H : Hp) (α : List Addr) (a : Addr) : Cell → Prop
  | .lst l => G a = none ∧ B a = none ∧ ∃ vs, H a = some (.lst vs) ∧ DpAll T.K G vs l
  | .dct nd kvs => G a = none ∧ B a = none ∧ DctR T nd G H a kvs
  | .ins c fs => G a = none ∧ B a = none ∧ ∃ C dx fvs, H a = some (.ins C dx fvs) ∧ T.cls c = some C ∧ FsW T c G α fvs fs
  | .fzl l => ∃ vs, G a = some (.lst vs) ∧ DpAll T.K G vs l
  | .gone => B a = none ∧ ∃ o, H a = some o
/-- the store lies in H: B is kept as it is, G is what is known for good -/
structure StM (T : Tab) (B G H : Hp) (α : List Addr) (s : List Cell) : Prop where
  gh : Same G H
  bh : Same B H
  len : α.length = s.length
  nd : α.Nodup
  cell : ∀ (i : Nat) (a : Addr) (c : Cell), α[i]? = some a → s[i]? = some c → CellR T B G H α a c
/-- more is known, more cells -/
structure Ext (B G : Hp) (α : List Addr) (G' : Hp) (α' : List Addr) : Prop where
  g : Same G G'
  a : ∃ t, α' = α ++ t
  b : ∀ b, B b ≠ none → G b = none → G' b = none
def EnvR (T : Tab) (G : Hp) (α : List Addr) (ρ : Env) (σ : L2.St) : Prop := ρ.length = σ.length ∧ ∀ (i : Nat) (w : W), ρ[i]? = some (some w) → ∃ v, σ[i]? = some (some v) ∧ RW T G α w v
/-- an exception -/
def XR (T : Tab) (H : Hp) (x : Xc) (cls : Value) (dx : Option Addr) : Prop :=
  ∃ C, T.cls x.c = some C ∧ cls = .ref C ∧ (x.fs ≠ [] → ∃ d fvs, dx = some d ∧ H d = some (.xd fvs) ∧ FsX T H fvs x.fs)

/-! ### monotony -/
theorem Same.seqT {K : PySem.W.Frag} {H H' : Hp} {a : Addr} {xs : List V} (e : Same H H') (h : SqT K H a xs) : SqT K H' a xs := by
  rcases h with (h | ⟨o, h⟩) | h
  · exact .inl (.inl (e _ _ h))
  · exact .inl (.inr ⟨o, e _ _ h⟩)
  · exact .inr h
mutual
theorem Dp.mono {K : PySem.W.Frag} {G G' : Hp} (e : Same G G') : ∀ (x : PyData) (v : V), Dp K G v x → Dp K G' v x
  | .none, _, h => by cases h; exact .non
  | .bool b, _, h => by cases h; exact .bl b
  | .int i, _, h => by cases h; exact .int i
  | .str x, _, h => by cases h; exact .str x
  | .list l, _, h => by
    cases h with
    | lst hs ha => exact .lst (e.seq hs) (DpAll.mono e l _ ha)
  | .tuple l, _, h => by
    cases h with
    | tup hs ha => exact .tup (Same.seqT e hs) (DpAll.mono e l _ ha)
  | .dict _, _, h => by cases h
theorem DpAll.mono {K : PySem.W.Frag} {G G' : Hp} (e : Same G G') : ∀ (l : List PyData) (vs : List V), DpAll K G vs l → DpAll K G' vs l
  | [], _, h => by cases h; exact .nil
  | x :: l, _, h => by
    cases h with
    | cons h1 h2 => exact .cons (Dp.mono e x _ h1) (DpAll.mono e l _ h2)
end
theorem Paired.imp2 {α β : Type} {F G : α → β → Prop} (f : ∀ a b, F a b → G a b) : ∀ {l₁ : List α} {l₂ : List β}, Paired F l₁ l₂ → Paired G l₁ l₂
  | _, _, .nil => .nil
  | _, _, .cons r t => .cons (f _ _ r) (Paired.imp2 f t)
theorem FsD.mono {T : Tab} {c : Nat} {G G' : Hp} (e : Same G G') {fvs : List (Str × V)} {fs : List (Nat × PyData)} (h : FsD T c G fvs fs) : FsD T c G' fvs fs :=
  Paired.imp2 (fun _ _ ⟨a, b, c⟩ => ⟨a, b, Dp.mono e _ _ c⟩) h
theorem DctT.mono {T : Tab} {G G' H H' : Hp} (e : Same G G') {a : Addr} (eh : ∀ o, H a = some o → H' a = some o) {kvs : List (PyData × PyData)} (h : DctT T G H a kvs) : DctT T G' H' a kvs := by
  obtain ⟨ks, h1, h2⟩ := h
  exact ⟨ks, eh _ h1, Paired.imp2 (fun _ _ ⟨p, q⟩ => ⟨p, Dp.mono e _ _ q⟩) h2⟩
theorem DR.mono {P : Program} {w : World} {κ : Type} [DecidableEq κ] {kd : HeapKind P w κ} {ko : PyData → Option κ} {K : PySem.W.Frag} {G G' H H' : Hp} (e : Same G G') {a : Addr} (eh : ∀ o, H a = some o → H' a = some o) {kvs : List (PyData × PyData)} (h : DR kd ko K G H a kvs) : DR kd ko K G' H' a kvs := by
  obtain ⟨xs, h1, h2⟩ := h
  exact ⟨xs, eh _ h1, Paired.imp2 (fun _ _ ⟨p, q, r⟩ => ⟨p, Dp.mono e _ _ q, Dp.mono e _ _ r⟩) h2⟩
theorem DctR.mono {T : Tab} {nd : Bool} {G G' H H' : Hp} (e : Same G G') {a : Addr} (eh : ∀ o, H a = some o → H' a = some o) {kvs : List (PyData × PyData)} (h : DctR T nd G H a kvs) : DctR T nd G' H' a kvs := by
  cases nd with
  | true => exact DR.mono e eh h
  | false => exact DR.mono e eh h
theorem DctR.there {T : Tab} {nd : Bool} {G H : Hp} {a : Addr} {kvs : List (PyData × PyData)} (h : DctR T nd G H a kvs) : ∃ o, H a = some o := by
  cases nd with
  | true => obtain ⟨_, h, _⟩ := h; exact ⟨_, h⟩
  | false => obtain ⟨_, h, _⟩ := h; exact ⟨_, h⟩
theorem RW.mono {T : Tab} {G G' : Hp} {α α' : List Addr} (e : Same G G') (ea : ∃ t, α' = α ++ t) : ∀ {w : W} {v : V}, RW T G α w v → RW T G' α' w v
  | .d x, v, h => Dp.mono e x v h
  | .h i, v, ⟨a, h1, h2⟩ => by
    obtain ⟨t, rfl⟩ := ea
    refine ⟨a, ?_, h2⟩
    rw [List.getElem?_append_left (List.getElem?_eq_some_iff.mp h1).1]
    exact h1
  | .o c fs, v, ⟨a, C, dx, fvs, h1, h2, h3, h4⟩ => ⟨a, C, dx, fvs, h1, e _ _ h2, h3, FsD.mono e h4⟩
  | .dc kvs, v, ⟨a, h1, h2⟩ => ⟨a, h1, DctT.mono e (fun o => e a o) h2⟩
theorem RWs.mono {T : Tab} {G G' : Hp} {α α' : List Addr} (e : Same G G') (ea : ∃ t, α' = α ++ t) {ws : List W} {vs : List V} (h : RWs T G α ws vs) : RWs T G' α' ws vs :=
  Paired.imp2 (fun _ _ r => RW.mono e ea r) h
theorem FsW.mono {T : Tab} {G G' : Hp} {α α' : List Addr} (e : Same G G') (ea : ∃ t, α' = α ++ t) {fvs : List (Str × V)} {fs : List (Nat × W)} (h : FsW T c G α fvs fs) : FsW T c G' α' fvs fs :=
  Paired.imp2 (fun _ _ ⟨a, b, c⟩ => ⟨a, b, RW.mono e ea c⟩) h
theorem Ext.refl (B G : Hp) (α : List Addr) : Ext B G α G α := ⟨Same.refl G, ⟨[], (by simp)⟩, fun _ _ h => h⟩
theorem Ext.refl' {B G : Hp} {α : List Addr} : Ext B G α G α := Ext.refl B G α
theorem Ext.trans {B G G1 G2 : Hp} {α α1 α2 : List Addr} (a : Ext B G α G1 α1) (b : Ext B G1 α1 G2 α2) : Ext B G α G2 α2 := by
  obtain ⟨t1, e1⟩ := a.a
  obtain ⟨t2, e2⟩ := b.a
  exact ⟨a.g.trans b.g, ⟨t1 ++ t2, by rw [e2, e1, List.append_assoc]⟩, fun c h1 h2 => b.b c h1 (a.b c h1 h2)⟩
theorem Ext.rw {T : Tab} {B G G' : Hp} {α α' : List Addr} (x : Ext B G α G' α') {w : W} {v : V} (h : RW T G α w v) : RW T G' α' w v := RW.mono x.g x.a h
theorem Ext.rws {T : Tab} {B G G' : Hp} {α α' : List Addr} (x : Ext B G α G' α') {ws : List W} {vs : List V} (h : RWs T G α ws vs) : RWs T G' α' ws vs := RWs.mono x.g x.a h
theorem EnvR.mono {T : Tab} {B G G' : Hp} {α α' : List Addr} {ρ : Env} {σ : L2.St} (x : Ext B G α G' α') (h : EnvR T G α ρ σ) : EnvR T G' α' ρ σ :=
  ⟨h.1, fun i w e => let ⟨v, h1, h2⟩ := h.2 i w e; ⟨v, h1, x.rw h2⟩⟩
theorem CellR.mono {T : Tab} {B G G' H H' : Hp} {α α' : List Addr} {a : Addr} (e : Same G G') (ea : ∃ t, α' = α ++ t) (ga : G a = none → G' a = none) (ha : ∀ o, H a = some o → H' a = some o) : ∀ {c : Cell}, CellR T B G H α a c → CellR T B G' H' α' a c
  | .lst l, ⟨h1, h2, vs, h3, h4⟩ => ⟨ga h1, h2, vs, ha _ h3, DpAll.mono e _ _ h4⟩
  | .dct nd kvs, ⟨h1, h2, h3⟩ => ⟨ga h1, h2, DctR.mono e ha h3⟩
  | .ins c fs, ⟨h1, h2, C, dx, fvs, h3, h4, h5⟩ => ⟨ga h1, h2, C, dx, fvs, ha _ h3, h4, FsW.mono e ea h5⟩
  | .fzl l, ⟨vs, h1, h2⟩ => ⟨vs, e _ _ h1, DpAll.mono e _ _ h2⟩
  | .gone, ⟨b, o, h⟩ => ⟨b, o, ha o h⟩
theorem CellR.there {T : Tab} {B G H : Hp} {α : List Addr} {a : Addr} (gh : Same G H) : ∀ {c : Cell}, CellR T B G H α a c → ∃ o, H a = some o
  | .lst l, ⟨_, _, _, h, _⟩ => ⟨_, h⟩
  | .dct nd kvs, ⟨_, _, h⟩ => h.there
  | .ins c fs, ⟨_, _, _, _, _, h, _⟩ => ⟨_, h⟩
  | .fzl l, ⟨_, h, _⟩ => ⟨_, gh _ _ h⟩
  | .gone, ⟨_, h⟩ => h
theorem CellR.bnone {T : Tab} {B G H : Hp} {α : List Addr} {a : Addr} {c : Cell} (h : CellR T B G H α a c) (hc : c ≠ .gone) (hf : ∀ l, c ≠ .fzl l) : G a = none ∧ B a = none := by
  cases c with
  | lst l => exact ⟨h.1, h.2.1⟩
  | dct nd l => exact ⟨h.1, h.2.1⟩
  | ins c l => exact ⟨h.1, h.2.1⟩
  | fzl l => exact absurd rfl (hf l)
  | gone => exact absurd rfl hc
theorem Same.upd {G : Hp} {p : Addr} {o : HO} (h : G p = none) : Same G (upd G p o) := fun b u e => by rw [upd_ne (ne_of_none e h)]; exact e
theorem same_none {G H : Hp} (e : Same G H) {p : Addr} (h : H p = none) : G p = none := e.free h
section
variable {T : Tab} {B G H : Hp} {α : List Addr} {s : List Cell}
theorem StM.at (S : StM T B G H α s) {i : Nat} {c : Cell} (h : s[i]? = some c) : ∃ a, α[i]? = some a ∧ CellR T B G H α a c := by
  have hi := (List.getElem?_eq_some_iff.mp h).1
  have hi' : i < α.length := by rw [S.len]; exact hi
  exact ⟨α[i], List.getElem?_eq_getElem hi', S.cell i _ c (List.getElem?_eq_getElem hi') h⟩
theorem StM.mem_there (S : StM T B G H α s) {a : Addr} (h : a ∈ α) : ∃ o, H a = some o := by
  obtain ⟨i, hi, e⟩ := List.getElem_of_mem h
  have hi' : i < s.length := by rw [← S.len]; exact hi
  exact (S.cell i a s[i] (by rw [List.getElem?_eq_getElem hi, e]) (List.getElem?_eq_getElem hi')).there S.gh
theorem StM.new_notin (S : StM T B G H α s) {p : Addr} (h : H p = none) : p ∉ α := fun hm => by
  obtain ⟨o, e⟩ := S.mem_there hm
  rw [h] at e; cases e
/-- a new object beside all -/
theorem StM.beside (S : StM T B G H α s) {p : Addr} {o : HO} (h : H p = none) : StM T B G (upd H p o) α s :=
  ⟨S.gh.trans (Same.upd h), S.bh.trans (Same.upd h), S.len, S.nd, fun i a c h1 h2 => (S.cell i a c h1 h2).mono (Same.refl G) ⟨[], by simp⟩ (fun x => x) fun u e => Same.upd h a u e⟩
theorem StM.same (S : StM T B G H α s) {H' : Hp} (h : Same H H') : StM T B G H' α s :=
  ⟨S.gh.trans h, S.bh.trans h, S.len, S.nd, fun i a c h1 h2 => (S.cell i a c h1 h2).mono (Same.refl G) ⟨[], by simp⟩ (fun x => x) fun u e => h a u e⟩
/-- more is known: what is new there is in H, no cell, not in B -/
theorem StM.know (S : StM T B G H α s) {G' : Hp} (g : Same G G') (gh : Same G' H) (ha : ∀ a ∈ α, G a = none → G' a = none) : StM T B G' H α s :=
  ⟨gh, S.bh, S.len, S.nd, fun i a c h1 h2 => (S.cell i a c h1 h2).mono g ⟨[], by simp⟩ (ha a (List.mem_of_getElem? h1)) fun u e => e⟩
/-- a new known object -/
theorem StM.pure (S : StM T B G H α s) {p : Addr} {o : HO} (h : H p = none) : StM T B (upd G p o) (upd H p o) α s := by
  have S1 := S.beside (o := o) h
  refine S1.know (Same.upd (same_none S.gh h)) (fun b u e => ?_) (fun a ha e => ?_)
  · by_cases hb : b = p
    · subst hb; rw [upd_same] at e ⊢; exact e
    · rw [upd_ne hb] at e ⊢; exact S.gh b u e
  · rw [upd_ne]
    · exact e
    · rintro rfl; exact S.new_notin h ha
theorem Ext.pure {p : Addr} {o : HO} (hg : G p = none) (hb : B p = none) : Ext B G α (upd G p o) α := by
  refine ⟨Same.upd hg, ⟨[], by simp⟩, fun b h1 h2 => ?_⟩
  rw [upd_ne]
  · exact h2
  · rintro rfl; exact h1 hb
/-- a new list cell -/
theorem StM.push (S : StM T B G H α s) {p : Addr} {c : Cell} (hp : p ∉ α) (hc : CellR T B G H (α ++ [p]) p c) : StM T B G H (α ++ [p]) (s ++ [c]) := by
  refine ⟨S.gh, S.bh, by simp [S.len], ?_, fun i a c' h1 h2 => ?_⟩
  · rw [List.nodup_append]
    exact ⟨S.nd, by simp, fun a ha b hb => by simp at hb; subst hb; rintro rfl; exact hp ha⟩
  · by_cases hi : i < α.length
    · rw [List.getElem?_append_left hi] at h1
      rw [List.getElem?_append_left (by rw [← S.len]; exact hi)] at h2
      exact (S.cell i a c' h1 h2).mono (Same.refl G) ⟨[p], rfl⟩ (fun x => x) fun u e => e
    · have hi' : i = α.length := by
        have := (List.getElem?_eq_some_iff.mp h1).1
        simp at this; omega
      subst hi'
      rw [List.getElem?_append_right (Nat.le_refl _)] at h1
      rw [S.len, List.getElem?_append_right (Nat.le_refl _)] at h2
      simp at h1 h2
      subst h1; subst h2
      exact hc
theorem Ext.push {p : Addr} : Ext B G α G (α ++ [p]) := ⟨Same.refl G, ⟨[p], rfl⟩, fun _ _ h => h⟩
/-- the cell i at a is changed -/
theorem StM.set (S : StM T B G H α s) {i : Nat} {a : Addr} {c : Cell} {o : HO} (ha : α[i]? = some a) (hg : G a = none) (hb : B a = none) (hc : CellR T B G (upd H a o) α a c) : StM T B G (upd H a o) α (s.set i c) := by
  have hne : ∀ b u, G b = some u → b ≠ a := fun b u e z => by rw [z, hg] at e; cases e
  have hne' : ∀ b u, B b = some u → b ≠ a := fun b u e z => by rw [z, hb] at e; cases e
  refine ⟨fun b u e => by rw [upd_ne (hne b u e)]; exact S.gh b u e, fun b u e => by rw [upd_ne (hne' b u e)]; exact S.bh b u e, by simp [S.len], S.nd, fun j b c' h1 h2 => ?_⟩
  by_cases hj : j = i
  · subst hj
    rw [ha] at h1; cases h1
    have hl : j < s.length := by rw [← S.len]; exact (List.getElem?_eq_some_iff.mp ha).1
    rw [List.getElem?_set_self hl] at h2
    cases h2
    exact hc
  · rw [List.getElem?_set_ne (Ne.symm hj)] at h2
    refine (S.cell j b c' h1 h2).mono (Same.refl G) ⟨[], by simp⟩ (fun x => x) fun u e => ?_
    rw [upd_ne]
    · exact e
    · rintro rfl
      obtain ⟨l1, e1⟩ := List.getElem?_eq_some_iff.mp h1
      obtain ⟨l2, e2⟩ := List.getElem?_eq_some_iff.mp ha
      exact hj ((List.getElem_inj S.nd).mp (e1.trans e2.symm))
/-- .. without the heap -/
theorem StM.setG (S : StM T B G H α s) {i : Nat} {a : Addr} {c : Cell} (ha : α[i]? = some a) (hc : CellR T B G H α a c) : StM T B G H α (s.set i c) := by
  refine ⟨S.gh, S.bh, by simp [S.len], S.nd, fun j b c' h1 h2 => ?_⟩
  by_cases hj : j = i
  · subst hj
    rw [ha] at h1; cases h1
    have hl : j < s.length := by rw [← S.len]; exact (List.getElem?_eq_some_iff.mp ha).1
    rw [List.getElem?_set_self hl] at h2
    cases h2
    exact hc
  · rw [List.getElem?_set_ne (Ne.symm hj)] at h2
    exact S.cell j b c' h1 h2
/-- .. known for good -/
theorem StM.freeze (S : StM T B G H α s) {i : Nat} {l : List PyData} (h : s[i]? = some (.lst l)) : ∃ a vs G', α[i]? = some a ∧ G' = upd G a (.lst vs) ∧ Ext B G α G' α ∧ StM T B G' H α (s.set i (.fzl l)) ∧ DpAll T.K G' vs l ∧ G' a = some (.lst vs) ∧ H a = some (.lst vs) := by
  obtain ⟨a, ha, hg, hb, vs, hH, hd⟩ := S.at h
  refine ⟨a, vs, _, ha, rfl, Ext.pure hg hb, ?_, DpAll.mono (Same.upd hg) _ _ hd, upd_same, hH⟩
  have g : Same G (upd G a (.lst vs)) := Same.upd hg
  have gH : Same (upd G a (.lst vs)) H := fun b u e => by
    by_cases hb : b = a
    · subst hb; rw [upd_same] at e; cases e; exact hH
    · rw [upd_ne hb] at e; exact S.gh b u e
  refine ⟨gH, S.bh, by simp [S.len], S.nd, fun j b c' h1 h2 => ?_⟩
  by_cases hj : j = i
  · subst hj
    rw [ha] at h1; cases h1
    have hl : j < s.length := by rw [← S.len]; exact (List.getElem?_eq_some_iff.mp ha).1
    rw [List.getElem?_set_self hl] at h2
    cases h2
    exact ⟨vs, upd_same, DpAll.mono g _ _ hd⟩
  · rw [List.getElem?_set_ne (Ne.symm hj)] at h2
    refine (S.cell j b c' h1 h2).mono g ⟨[], by simp⟩ (fun z => ?_) fun u e => e
    rw [upd_ne]
    · exact z
    · rintro rfl
      obtain ⟨l1, e1⟩ := List.getElem?_eq_some_iff.mp h1
      obtain ⟨l2, e2⟩ := List.getElem?_eq_some_iff.mp ha
      exact hj ((List.getElem_inj S.nd).mp (e1.trans e2.symm))
end

/-! ### values seen, frozen -/
section
variable {T : Tab} {B G H : Hp} {α : List Addr} {s : List Cell}
theorem _root_.L2.DpAll.len {K : PySem.W.Frag} {G : Hp} : ∀ {l : List PyData} {vs : List V}, DpAll K G vs l → vs.length = l.length
  | [], _, h => by cases h; rfl
  | _ :: l, _, h => by
    cases h with
    | cons _ h2 => simp [L2.DpAll.len h2]
/-- seen: as data in H -/
theorem see_ok (S : StM T B G H α s) {w : W} {x : PyData} {v : V} (h : see s w = some x) (r : RW T G α w v) : Dp T.K H v x := by
  cases w with
  | d y => cases h; exact Dp.mono S.gh _ _ r
  | h i =>
    obtain ⟨a, ha, rfl⟩ := r
    simp only [see] at h
    cases e : s[i]? with
    | none => rw [e] at h; cases h
    | some c =>
      rw [e] at h
      have hc := S.cell i a c ha e
      cases c with
      | lst l =>
        cases h
        obtain ⟨hg, hb, vs, hH, hd⟩ := hc
        exact .lst (SqL.of hH) (DpAll.mono S.gh _ _ hd)
      | fzl l =>
        cases h
        obtain ⟨vs, hG, hd⟩ := hc
        exact .lst (SqL.of (S.gh _ _ hG)) (DpAll.mono S.gh _ _ hd)
      | dct _ _ => cases h
      | ins _ _ => cases h
      | gone => cases h
  | o c fs => cases h
  | dc k => cases h
theorem frz_ok (S : StM T B G H α s) {w : W} {x : PyData} {s' : List Cell} {v : V} (h : frz s w = some (x, s')) (r : RW T G α w v) : ∃ G', Ext B G α G' α ∧ StM T B G' H α s' ∧ Dp T.K G' v x := by
  cases w with
  | d y => cases h; exact ⟨G, Ext.refl', S, r⟩
  | h i =>
    obtain ⟨a, ha, rfl⟩ := r
    simp only [frz] at h
    cases e : s[i]? with
    | none => rw [e] at h; cases h
    | some c =>
      rw [e] at h
      cases c with
      | lst l =>
        cases h
        obtain ⟨a', vs, G', ha', _, ex, S', hd, hG', hH⟩ := S.freeze e
        rw [ha] at ha'; cases ha'
        exact ⟨G', ex, S', .lst (SqL.of hG') hd⟩
      | fzl l =>
        cases h
        obtain ⟨vs, hG, hd⟩ := S.cell i a _ ha e
        exact ⟨G, Ext.refl', S, .lst (SqL.of hG) hd⟩
      | dct _ _ => cases h
      | ins _ _ => cases h
      | gone => cases h
  | o c fs => cases h
  | dc k => cases h
theorem frzAll_ok : ∀ {ws : List W} {G : Hp} {s s' : List Cell} {xs : List PyData} {vs : List V}, StM T B G H α s → frzAll s ws = some (xs, s') → RWs T G α ws vs → ∃ G', Ext B G α G' α ∧ StM T B G' H α s' ∧ DpAll T.K G' vs xs
  | [], G, s, s', xs, vs, S, h, r => by cases h; cases r; exact ⟨G, Ext.refl', S, .nil⟩
  | w :: ws, G, s, s', xs, vs, S, h, r => by
    simp only [frzAll] at h
    cases r with
    | cons r1 r2 =>
      cases e : frz s w with
      | none => rw [e] at h; cases h
      | some p =>
        obtain ⟨x, s1⟩ := p
        rw [e] at h
        simp only at h
        obtain ⟨G1, ex1, S1, d1⟩ := frz_ok S e r1
        cases e2 : frzAll s1 ws with
        | none => rw [e2] at h; cases h
        | some q =>
          obtain ⟨xs', s2⟩ := q
          rw [e2] at h
          cases h
          obtain ⟨G2, ex2, S2, d2⟩ := frzAll_ok S1 e2 (ex1.rws r2)
          exact ⟨G2, ex1.trans ex2, S2, .cons (Dp.mono ex2.g _ _ d1) d2⟩
theorem seeAll_ok (S : StM T B G H α s) : ∀ {ws : List W} {xs : List PyData} {vs : List V}, seeAll s ws = some xs → RWs T G α ws vs → DpAll T.K H vs xs
  | [], xs, vs, h, r => by cases h; cases r; exact .nil
  | w :: ws, xs, vs, h, r => by
    simp only [seeAll] at h
    cases r with
    | cons r1 r2 =>
      cases e : see s w with
      | none => rw [e] at h; cases h
      | some x =>
        cases e2 : seeAll s ws with
        | none => rw [e, e2] at h; cases h
        | some xs' =>
          rw [e, e2] at h
          cases h
          exact .cons (see_ok S e r1) (seeAll_ok S e2 r2)
end
end DM

set_option maxRecDepth 100000
/-! DM3: readings of the machine; expressions. -/
namespace DM
open PySem PySem.Spec PyProof.Rows L2

/-- how a result lies: G, H, the cells, the machine's result, the layer's -/
abbrev Rel (β γ : Type) := Hp → Hp → List Addr → Hp → β → γ → Prop
def Post {β γ : Type} (T : Tab) (Wx : WX) (rel : Rel β γ) (B G : Hp) (α : List Addr) (σ : L2.St) (r : R β) (Q : γ → Hp → Prop) : Prop := match r with
  | .ok b s' => ∀ (G' : Hp) (α' : List Addr) (H' : Hp) (c : γ), Ext B G α G' α' → StM T B G' H' α' s' → rel B G' α' H' b c → Q c H'
  | .ex x s' => ∀ (G' : Hp) (α' : List Addr) (H' : Hp) (cls : Value) (dx : Option Addr), Ext B G α G' α' → StM T B G' H' α' s' → XR T H' x cls dx → Wx cls dx σ H'
  | .no => False
/-- a reading -/
def rd {β γ : Type} (T : Tab) (Wx : WX) (rel : Rel β γ) (f : Env → List Cell → R β) : L2.St → Hp → (γ → Hp → Prop) → Prop := fun σ H Q =>
  ∃ (B G : Hp) (α : List Addr) (ρ : Env) (s : List Cell), StM T B G H α s ∧ EnvR T G α ρ σ ∧ Post T Wx rel B G α σ (f ρ s) Q
def rW (T : Tab) : Rel W V := fun _ G α _ w v => RW T G α w v
def rWs (T : Tab) : Rel (List W) (List V) := fun _ G α _ w v => RWs T G α w v
def rB : Rel Bool Bool := fun _ _ _ _ b c => b = c
def rO : Rel (Option Int) (Option Int) := fun _ _ _ _ b c => b = c
/-- a new list -/
def rF (T : Tab) : Rel (List PyData) V := fun B G α H l v => ∃ a vs, v = .ref a ∧ H a = some (.lst vs) ∧ G a = none ∧ B a = none ∧ a ∉ α ∧ DpAll T.K G vs l
abbrev tE (T : Tab) (Wx : WX) (f : Env → List Cell → R W) : TE := rd T Wx (rW T) f
abbrev tF (T : Tab) (Wx : WX) (f : Env → List Cell → R (List PyData)) : TE := rd T Wx (rF T) f
abbrev tT (T : Tab) (Wx : WX) (f : Env → List Cell → R Bool) : TT := rd T Wx rB f
abbrev tA (T : Tab) (Wx : WX) (f : Env → List Cell → R (List W)) : TA := rd T Wx (rWs T) f
abbrev tO (T : Tab) (Wx : WX) (f : Env → List Cell → R (Option Int)) : TO := rd T Wx rO f

section
variable {T : Tab} {Wx : WX} {β γ δ ε : Type} {rel : Rel β γ} {rel' : Rel δ ε} {B G : Hp} {α : List Addr} {σ : L2.St} {H : Hp}
theorem Post.mono {r : R β} {Q Q' : γ → Hp → Prop} (h : Post T Wx rel B G α σ r Q) (k : ∀ c H, Q c H → Q' c H) : Post T Wx rel B G α σ r Q' := by
  cases r with
  | ok b s => exact fun G' α' H' c x S r => k _ _ (h G' α' H' c x S r)
  | ex x s => exact h
  | no => exact h
theorem Post.ext {G1 : Hp} {α1 : List Addr} {r : R β} {Q : γ → Hp → Prop} (h : Post T Wx rel B G α σ r Q) (x : Ext B G α G1 α1) : Post T Wx rel B G1 α1 σ r Q := by
  cases r with
  | ok b s => exact fun G' α' H' c y S r => h G' α' H' c (x.trans y) S r
  | ex z s => exact fun G' α' H' c d y S r => h G' α' H' c d (x.trans y) S r
  | no => exact h
theorem Post.bind {r : R β} {k : β → List Cell → R δ} {Q : ε → Hp → Prop} (h : Post T Wx rel' B G α σ (r.bind k) Q) :
    Post T Wx rel B G α σ r (fun c H1 => ∃ (b : β) (s1 : List Cell) (G1 : Hp) (α1 : List Addr), Ext B G α G1 α1 ∧ StM T B G1 H1 α1 s1 ∧ rel B G1 α1 H1 b c ∧ Post T Wx rel' B G1 α1 σ (k b s1) Q) := by
  cases r with
  | ok b s => exact fun G' α' H' c x S r => ⟨b, s, G', α', x, S, r, Post.ext h x⟩
  | ex z s => exact h
  | no => exact h
/-- the state between two steps -/
structure Mid (T : Tab) (Wx : WX) (rel' : Rel δ ε) (B G : Hp) (α : List Addr) (ρ : Env) (s : List Cell) (σ : L2.St) (H : Hp) (k : List Cell → R δ) (Q : ε → Hp → Prop) : Prop where
  S : StM T B G H α s
  E : EnvR T G α ρ σ
  P : Post T Wx rel' B G α σ (k s) Q
theorem rd_bind {f : Env → List Cell → R β} {k : Env → β → List Cell → R δ} {Q : ε → Hp → Prop} (h : rd T Wx rel' (fun ρ s => (f ρ s).bind (k ρ)) σ H Q) :
    rd T Wx rel f σ H (fun c H1 => ∃ (B G : Hp) (α : List Addr) (ρ : Env) (s : List Cell) (b : β), rel B G α H1 b c ∧ Mid T Wx rel' B G α ρ s σ H1 (k ρ b) Q) := by
  obtain ⟨B, G, α, ρ, s, S, E, P⟩ := h
  exact ⟨B, G, α, ρ, s, S, E, P.bind.mono fun c H1 ⟨b, s1, G1, α1, x, S1, r, P1⟩ => ⟨B, G1, α1, ρ, s1, b, r, S1, E.mono x, P1⟩⟩
/-- the second step -/
theorem Mid.step {f : Env → List Cell → R β} {k : β → List Cell → R δ} {Q : ε → Hp → Prop} {ρ : Env} {s : List Cell} (h : Mid T Wx rel' B G α ρ s σ H (fun s => (f ρ s).bind k) Q) :
    rd T Wx rel f σ H (fun c H1 => ∃ (G1 : Hp) (α1 : List Addr) (s1 : List Cell) (b : β), Ext B G α G1 α1 ∧ rel B G1 α1 H1 b c ∧ Mid T Wx rel' B G1 α1 ρ s1 σ H1 (k b) Q) :=
  ⟨B, G, α, ρ, s, h.S, h.E, h.P.bind.mono fun c H1 ⟨b, s1, G1, α1, x, S1, r, P1⟩ => ⟨G1, α1, s1, b, x, r, S1, h.E.mono x, P1⟩⟩
/-- a pure result, at once -/
theorem Post.now {b : β} {s : List Cell} {Q : γ → Hp → Prop} (h : Post T Wx rel B G α σ (.ok b s) Q) (S : StM T B G H α s) {c : γ} (r : rel B G α H b c) : Q c H := h G α H c Ext.refl' S r
theorem Post.at {b : β} {s : List Cell} {Q : γ → Hp → Prop} (h : Post T Wx rel B G α σ (.ok b s) Q) {G1 : Hp} {α1 : List Addr} {H1 : Hp} {c : γ} (x : Ext B G α G1 α1) (S : StM T B G1 H1 α1 s) (r : rel B G1 α1 H1 b c) : Q c H1 := h G1 α1 H1 c x S r
theorem Post.lift {o : Option β} {s : List Cell} {Q : γ → Hp → Prop} (h : Post T Wx rel B G α σ (lift o s) Q) : ∃ b, o = some b ∧ Post T Wx rel B G α σ (.ok b s) Q := by
  cases o with
  | none => exact h.elim
  | some b => exact ⟨b, rfl, h⟩
/-- a new tuple -/
theorem Post.tup {xs : List PyData} {vs : List V} {s : List Cell} {Q : VK} (h : Post T Wx (rW T) B G α σ (.ok (.d (.tuple xs)) s) Q) (S : StM T B G H α s) (d : DpAll T.K G vs xs) {p : Addr} (hp : H p = none) : Q (.ref p) (upd H p (.tup vs)) := by
  have hg := same_none S.gh hp
  exact h.at (Ext.pure hg (same_none S.bh hp)) (S.pure hp) (show Dp T.K _ _ _ from .tup (SqT.of upd_same) (DpAll.mono (Same.upd hg) _ _ d))
/-- a new list -/
theorem Post.lst {xs : List PyData} {vs : List V} {s : List Cell} {Q : VK} (h : Post T Wx (rF T) B G α σ (.ok xs s) Q) (S : StM T B G H α s) (d : DpAll T.K G vs xs) {p : Addr} (hp : H p = none) : Q (.ref p) (upd H p (.lst vs)) :=
  h.at Ext.refl' (S.beside hp) ⟨p, vs, rfl, upd_same, same_none S.gh hp, same_none S.bh hp, S.new_notin hp, d⟩
end

/-- a new list, known for good -/
theorem Post.lstD {T : Tab} {Wx : WX} {B G : Hp} {α : List Addr} {σ : L2.St} {H : Hp} {xs : List PyData} {vs : List V} {s : List Cell} {Q : VK} (h : Post T Wx (rW T) B G α σ (.ok (.d (.list xs)) s) Q) (S : StM T B G H α s) (d : DpAll T.K G vs xs) {p : Addr} (hp : H p = none) : Q (.ref p) (upd H p (.lst vs)) := by
  have hg := same_none S.gh hp
  exact h.at (Ext.pure hg (same_none S.bh hp)) (S.pure hp) (show Dp T.K _ _ _ from .lst (SqL.of upd_same) (DpAll.mono (Same.upd hg) _ _ d))
theorem PE_imp {X : Cx} {e : Expr} {t t' : TE} (h : PE X e t) (i : ∀ σ H Q, t' σ H Q → t σ H Q) : PE X e t' := ⟨fun pins s σ H Q I q => h.run pins s σ H Q I (i σ H Q q)⟩
theorem PT_imp {X : Cx} {e : Expr} {t t' : TT} (h : PT X e t) (i : ∀ σ H Q, t' σ H Q → t σ H Q) : PT X e t' := ⟨fun pins s σ H Q I q => h.run pins s σ H Q I (i σ H Q q)⟩
theorem PA_imp {X : Cx} {e : List Expr} {t t' : TA} (h : PA X e t) (i : ∀ σ H Q, t' σ H Q → t σ H Q) : PA X e t' := ⟨fun pos pins s σ H Q I q => h.run pos pins s σ H Q I (i σ H Q q)⟩
theorem PO_imp {X : Cx} {e : Option Expr} {t t' : TO} (h : PO X e t) (i : ∀ σ H Q, t' σ H Q → t σ H Q) : PO X e t' := ⟨fun pins s σ H Q I q => h.run pins s σ H Q I (i σ H Q q)⟩

/-! ### data of a form -/
section
variable {K : PySem.W.Frag} {G : Hp} {v : V}
theorem _root_.L2.Dp.int_inv {i : Int} (h : Dp K G v (.int i)) : v = .int i := by cases h; rfl
theorem _root_.L2.Dp.bl_inv {i : Bool} (h : Dp K G v (.bool i)) : v = .bl i := by cases h; rfl
theorem _root_.L2.Dp.str_inv {i : Str} (h : Dp K G v (.str i)) : v = .str i := by cases h; rfl
theorem _root_.L2.Dp.non_inv (h : Dp K G v .none) : v = .non := by cases h; rfl
theorem _root_.L2.Dp.tup_inv {l : List PyData} (h : Dp K G v (.tuple l)) : ∃ a vs, v = .ref a ∧ SqT K G a vs ∧ DpAll K G vs l := by cases h with | tup h1 h2 => exact ⟨_, _, rfl, h1, h2⟩
theorem _root_.L2.Dp.lst_inv {l : List PyData} (h : Dp K G v (.list l)) : ∃ a vs, v = .ref a ∧ SqL K G a vs ∧ DpAll K G vs l := by cases h with | lst h1 h2 => exact ⟨_, _, rfl, h1, h2⟩
theorem _root_.L2.DpAll.append {l m : List PyData} {vs us : List V} (h : DpAll K G vs l) (h' : DpAll K G us m) : DpAll K G (vs ++ us) (l ++ m) := by
  induction l generalizing vs with
  | nil => cases h; exact h'
  | cons x l ih => cases h with | cons h1 h2 => exact .cons h1 (ih h2)
theorem _root_.L2.DpAll.get {l : List PyData} {vs : List V} {i : Nat} {x : PyData} (h : DpAll K G vs l) (e : l[i]? = some x) : ∃ v, vs[i]? = some v ∧ Dp K G v x := by
  induction l generalizing vs i with
  | nil => simp at e
  | cons y l ih =>
    cases h with
    | cons h1 h2 =>
      cases i with
      | zero => simp at e; subst e; exact ⟨_, by simp, h1⟩
      | succ i => simp at e; obtain ⟨v, e1, e2⟩ := ih h2 e; exact ⟨v, by simpa using e1, e2⟩
theorem _root_.L2.DpAll.take {l : List PyData} {vs : List V} (n : Nat) (h : DpAll K G vs l) : DpAll K G (vs.take n) (l.take n) := by
  induction l generalizing vs n with
  | nil => cases h; simp; exact .nil
  | cons y l ih =>
    cases h with
    | cons h1 h2 =>
      cases n with
      | zero => simp; exact .nil
      | succ n => simp; exact .cons h1 (ih n h2)
theorem _root_.L2.DpAll.drop {l : List PyData} {vs : List V} (n : Nat) (h : DpAll K G vs l) : DpAll K G (vs.drop n) (l.drop n) := by
  induction l generalizing vs n with
  | nil => cases h; simp; exact .nil
  | cons y l ih =>
    cases h with
    | cons h1 h2 =>
      cases n with
      | zero => simp; exact .cons h1 h2
      | succ n => simp; exact ih n h2
theorem _root_.L2.DpAll.set {l : List PyData} {vs : List V} {x : PyData} {v : V} (n : Nat) (h : DpAll K G vs l) (hx : Dp K G v x) : DpAll K G (vs.set n v) (l.set n x) := by
  induction l generalizing vs n with
  | nil => cases h; simp; exact .nil
  | cons y l ih =>
    cases h with
    | cons h1 h2 =>
      cases n with
      | zero => simp; exact .cons hx h2
      | succ n => simp; exact .cons h1 (ih n h2)
theorem sIx_eq (n d : Nat) (o : Option Int) : sIx n d o = HT.sIx n d o := by cases o <;> rfl
theorem _root_.L2.DpAll.cut {l : List PyData} {vs : List V} (lo hi : Option Int) (h : DpAll K G vs l) : DpAll K G (cutV vs lo hi) (cut l lo hi) := by
  unfold cutV DM.cut
  rw [sIx_eq, sIx_eq, h.len]
  exact (h.drop _).take _
theorem ixD_eq (n : Nat) (i : Int) : ixD n i = ixN n i := rfl
theorem _root_.L2.DpAll.atI {l : List PyData} {vs : List V} {i : Int} {x : PyData} (h : DpAll K G vs l) (e : atD l i = some x) : ∃ v, atI vs i = some v ∧ Dp K G v x := by
  unfold atD at e
  unfold L2.atI
  rw [ixD_eq] at e
  rw [h.len]
  cases q : ixN l.length i with
  | none => rw [q] at e; cases e
  | some j => rw [q] at e; exact h.get e
end
theorem _root_.L2.DpAll.flatOf {K : PySem.W.Frag} {G : Hp} {vs : List V} {l : List PyData} (k : Nat) (h : DpAll K G vs l) : DpAll K G (List.replicate k vs).flatten (List.replicate k l).flatten := by
  induction k with
  | zero => simp; exact .nil
  | succ k ih => rw [List.replicate_succ, List.replicate_succ, List.flatten_cons, List.flatten_cons]; exact h.append ih

/-! ### the context -/
structure Cold (X : Cx) (T : Tab) (k : Nat) (Wx : WX) : Prop where
  hP : X.prog = T.P
  hw : X.w = T.w
  hK : X.K = T.K
  calm : X.calm = true
  room : Room k X.A
  tk : Takes X Wx
  hN : X.N.Nodup
theorem Cold.hu {X : Cx} {T : Tab} {k : Nat} {Wx : WX} (c : Cold X T k Wx) : X.A.units + 64 < cLine := c.room.units
theorem Cold.hu5 {X : Cx} {T : Tab} {k : Nat} {Wx : WX} (c : Cold X T k Wx) : X.A.units + 65 < cLine := by have := c.room.un; omega
/-- the table fits the written part -/
structure TabOk (T : Tab) : Prop where
  inj : ∀ i j, i < T.nf → j < T.nf → T.fn i = T.fn j → i = j
  lt : ∀ c f, T.has c f = true → f < T.nf
  na : ∀ c C f, T.cls c = some C → T.has c f = true → NoAttr T.K C (T.fn f)
  cl : ∀ c C f, T.cls c = some C → T.has c f = true → Cls T.K C
  mt : ∀ f m, f < T.nf → T.fn f ≠ T.mn m

/-! ### expressions -/
section
variable {X : Cx} {T : Tab} {k : Nat} {Wx : WX} {a b c : Expr} {pos : Pos} {fa fb fc : Env → List Cell → R W}
theorem d_var {i : Nat} {x : Str} (hN : X.N[i]? = some x) (hv : Vis X.env.scope x) (hd : (x == ("__debug__" : Str)) = false) (hcd : (x == ("__classdict__" : Str)) = false) :
    PE X (.Name x pos) (tE T Wx fun ρ s => match ρ[i]? with | some (some w) => .ok w s | _ => .no) :=
  PE_imp (pe_var hN hv hd hcd) fun σ H Q ⟨B, G, α, ρ, s, S, E, P⟩ => by
    simp only at P
    cases e : ρ[i]? with
    | none => rw [e] at P; exact P.elim
    | some o =>
      cases o with
      | none => rw [e] at P; exact P.elim
      | some w =>
        rw [e] at P
        obtain ⟨v, h1, h2⟩ := E.2 i w e
        exact ⟨v, h1, P.now S h2⟩
theorem d_cst {e : Expr} {x : PyData} {v : V} (h : PE X e (tC v)) (d : ∀ G, Dp T.K G v x) : PE X e (tE T Wx fun _ s => .ok (.d x) s) :=
  PE_imp h fun σ H Q ⟨B, G, α, ρ, s, S, E, P⟩ => P.now S (d G)

theorem see_tup {s : List Cell} {w : W} {l : List PyData} (h : see s w = some (.tuple l)) : w = .d (.tuple l) := by
  cases w with
  | d x => simpa [see] using h
  | h i =>
    simp only [see] at h
    split at h <;> cases h
  | o c fs => cases h
  | dc k => cases h
theorem see_tupR {B G H : Hp} {α : List Addr} {s : List Cell} (S : StM T B G H α s) {w : W} {x : PyData} {v : V} (h : see s w = some x) (r : RW T G α w v) : ∀ l, x = .tuple l → Dp T.K G v x := fun l e => by
  subst e
  rw [see_tup h] at r
  exact r
/-- the items of a list that is seen are known -/
theorem see_lst {B G H : Hp} {α : List Addr} {s : List Cell} (S : StM T B G H α s) {w : W} {l : List PyData} {v : V} (h : see s w = some (.list l)) (r : RW T G α w v) : ∃ a vs, v = .ref a ∧ SqL T.K H a vs ∧ DpAll T.K G vs l := by
  cases w with
  | d y =>
    cases h
    obtain ⟨a, vs, rfl, h1, h2⟩ := (show Dp T.K G v (.list l) from r).lst_inv
    exact ⟨a, vs, rfl, S.gh.seq h1, h2⟩
  | h i =>
    obtain ⟨a, ha, rfl⟩ := r
    simp only [see] at h
    cases e : s[i]? with
    | none => rw [e] at h; cases h
    | some c =>
      rw [e] at h
      have hc := S.cell i a c ha e
      cases c with
      | lst m =>
        cases h
        obtain ⟨hg, hb, vs, hH, hd⟩ := hc
        exact ⟨a, vs, rfl, SqL.of hH, hd⟩
      | fzl m =>
        cases h
        obtain ⟨vs, hG, hd⟩ := hc
        exact ⟨a, vs, rfl, SqL.of (S.gh _ _ hG), hd⟩
      | dct _ _ => cases h
      | ins _ _ => cases h
      | gone => cases h
  | o c fs => cases h
  | dc k => cases h
/-- two expressions, by values seen -/
theorem two_see {f : PyData → PyData → Option PyData} {σ : L2.St} {H : Hp} {Q : VK}
    (h : tE T Wx (fun ρ s => (fa ρ s).bind fun x s => (fb ρ s).bind fun y s => match see s x, see s y with | some x, some y => lift ((f x y).map .d) s | _, _ => .no) σ H Q) :
    tE T Wx fa σ H fun u H1 => tE T Wx fb σ H1 fun v H2 => ∃ (B G : Hp) (α : List Addr) (s : List Cell) (x y z : PyData), StM T B G H2 α s ∧ Dp T.K H2 u x ∧ Dp T.K H2 v y ∧ (∀ l, x = .tuple l → Dp T.K G u x) ∧ (∀ l, y = .tuple l → Dp T.K G v y) ∧ (∀ l, x = .list l → ∃ a vs, u = .ref a ∧ SqL T.K H2 a vs ∧ DpAll T.K G vs l) ∧ (∀ l, y = .list l → ∃ a vs, v = .ref a ∧ SqL T.K H2 a vs ∧ DpAll T.K G vs l) ∧ f x y = some z ∧ Post T Wx (rW T) B G α σ (.ok (.d z) s) Q := by
  obtain ⟨B, G, α, ρ, s, S, E, P⟩ := rd_bind (rel := rW T) (f := fa) (k := fun (ρ : Env) (x : W) s => (fb ρ s).bind fun (y : W) s => match see s x, see s y with | some x, some y => lift ((f x y).map W.d) s | _, _ => R.no) h
  refine ⟨B, G, α, ρ, s, S, E, P.mono fun u H1 ⟨B1, G1, α1, ρ1, s1, w1, r1, M⟩ => ?_⟩
  obtain ⟨B2, G2, α2, ρ2, s2, S2, E2, P2⟩ := M.step (rel := rW T) (f := fb)
  refine ⟨B2, G2, α2, ρ2, s2, S2, E2, P2.mono fun v H2 ⟨G3, α3, s3, w3, x3, r3, M3⟩ => ?_⟩
  have P3 := M3.P
  cases e1 : see s3 w1 with
  | none => rw [e1] at P3; exact P3.elim
  | some x =>
    cases e2 : see s3 w3 with
    | none => rw [e1, e2] at P3; exact P3.elim
    | some y =>
      rw [e1, e2] at P3
      obtain ⟨z, hz, P4⟩ := P3.lift
      cases e3 : f x y with
      | none => rw [e3] at hz; cases hz
      | some z' =>
        rw [e3] at hz
        cases hz
        exact ⟨B1, G3, α3, s3, x, y, z', M3.S, see_ok M3.S e1 (x3.rw r1), see_ok M3.S e2 r3, see_tupR M3.S e1 (x3.rw r1), see_tupR M3.S e2 r3, fun l e => see_lst M3.S (by rw [e1, e]) (x3.rw r1), fun l e => see_lst M3.S (by rw [e2, e]) r3, e3, P4⟩
theorem divOk_ok {i j : Int} (h : divOk j = true) : CDivW i j := by
  simp only [divOk, Bool.and_eq_true, decide_eq_true_eq] at h
  exact wide_div (b := 63) h.1 (by omega) (by decide) (by decide)
theorem mulOk_ok {i j : Int} (h : mulOk i j = true) : CMul i j := by
  simpa [mulOk, CMul, Bool.or_eq_true, Bool.and_eq_true] using h
theorem powOk_ok {i j : Int} (h : powOk i j = true) : CPow i j := by
  simp only [powOk, Bool.and_eq_true, decide_eq_true_eq] at h
  exact ⟨h.1.1, h.1.2, h.2⟩
def rCatS (K : PySem.W.Frag) : R2 := fun x y H Q => ∃ l b xs zs, x = .ref l ∧ y = .ref b ∧ SqL K H l xs ∧ SqL K H b zs ∧ xs.length + zs.length ≤ sizeLine ∧ ∀ p, H p = none → Q (.ref p) (upd H p (.lst (xs ++ zs)))
theorem op_catS : OpR X (binaryOp .Add) (rCatS X.K) := by
  intro pins s σ H x y v u Q I rx ry h
  obtain ⟨l, b', xs, zs, rfl, rfl, hH, hB, hz, q⟩ := h
  have rx' : v = Value.ref l := rx
  have ry' : u = Value.ref b' := ry
  rw [rx', ry']
  obtain ⟨its, r, pl, z⟩ := I.list hH
  obtain ⟨its2, r2, pl2, z2⟩ := I.list hB
  have hl := r.length
  have hl2 := r2.length
  obtain ⟨⟨cls, dd, data, sl⟩, ho, hc, n, hd⟩ := pl.isList
  obtain ⟨⟨cls2, dd2, data2, sl2⟩, ho2, hc2, n2, hd2⟩ := pl2.isList
  simp only at hc hd hc2 hd2
  subst hc hd hc2 hd2
  have e : its.toArray ++ its2.toArray = (its ++ its2).toArray := by simp
  refine concat_meets ⟨_, ho, rfl⟩ ⟨_, ho2, rfl⟩ noFill_list_add seq_list_add PySem.F.slot_list_add PySem.F.entry_list_add (PySem.F.args_list_add_2 _ _) (PyProof.Rows.list_addW l b' its.toArray its2.toArray n n2 dd dd2 sl sl2 (by simp; omega)) ⟨ho, ho2, ?_⟩
  rw [e]
  exact ⟨.ref _, _, I.lnew (t' := s.toks) (r.append r2) (by rw [List.length_append]; omega), rfl, q _ I.fresh⟩
def opOf : BinK → Operator
  | .add => .Add
  | .sub => .Sub
  | .mul => .Mult
  | .fdiv => .FloorDiv
  | .mod => .Mod
  | .pow => .Pow
def rBin (K : PySem.W.Frag) : BinK → R2
  | .add => fun x y H Q => rI0 (fun i j => .int (i + j)) x y H Q ∨ rCatA K x y H Q ∨ rCatS K x y H Q
  | .sub => rI0 fun i j => .int (i - j)
  | .mul => rI CMul fun i j => .int (i * j)
  | .fdiv => rI CDivW fun i j => .int (i / j)
  | .mod => rI (fun _ j => 0 < j) fun i j => .int (i % j)
  | .pow => rI CPow fun i j => .int (i ^ j.toNat)
theorem op_bin (op : BinK) : OpR X (binaryOp (opOf op)) (rBin X.K op) := by
  cases op with
  | add => exact op_add.or (op_catA.or op_catS)
  | sub => exact op_sub
  | mul => exact op_mul
  | fdiv => exact op_fdivW
  | mod => exact op_mod
  | pow => exact op_pow
theorem bin_fin {op : BinK} {B G H : Hp} {α : List Addr} {s : List Cell} {σ : L2.St} {u v : V} {x y z : PyData} {Q : VK} (S : StM T B G H α s) (hx : Dp T.K H u x) (hy : Dp T.K H v y) (h : binD op x y = some z)
    (gx : ∀ l, x = .tuple l → Dp T.K G u x) (gy : ∀ l, y = .tuple l → Dp T.K G v y)
    (lx : ∀ l, x = .list l → ∃ a vs, u = .ref a ∧ SqL T.K H a vs ∧ DpAll T.K G vs l) (ly : ∀ l, y = .list l → ∃ a vs, v = .ref a ∧ SqL T.K H a vs ∧ DpAll T.K G vs l)
    (P : Post T Wx (rW T) B G α σ (.ok (.d z) s) Q) : rBin T.K op u v H Q := by
  cases op with
  | add =>
    cases x with
    | int i =>
      cases y with
      | int j =>
        cases h
        obtain rfl := hx.int_inv
        obtain rfl := hy.int_inv
        exact .inl ⟨i, j, rfl, rfl, P.now S (.int _)⟩
      | _ => cases h
    | tuple l =>
      cases y with
      | tuple m =>
        simp only [binD] at h
        split at h
        · rename_i hz
          cases h
          have gx := gx _ rfl
          have gy := gy _ rfl
          obtain ⟨a1, vs, rfl, h1, d1⟩ := gx.tup_inv
          obtain ⟨a2, us, rfl, h2, d2⟩ := gy.tup_inv
          refine .inr (.inl ⟨a1, a2, vs, us, rfl, rfl, Same.seqT S.gh h1, Same.seqT S.gh h2, by rw [d1.len, d2.len]; exact hz, fun e => ?_, fun _ e => ?_, fun _ _ p hp => ?_⟩)
          · subst e
            cases d1
            exact P.now S (show Dp T.K G _ _ by simpa using gy)
          · subst e
            cases d2
            exact P.now S (show Dp T.K G _ _ by simpa using gx)
          · exact P.tup S (d1.append d2) hp
        · cases h
      | _ => cases h
    | list l =>
      cases y with
      | list m =>
        simp only [binD] at h
        split at h
        · rename_i hz
          cases h
          obtain ⟨a1, vs, rfl, h1, d1⟩ := lx _ rfl
          obtain ⟨a2, us, rfl, h2, d2⟩ := ly _ rfl
          exact .inr (.inr ⟨a1, a2, vs, us, rfl, rfl, h1, h2, by rw [d1.len, d2.len]; exact hz, fun p hp => P.lstD S (d1.append d2) hp⟩)
        · cases h
      | _ => cases h
    | _ => cases h
  | sub =>
    cases x with
    | int i =>
      cases y with
      | int j =>
        cases h
        obtain rfl := hx.int_inv
        obtain rfl := hy.int_inv
        exact ⟨i, j, rfl, rfl, P.now S (.int _)⟩
      | _ => cases h
    | _ => cases h
  | mul =>
    cases x with
    | int i =>
      cases y with
      | int j =>
        simp only [binD] at h
        split at h
        · rename_i hz
          cases h
          obtain rfl := hx.int_inv
          obtain rfl := hy.int_inv
          exact ⟨i, j, rfl, rfl, mulOk_ok hz, P.now S (.int _)⟩
        · cases h
      | _ => cases h
    | _ => cases h
  | fdiv =>
    cases x with
    | int i =>
      cases y with
      | int j =>
        simp only [binD] at h
        split at h
        · rename_i hz
          cases h
          obtain rfl := hx.int_inv
          obtain rfl := hy.int_inv
          exact ⟨i, j, rfl, rfl, divOk_ok hz, P.now S (.int _)⟩
        · cases h
      | _ => cases h
    | _ => cases h
  | mod =>
    cases x with
    | int i =>
      cases y with
      | int j =>
        simp only [binD] at h
        split at h
        · rename_i hz
          cases h
          obtain rfl := hx.int_inv
          obtain rfl := hy.int_inv
          exact ⟨i, j, rfl, rfl, of_decide_eq_true hz, P.now S (.int _)⟩
        · cases h
      | _ => cases h
    | _ => cases h
  | pow =>
    cases x with
    | int i =>
      cases y with
      | int j =>
        simp only [binD] at h
        split at h
        · rename_i hz
          cases h
          obtain rfl := hx.int_inv
          obtain rfl := hy.int_inv
          exact ⟨i, j, rfl, rfl, powOk_ok hz, P.now S (.int _)⟩
        · cases h
      | _ => cases h
    | _ => cases h
theorem d_bin (hK : X.K = T.K) (op : BinK) (ha : PE X a (tE T Wx fa)) (hb : PE X b (tE T Wx fb)) :
    PE X (.BinOp a (opOf op) b pos) (tE T Wx fun ρ s => (fa ρ s).bind fun x s => (fb ρ s).bind fun y s => match see s x, see s y with | some x, some y => lift ((binD op x y).map .d) s | _, _ => .no) :=
  PE_imp (pe_op (hK ▸ op_bin op) ha hb) fun σ H Q h => by
    obtain ⟨B, G, α, ρ, s, S, E, P⟩ := two_see (f := binD op) h
    refine ⟨B, G, α, ρ, s, S, E, P.mono fun u H1 ⟨B, G, α, ρ, s, S, E, P⟩ => ⟨B, G, α, ρ, s, S, E, P.mono fun v H2 ⟨B, G, α, s, x, y, z, S, hx, hy, gx, gy, lx, ly, e, P⟩ => ?_⟩⟩
    exact bin_fin S hx hy e gx gy lx ly P
/-! ### comparisons -/
def cmpOf : CmpK → CmpOp
  | .eq => .Eq
  | .ne => .NotEq
  | .lt => .Lt
  | .le => .LtE
  | .gt => .Gt
  | .ge => .GtE
  | .isN => .Is
  | .notN => .IsNot
  | .in_ => .In
  | .notIn => .NotIn
theorem intsOf_map : ∀ {l : List PyData} {ns : List Int}, intsOf l = some ns → l = ns.map .int
  | [], ns, h => by cases h; rfl
  | x :: r, ns, h => by
    cases x with
    | int i =>
      simp only [intsOf] at h
      cases e : intsOf r with
      | none => rw [e] at h; cases h
      | some ms => rw [e] at h; cases h; rw [intsOf_map e]; rfl
    | _ => cases h
theorem ints_vs {K : PySem.W.Frag} {G : Hp} : ∀ {ns : List Int} {vs : List V}, DpAll K G vs (ns.map .int) → vs = ns.map V.int
  | [], vs, h => by cases h; rfl
  | n :: ns, vs, h => by
    cases h with
    | cons h1 h2 => rw [h1.int_inv, ints_vs h2]; rfl
def rCmp (K : PySem.W.Frag) : CmpK → R2
  | .eq => rEqD K
  | .ne => rNeD K
  | .lt => fun x y H Q => rI0 (fun i j => .bl (decide (i < j))) x y H Q ∨ rLtT K x y H Q
  | .le => rI0 fun i j => .bl (decide (i ≤ j))
  | .gt => rI0 fun i j => .bl (decide (j < i))
  | .ge => rI0 fun i j => .bl (decide (j ≤ i))
  | .isN => fun x y H Q => y = .non ∧ Q (.bl (decide (x = .non))) H
  | .notN => fun x y H Q => y = .non ∧ Q (.bl (!decide (x = .non))) H
  | .in_ => rInD K
  | .notIn => rNotInD K
theorem op_cmp (hu : X.A.units + 65 < cLine) (op : CmpK) : OpR X (compareOp (cmpOf op)) (rCmp X.K op) := by
  cases op with
  | eq => exact op_eqD (by omega)
  | ne => exact op_neD (by omega)
  | lt => exact OpR.or op_lt (op_ltT (by omega))
  | le => exact op_le
  | gt => exact op_gt
  | ge => exact op_ge
  | isN => exact op_isN
  | notN => exact op_notN
  | in_ => exact op_inD hu
  | notIn => exact op_notInD hu
theorem isNone_ok {K : PySem.W.Frag} {G : Hp} {v : V} {x : PyData} (h : Dp K G v x) : decide (v = .non) = isNone x := by
  cases h <;> simp [isNone]
theorem shaped_int (i : Int) : SeqAt.shaped (.int i) = true := by simp [SeqAt.shaped, PyData.canLay0, PyData.depth]
/-- what a comparison's reading asks -/
theorem cmp_fin {op : CmpK} {H : Hp} {u v : V} {x y : PyData} {z : Bool} {Q : VK} (hx : Dp T.K H u x) (hy : Dp T.K H v y) (h : cmpD op x y = some z) (q : Q (.bl z) H) : rCmp T.K op u v H Q := by
  have gen : ∀ {op}, (op = .eq ∨ op = .ne) → cmpD op x y = some z → okD x = true ∧ okD y = true ∧ z = (if op = .eq then x.eqv y else !x.eqv y) := by
    intro op ho h
    have e1 : ∀ i j, x = .int i → y = .int j → okD x = true ∧ okD y = true ∧ z = (if op = .eq then x.eqv y else !x.eqv y) := by
      rintro i j rfl rfl
      refine ⟨shaped_int i, shaped_int j, ?_⟩
      rcases ho with rfl | rfl <;> (simp only [cmpD, Option.some.injEq] at h; rw [← h]; simp [PyData.eqv, Bool.beq_eq_decide_eq])
    rcases ho with rfl | rfl
    · cases x <;> cases y <;> first
        | exact e1 _ _ rfl rfl
        | (simp only [cmpD] at h
           split at h
           · rename_i hz
             rw [Bool.and_eq_true] at hz
             cases h
             exact ⟨hz.1, hz.2, rfl⟩
           · cases h)
    · cases x <;> cases y <;> first
        | exact e1 _ _ rfl rfl
        | (simp only [cmpD] at h
           split at h
           · rename_i hz
             rw [Bool.and_eq_true] at hz
             cases h
             exact ⟨hz.1, hz.2, rfl⟩
           · cases h)
  cases op with
  | eq =>
    obtain ⟨h1, h2, h3⟩ := gen (.inl rfl) h
    exact ⟨x, y, hx, hy, h1, h2, by rw [h3] at q; exact q⟩
  | ne =>
    obtain ⟨h1, h2, h3⟩ := gen (.inr rfl) h
    exact ⟨x, y, hx, hy, h1, h2, by rw [h3] at q; exact q⟩
  | lt =>
    cases x <;> cases y <;> first
      | (cases h; obtain rfl := hx.int_inv; obtain rfl := hy.int_inv; exact .inl ⟨_, _, rfl, rfl, q⟩)
      | (simp only [cmpD] at h
         split at h
         · rename_i a b ns ms e1 e2
           cases h
           obtain ⟨u', us, rfl, h1, h2⟩ := hx.tup_inv
           obtain ⟨v', vs, rfl, g1, g2⟩ := hy.tup_inv
           rw [intsOf_map e1] at h2
           rw [intsOf_map e2] at g2
           rw [ints_vs h2] at h1
           rw [ints_vs g2] at g1
           exact .inr ⟨u', v', ns, ms, rfl, rfl, h1, g1, q⟩
         · cases h)
      | cases h
  | le =>
    cases x <;> cases y <;> first
      | (cases h; obtain rfl := hx.int_inv; obtain rfl := hy.int_inv; exact ⟨_, _, rfl, rfl, q⟩)
      | cases h
  | gt =>
    cases x <;> cases y <;> first
      | (cases h; obtain rfl := hx.int_inv; obtain rfl := hy.int_inv; exact ⟨_, _, rfl, rfl, q⟩)
      | cases h
  | ge =>
    cases x <;> cases y <;> first
      | (cases h; obtain rfl := hx.int_inv; obtain rfl := hy.int_inv; exact ⟨_, _, rfl, rfl, q⟩)
      | cases h
  | isN =>
    cases y with
    | none =>
      obtain rfl := hy.non_inv
      refine ⟨rfl, ?_⟩
      rw [isNone_ok hx]
      simp only [cmpD, Option.some.injEq] at h
      rw [h]
      exact q
    | _ => cases x <;> cases h
  | notN =>
    cases y with
    | none =>
      obtain rfl := hy.non_inv
      refine ⟨rfl, ?_⟩
      rw [isNone_ok hx]
      simp only [cmpD, Option.some.injEq] at h
      rw [h]
      exact q
    | _ => cases x <;> cases h
  | in_ =>
    cases y with
    | list l =>
      simp only [cmpD] at h
      split at h
      · rename_i hz
        rw [Bool.and_eq_true] at hz
        cases h
        exact ⟨x, l, hx, hy, hz.1, hz.2, q⟩
      · cases h
    | _ => cases x <;> cases h
  | notIn =>
    cases y with
    | list l =>
      simp only [cmpD] at h
      split at h
      · rename_i hz
        rw [Bool.and_eq_true] at hz
        cases h
        exact ⟨x, l, hx, hy, hz.1, hz.2, q⟩
      · cases h
    | _ => cases x <;> cases h
/-- a comparison's function -/
def fCmp (op : CmpK) (fa fb : Env → List Cell → R W) : Env → List Cell → R W := fun ρ s => (fa ρ s).bind fun x s => (fb ρ s).bind fun y s => match see s x, see s y with
  | some x, some y => lift ((cmpD op x y).map fun b => .d (.bool b)) s
  | _, _ => .no
theorem cmp_read {op : CmpK} {σ : L2.St} {H : Hp} {Q : VK} (h : tE T Wx (fCmp op fa fb) σ H Q) : tOp (rCmp T.K op) (tE T Wx fa) (tE T Wx fb) σ H fun x H1 => ∃ k, x = .bl k ∧ Q (.bl k) H1 := by
  have h' : tE T Wx (fun ρ s => (fa ρ s).bind fun x s => (fb ρ s).bind fun y s => match see s x, see s y with | some x, some y => lift (((cmpD op x y).map PyData.bool).map W.d) s | _, _ => .no) σ H Q := by
    obtain ⟨B, G, α, ρ, s, S, E, P⟩ := h
    refine ⟨B, G, α, ρ, s, S, E, ?_⟩
    simp only [fCmp] at P
    simpa only [Option.map_map, Function.comp_def] using P
  obtain ⟨B, G, α, ρ, s, S, E, P⟩ := two_see (f := fun x y => (cmpD op x y).map PyData.bool) h'
  refine ⟨B, G, α, ρ, s, S, E, P.mono fun u H1 ⟨B, G, α, ρ, s, S, E, P⟩ => ⟨B, G, α, ρ, s, S, E, P.mono fun v H2 ⟨B, G, α, s, x, y, z, S, hx, hy, gx, gy, lx, ly, e, P⟩ => ?_⟩⟩
  cases e1 : cmpD op x y with
  | none => rw [e1] at e; cases e
  | some k =>
    rw [e1] at e
    cases e
    exact cmp_fin hx hy e1 ⟨k, rfl, P.now S (show Dp T.K _ _ _ from .bl k)⟩
theorem rCmp_mono {K : PySem.W.Frag} {op : CmpK} {x y : V} {H : Hp} {Q Q' : VK} (h : rCmp K op x y H Q) (i : ∀ v H, Q v H → Q' v H) : rCmp K op x y H Q' := by
  cases op with
  | eq => obtain ⟨d, e, h1, h2, h3, h4, q⟩ := h; exact ⟨d, e, h1, h2, h3, h4, i _ _ q⟩
  | ne => obtain ⟨d, e, h1, h2, h3, h4, q⟩ := h; exact ⟨d, e, h1, h2, h3, h4, i _ _ q⟩
  | lt =>
    rcases h with ⟨d, e, h1, h2, q⟩ | ⟨a, b, ns, ms, h1, h2, h3, h4, q⟩
    · exact .inl ⟨d, e, h1, h2, i _ _ q⟩
    · exact .inr ⟨a, b, ns, ms, h1, h2, h3, h4, i _ _ q⟩
  | le => obtain ⟨d, e, h1, h2, q⟩ := h; exact ⟨d, e, h1, h2, i _ _ q⟩
  | gt => obtain ⟨d, e, h1, h2, q⟩ := h; exact ⟨d, e, h1, h2, i _ _ q⟩
  | ge => obtain ⟨d, e, h1, h2, q⟩ := h; exact ⟨d, e, h1, h2, i _ _ q⟩
  | isN => exact ⟨h.1, i _ _ h.2⟩
  | notN => exact ⟨h.1, i _ _ h.2⟩
  | in_ => obtain ⟨d, e, h1, h2, h3, h4, q⟩ := h; exact ⟨d, e, h1, h2, h3, h4, i _ _ q⟩
  | notIn => obtain ⟨d, e, h1, h2, h3, h4, q⟩ := h; exact ⟨d, e, h1, h2, h3, h4, i _ _ q⟩
theorem tE_mono {f : Env → List Cell → R W} {σ : L2.St} {H : Hp} {Q Q' : VK} (h : tE T Wx f σ H Q) (i : ∀ v H, Q v H → Q' v H) : tE T Wx f σ H Q' := by
  obtain ⟨B, G, α, ρ, s, S, E, P⟩ := h
  exact ⟨B, G, α, ρ, s, S, E, P.mono i⟩
theorem d_cmp (hK : X.K = T.K) (hu : X.A.units + 65 < cLine) (op : CmpK) (ha : PE X a (tE T Wx fa)) (hb : PE X b (tE T Wx fb)) (hm : behindInMarks (cmpOf op) b = false) : PE X (.Compare a [cmpOf op] [b] pos) (tE T Wx (fCmp op fa fb)) :=
  PE_imp (pe_cmpR (hK ▸ op_cmp hu op) ha hb hm) fun σ H Q h => by
    have q := cmp_read h
    exact tE_mono q fun u H1 q => tE_mono q fun v H2 q => rCmp_mono q fun w H3 ⟨k, e, q⟩ => by rw [e]; exact q
/-- as a test -/
def fT (f : Env → List Cell → R W) : Env → List Cell → R Bool := fun ρ s => (f ρ s).bind tt
theorem tT_of {f : Env → List Cell → R W} {σ : L2.St} {H : Hp} {Q : Bool → Hp → Prop} (h : tT T Wx (fT f) σ H Q) : tE T Wx f σ H fun x H1 => ∃ k, x = .bl k ∧ Q k H1 := by
  obtain ⟨B, G, α, ρ, s, S, E, P⟩ := h
  refine ⟨B, G, α, ρ, s, S, E, ?_⟩
  simp only [fT] at P
  cases e : f ρ s with
  | ok w s1 =>
    rw [e] at P
    intro G1 α1 H1 v x S1 r
    simp only [R.bind_ok] at P
    cases w with
    | d y =>
      cases y with
      | bool k =>
        obtain rfl := (show Dp T.K _ _ _ from r).bl_inv
        exact ⟨k, rfl, P G1 α1 H1 k x S1 rfl⟩
      | _ => exact P.elim
    | _ => exact P.elim
  | ex z s1 => rw [e] at P; exact P
  | no => rw [e] at P; exact P
theorem d_cmpT (hK : X.K = T.K) (hu : X.A.units + 65 < cLine) (op : CmpK) (ha : PE X a (tE T Wx fa)) (hb : PE X b (tE T Wx fb)) (hm : behindInMarks (cmpOf op) b = false) : PT X (.Compare a [cmpOf op] [b] pos) (tT T Wx (fT (fCmp op fa fb))) :=
  PT_imp (pt_cmpR (hK ▸ op_cmp hu op) ha hb hm) fun σ H Q h => by
    have q := cmp_read (tT_of h)
    show tE T Wx fa σ H _
    exact tE_mono q fun u H1 q => tE_mono q fun v H2 q => rCmp_mono q fun w H3 ⟨k, e, k', e', q⟩ => by
      cases e'
      exact ⟨k, e, q⟩
/-- another expression that gives True or False, as a test -/
theorem d_val {e : Expr} {f : Env → List Cell → R W} (h : PE X e (tE T Wx f)) (he : ∀ whole, isTrue e X.env whole = (do let v ← whole; standAt e.pos; holding [v] (truthy v))) : PT X e (tT T Wx (fT f)) :=
  PT_imp (pt_val h he) fun σ H Q q => tT_of q
end
end DM

set_option maxRecDepth 100000
/-! DM4: tests, displays, places, fields. -/
namespace DM
open PySem PySem.Spec PyProof.Rows L2
section
variable {X : Cx} {T : Tab} {k : Nat} {Wx : WX} {a b c : Expr} {pos : Pos} {fa fb fc : Env → List Cell → R W}
theorem R.bind_assoc {β γ δ : Type} (r : R β) (f : β → List Cell → R γ) (g : γ → List Cell → R δ) : (r.bind f).bind g = r.bind fun b s => (f b s).bind g := by cases r <;> rfl
theorem rd_congr {β γ : Type} {rel : Rel β γ} {f g : Env → List Cell → R β} {σ : L2.St} {H : Hp} {Q : γ → Hp → Prop} (h : rd T Wx rel f σ H Q) (e : ∀ ρ s, f ρ s = g ρ s) : rd T Wx rel g σ H Q := by
  obtain ⟨B, G, α, ρ, s, S, E, P⟩ := h
  exact ⟨B, G, α, ρ, s, S, E, by rw [← e]; exact P⟩
theorem rd_mono {β γ : Type} {rel : Rel β γ} {f : Env → List Cell → R β} {σ : L2.St} {H : Hp} {Q Q' : γ → Hp → Prop} (h : rd T Wx rel f σ H Q) (i : ∀ v H, Q v H → Q' v H) : rd T Wx rel f σ H Q' := by
  obtain ⟨B, G, α, ρ, s, S, E, P⟩ := h
  exact ⟨B, G, α, ρ, s, S, E, P.mono i⟩
theorem rd_of {β γ : Type} {rel : Rel β γ} {B G : Hp} {α : List Addr} {ρ : Env} {s : List Cell} {σ : L2.St} {H : Hp} {f : Env → List Cell → R β} {Q : γ → Hp → Prop} (M : Mid T Wx rel B G α ρ s σ H (f ρ) Q) : rd T Wx rel f σ H Q := ⟨B, G, α, ρ, s, M.S, M.E, M.P⟩
/-! ### and, or, not -/
def fAnd (fa fb : Env → List Cell → R W) : Env → List Cell → R W := fun ρ s => (fa ρ s).bind fun x s => (tt x s).bind fun c s => if c then fb ρ s else .ok (.d (.bool false)) s
def fOr (fa fb : Env → List Cell → R W) : Env → List Cell → R W := fun ρ s => (fa ρ s).bind fun x s => (tt x s).bind fun c s => if c then .ok (.d (.bool true)) s else fb ρ s
def fNot (fa : Env → List Cell → R W) : Env → List Cell → R W := fun ρ s => (fa ρ s).bind fun x s => (tt x s).bind fun c s => .ok (.d (.bool (!c))) s
def fIte (fc fa fb : Env → List Cell → R W) : Env → List Cell → R W := fun ρ s => (fc ρ s).bind fun x s => (tt x s).bind fun c s => if c then fa ρ s else fb ρ s
theorem tt_bool (k : Bool) (s : List Cell) : tt (.d (.bool k)) s = .ok k s := rfl
theorem fT_and (ρ : Env) (s : List Cell) : fT (fAnd fa fb) ρ s = (fT fa ρ s).bind fun c s => if c then fT fb ρ s else .ok false s := by
  simp only [fT, fAnd, R.bind_assoc]
  congr; funext x s; congr; funext c s
  cases c <;> simp [tt_bool]
theorem fT_or (ρ : Env) (s : List Cell) : fT (fOr fa fb) ρ s = (fT fa ρ s).bind fun c s => if c then .ok true s else fT fb ρ s := by
  simp only [fT, fOr, R.bind_assoc]
  congr; funext x s; congr; funext c s
  cases c <;> simp [tt_bool]
theorem fT_not (ρ : Env) (s : List Cell) : fT (fNot fa) ρ s = (fT fa ρ s).bind fun c s => .ok (!c) s := by
  simp only [fT, fNot, R.bind_assoc]
  congr
theorem fAnd_eq (ρ : Env) (s : List Cell) : fAnd fa fb ρ s = (fT fa ρ s).bind fun c s => if c then fb ρ s else .ok (.d (.bool false)) s := by
  simp only [fT, fAnd, R.bind_assoc]
theorem fOr_eq (ρ : Env) (s : List Cell) : fOr fa fb ρ s = (fT fa ρ s).bind fun c s => if c then .ok (.d (.bool true)) s else fb ρ s := by
  simp only [fT, fOr, R.bind_assoc]
theorem fNot_eq (ρ : Env) (s : List Cell) : fNot fa ρ s = (fT fa ρ s).bind fun c s => .ok (.d (.bool (!c))) s := by
  simp only [fT, fNot, R.bind_assoc]
theorem fIte_eq (ρ : Env) (s : List Cell) : fIte fc fa fb ρ s = (fT fc ρ s).bind fun c s => if c then fa ρ s else fb ρ s := by
  simp only [fT, fIte, R.bind_assoc]
/-- a test, then the rest -/
theorem test_bind {δ ε : Type} {rel' : Rel δ ε} {f : Env → List Cell → R Bool} {k : Env → Bool → List Cell → R δ} {σ : L2.St} {H : Hp} {Q : ε → Hp → Prop} (h : rd T Wx rel' (fun ρ s => (f ρ s).bind (k ρ)) σ H Q) :
    tT T Wx f σ H fun c H1 => rd T Wx rel' (fun ρ s => k ρ c s) σ H1 Q := by
  refine rd_mono (rd_bind (rel := rB) h) fun c H1 ⟨B, G, α, ρ, s, b, r, M⟩ => ?_
  obtain rfl : b = c := r
  exact ⟨B, G, α, ρ, s, M.S, M.E, M.P⟩
theorem d_andT {rest : List Expr} {q : Expr} (ha : PT X a (tT T Wx (fT fa))) (hb : PW X (.BoolOp .And (b :: rest) pos) (tT T Wx (fT fb))) : PW X (.BoolOp .And (a :: b :: rest) pos) (tT T Wx (fT (fAnd fa fb))) := by
  have h := pw_and ha hb
  refine ⟨fun wh pins s σ H Q I q => h.run wh pins s σ H Q I ?_⟩
  have q2 := test_bind (f := fT fa) (k := fun ρ c s => if c then fT fb ρ s else .ok false s) (rd_congr q fT_and)
  refine rd_mono q2 fun c H1 q3 => ?_
  cases c with
  | true => exact iteT (rd_congr q3 fun _ _ => by simp)
  | false =>
    obtain ⟨B, G, α, ρ, s, S, E, P⟩ := q3
    exact iteF (P.now S rfl)
theorem d_orT {rest : List Expr} (ha : PT X a (tT T Wx (fT fa))) (hb : PW X (.BoolOp .Or (b :: rest) pos) (tT T Wx (fT fb))) : PW X (.BoolOp .Or (a :: b :: rest) pos) (tT T Wx (fT (fOr fa fb))) := by
  have h := pw_or ha hb
  refine ⟨fun wh pins s σ H Q I q => h.run wh pins s σ H Q I ?_⟩
  have q2 := test_bind (f := fT fa) (k := fun ρ c s => if c then .ok true s else fT fb ρ s) (rd_congr q fT_or)
  refine rd_mono q2 fun c H1 q3 => ?_
  cases c with
  | false => exact iteF (rd_congr q3 fun _ _ => by simp)
  | true =>
    obtain ⟨B, G, α, ρ, s, S, E, P⟩ := q3
    exact iteT (P.now S rfl)
theorem d_notT (ha : PT X a (tT T Wx (fT fa))) : PT X (.UnaryOp .Not a pos) (tT T Wx (fT (fNot fa))) :=
  PT_imp (pt_not ha) fun σ H Q q => by
    have q2 := test_bind (f := fT fa) (k := fun ρ c s => .ok (!c) s) (rd_congr q fT_not)
    exact rd_mono q2 fun c H1 ⟨B, G, α, ρ, s, S, E, P⟩ => P.now S rfl
theorem tE_bl {f : Env → List Cell → R W} {σ : L2.St} {H : Hp} {Q : Bool → Hp → Prop} (h : tT T Wx (fT f) σ H Q) : tE T Wx f σ H fun x H1 => ∃ c, x = .bl c ∧ Q c H1 := tT_of h
theorem d_and {rest : List Expr} (ha : PE X a (tE T Wx fa)) (hb : PE X (.BoolOp .And (b :: rest) pos) (tE T Wx fb)) : PE X (.BoolOp .And (a :: b :: rest) pos) (tE T Wx (fAnd fa fb)) :=
  PE_imp (pe_and ha hb) fun σ H Q q => by
    have q2 := test_bind (f := fT fa) (k := fun ρ c s => if c then fb ρ s else .ok (.d (.bool false)) s) (rd_congr q fAnd_eq)
    refine tE_mono (tE_bl q2) fun x H1 ⟨c, e, q3⟩ => ⟨c, e, ?_⟩
    cases c with
    | true => exact iteT (rd_congr q3 fun _ _ => by simp)
    | false =>
      obtain ⟨B, G, α, ρ, s, S, E, P⟩ := q3
      exact iteF (P.now S (show Dp T.K _ _ _ from .bl _))
theorem d_or {rest : List Expr} (ha : PE X a (tE T Wx fa)) (hb : PE X (.BoolOp .Or (b :: rest) pos) (tE T Wx fb)) : PE X (.BoolOp .Or (a :: b :: rest) pos) (tE T Wx (fOr fa fb)) :=
  PE_imp (pe_or ha hb) fun σ H Q q => by
    have q2 := test_bind (f := fT fa) (k := fun ρ c s => if c then .ok (.d (.bool true)) s else fb ρ s) (rd_congr q fOr_eq)
    refine tE_mono (tE_bl q2) fun x H1 ⟨c, e, q3⟩ => ⟨c, e, ?_⟩
    cases c with
    | false => exact iteF (rd_congr q3 fun _ _ => by simp)
    | true =>
      obtain ⟨B, G, α, ρ, s, S, E, P⟩ := q3
      exact iteT (P.now S (show Dp T.K _ _ _ from .bl _))
theorem d_not (ha : PE X a (tE T Wx fa)) : PE X (.UnaryOp .Not a pos) (tE T Wx (fNot fa)) :=
  PE_imp (pe_not ha) fun σ H Q q => by
    have q2 := test_bind (f := fT fa) (k := fun ρ c s => .ok (.d (.bool (!c))) s) (rd_congr q fNot_eq)
    exact tE_mono (tE_bl q2) fun x H1 ⟨c, e, B, G, α, ρ, s, S, E, P⟩ => ⟨c, e, P.now S (show Dp T.K _ _ _ from .bl _)⟩
theorem d_ite (hc : PT X c (tT T Wx (fT fc))) (ha : PE X a (tE T Wx fa)) (hb : PE X b (tE T Wx fb)) : PE X (.IfExp c a b pos) (tE T Wx (fIte fc fa fb)) :=
  PE_imp (pe_ifExp hc ha hb) fun σ H Q q => by
    have q2 := test_bind (f := fT fc) (k := fun ρ c s => if c then fa ρ s else fb ρ s) (rd_congr q fIte_eq)
    refine rd_mono q2 fun c H1 q3 => ?_
    cases c with
    | true => exact iteT (rd_congr q3 fun _ _ => by simp)
    | false => exact iteF (rd_congr q3 fun _ _ => by simp)
/-! ### a < b < c -/
def fChain (op op' : CmpK) (fa fb fc : Env → List Cell → R W) : Env → List Cell → R W := fun ρ s => (fa ρ s).bind fun x s => (fb ρ s).bind fun y s => match see s x, see s y with
    | some x', some y' => match cmpD op x' y' with
      | some true => (fc ρ s).bind fun z s => match see s y, see s z with
        | some y, some z => lift ((cmpD op' y z).map fun b => .d (.bool b)) s
        | _, _ => .no
      | some false => .ok (.d (.bool false)) s
      | none => .no
    | _, _ => .no
theorem chain_read {op op' : CmpK} {σ : L2.St} {H : Hp} {Q : VK} (h : tE T Wx (fChain op op' fa fb fc) σ H Q) : tChain (rCmp T.K op) (rCmp T.K op') (tE T Wx fa) (tE T Wx fb) (tE T Wx fc) σ H fun x H1 => ∃ k, x = .bl k ∧ Q (.bl k) H1 := by
  refine rd_mono (rd_bind (rel := rW T) (f := fa) h) fun u H1 ⟨B, G, α, ρ, s, x, rx, M⟩ => ?_
  obtain ⟨B1, G1, α1, ρ1, s1, S, E, P⟩ := M.step (rel := rW T) (f := fb)
  refine ⟨B1, G1, α1, ρ1, s1, S, E, P.mono fun v H2 ⟨G2, α2, s2, y, x2, ry, M2⟩ => ?_⟩
  have rx2 := x2.rw rx
  have P2 := M2.P
  cases e1 : see s2 x with
  | none => rw [e1] at P2; exact P2.elim
  | some x' =>
    cases e2 : see s2 y with
    | none => rw [e1, e2] at P2; exact P2.elim
    | some y' =>
      rw [e1, e2] at P2
      simp only at P2
      cases e3 : cmpD op x' y' with
      | none => rw [e3] at P2; exact P2.elim
      | some kb =>
        rw [e3] at P2
        refine cmp_fin (see_ok M2.S e1 rx2) (see_ok M2.S e2 ry) e3 ⟨kb, rfl, ?_⟩
        cases kb with
        | false => exact iteF ⟨false, rfl, P2.now M2.S (show Dp T.K _ _ _ from .bl _)⟩
        | true =>
          refine iteT ?_
          have M3 : Mid T Wx (rW T) B G2 α2 ρ s2 σ H2 (fun s => (fc ρ s).bind fun z s => match see s y, see s z with | some y, some z => lift ((cmpD op' y z).map fun b => W.d (.bool b)) s | _, _ => R.no) Q := ⟨M2.S, M2.E, P2⟩
          obtain ⟨B3, G3, α3, ρ3, s3, S3, E3, P3⟩ := M3.step (rel := rW T) (f := fc)
          refine ⟨B3, G3, α3, ρ3, s3, S3, E3, P3.mono fun w H4 ⟨G4, α4, s4, z, x4, rz, M4⟩ => ?_⟩
          have ry4 := x4.rw ry
          have P4 := M4.P
          cases e4 : see s4 y with
          | none => rw [e4] at P4; exact P4.elim
          | some y4 =>
            cases e5 : see s4 z with
            | none => rw [e4, e5] at P4; exact P4.elim
            | some z4 =>
              rw [e4, e5] at P4
              obtain ⟨wv, hw, P5⟩ := P4.lift
              cases e6 : cmpD op' y4 z4 with
              | none => rw [e6] at hw; cases hw
              | some k2 =>
                rw [e6] at hw
                cases hw
                exact cmp_fin (see_ok M4.S e4 ry4) (see_ok M4.S e5 rz) e6 ⟨k2, rfl, P5.now M4.S (show Dp T.K _ _ _ from .bl _)⟩
theorem tChain_mono {op op' : CmpK} {K : PySem.W.Frag} {σ : L2.St} {H : Hp} {Q Q' : VK} (h : tChain (rCmp K op) (rCmp K op') (tE T Wx fa) (tE T Wx fb) (tE T Wx fc) σ H Q) (i : ∀ v H, Q v H → Q' v H) : tChain (rCmp K op) (rCmp K op') (tE T Wx fa) (tE T Wx fb) (tE T Wx fc) σ H Q' :=
  tE_mono h fun u H1 h => tE_mono h fun v H2 h => rCmp_mono h fun w H3 ⟨kb, e, h⟩ => ⟨kb, e, by
    cases kb with
    | false =>
      have h' := h
      rw [if_neg Bool.false_ne_true] at h'
      exact iteF (i _ _ h')
    | true =>
      have h' := h
      rw [if_pos rfl] at h'
      exact iteT (tE_mono h' fun v4 H4 h => rCmp_mono h i)⟩
theorem last_ok {op op' : CmpK} (hb : behindInMarks (cmpOf op') c = false) : lastMarks [cmpOf op, cmpOf op'] [b, c] = false := by
  show lastMarks [cmpOf op'] [c] = false
  exact hb
theorem d_chain (hK : X.K = T.K) (hu : X.A.units + 65 < cLine) (op op' : CmpK) (ha : PE X a (tE T Wx fa)) (hb : PE X b (tE T Wx fb)) (hc : PE X c (tE T Wx fc)) (hm : behindInMarks (cmpOf op') c = false) :
    PE X (.Compare a [cmpOf op, cmpOf op'] [b, c] pos) (tE T Wx (fChain op op' fa fb fc)) :=
  PE_imp (pe_chain (hK ▸ op_cmp hu op) (hK ▸ op_cmp hu op') ha hb hc (last_ok hm)) fun σ H Q h => tChain_mono (chain_read h) fun v H1 ⟨k, e, q⟩ => by rw [e]; exact q
theorem d_chainT (hK : X.K = T.K) (hu : X.A.units + 65 < cLine) (op op' : CmpK) (ha : PE X a (tE T Wx fa)) (hb : PE X b (tE T Wx fb)) (hc : PE X c (tE T Wx fc)) (hm : behindInMarks (cmpOf op') c = false) :
    PT X (.Compare a [cmpOf op, cmpOf op'] [b, c] pos) (tT T Wx (fT (fChain op op' fa fb fc))) :=
  PT_imp (pt_chain (hK ▸ op_cmp hu op) (hK ▸ op_cmp hu op') ha hb hc (last_ok hm)) fun σ H Q h => tChain_mono (chain_read (tT_of h)) fun v H1 ⟨k, e, k', e', q⟩ => by
    cases e'
    exact ⟨k, e, q⟩
/-! ### argument lists -/
theorem d_nil : PA X [] (tA T Wx fun _ s => .ok [] s) := PA_imp pa_nil fun σ H Q ⟨B, G, α, ρ, s, S, E, P⟩ => P.now S (show RWs T _ _ _ _ from .nil)
def fCons (fe : Env → List Cell → R W) (fes : Env → List Cell → R (List W)) : Env → List Cell → R (List W) := fun ρ s => (fe ρ s).bind fun w s => (fes ρ s).bind fun ws s => .ok (w :: ws) s
theorem d_cons {e : Expr} {es : List Expr} {fe : Env → List Cell → R W} {fes : Env → List Cell → R (List W)} (he : PE X e (tE T Wx fe)) (hes : PA X es (tA T Wx fes)) (hs : starEach (e :: es) X.env = (false, eval e X.env) :: starEach es X.env) :
    PA X (e :: es) (tA T Wx (fCons fe fes)) := PA_imp (pa_cons he hes hs) fun σ H Q h => by
  refine rd_mono (rd_bind (rel := rW T) (f := fe) h) fun u H1 ⟨B, G, α, ρ, s, x, rx, M⟩ => ?_
  obtain ⟨B, G1, α, ρ, s, S, E, P⟩ := M.step (rel := rWs T) (f := fes)
  refine ⟨B, G1, α, ρ, s, S, E, P.mono fun v H2 ⟨G2, α2, s2, y, x2, ry, M2⟩ => ?_⟩
  exact M2.P.now M2.S (show RWs T _ _ _ _ from .cons (x2.rw rx) ry)
theorem frzs_at {B G H : Hp} {α : List Addr} {s : List Cell} {ws : List W} {vs : List V} {σ : L2.St} {β γ : Type} {rel : Rel β γ} {k : List PyData → List Cell → R β} {Q : γ → Hp → Prop} (S : StM T B G H α s) (r : RWs T G α ws vs)
    (P : Post T Wx rel B G α σ ((frzsR ws s).bind k) Q) : ∃ G' s' xs, Ext B G α G' α ∧ StM T B G' H α s' ∧ DpAll T.K G' vs xs ∧ Post T Wx rel B G' α σ (k xs s') Q := by
  simp only [frzsR] at P
  cases e : frzAll s ws with
  | none => rw [e] at P; exact P.elim
  | some p =>
    obtain ⟨xs, s'⟩ := p
    rw [e] at P
    obtain ⟨G', x, S', d⟩ := frzAll_ok S e r
    exact ⟨G', s', xs, x, S', d, P.ext x⟩
theorem frz_at {B G H : Hp} {α : List Addr} {s : List Cell} {w : W} {v : V} {σ : L2.St} {β γ : Type} {rel : Rel β γ} {k : PyData → List Cell → R β} {Q : γ → Hp → Prop} (S : StM T B G H α s) (r : RW T G α w v)
    (P : Post T Wx rel B G α σ ((frzR w s).bind k) Q) : ∃ G' s' x, Ext B G α G' α ∧ StM T B G' H α s' ∧ Dp T.K G' v x ∧ Post T Wx rel B G' α σ (k x s') Q := by
  simp only [frzR] at P
  cases e : frz s w with
  | none => rw [e] at P; exact P.elim
  | some p =>
    obtain ⟨xs, s'⟩ := p
    rw [e] at P
    obtain ⟨G', x, S', d⟩ := frz_ok S e r
    exact ⟨G', s', xs, x, S', d, P.ext x⟩
def fTup (fes : Env → List Cell → R (List W)) : Env → List Cell → R W := fun ρ s => (fes ρ s).bind fun ws s => (frzsR ws s).bind fun xs s => if xs.length ≤ sizeLine then .ok (.d (.tuple xs)) s else .no
theorem d_tup {es : List Expr} {x1 : Nat} {fes : Env → List Cell → R (List W)} (h : PA X es (tA T Wx fes)) : PE X (.Tuple es x1 pos) (tE T Wx (fTup fes)) :=
  PE_imp (pe_tup h) fun σ H Q q => by
    refine rd_mono (rd_bind (rel := rWs T) (f := fes) q) fun us H1 ⟨B, G, α, ρ, s, ws, r, M⟩ => ?_
    obtain ⟨G', s', xs, x, S', d, P⟩ := frzs_at M.S r M.P
    by_cases hz : xs.length ≤ sizeLine
    · rw [if_pos hz] at P
      exact ⟨by rw [d.len]; exact hz, fun p hp => P.tup S' d hp⟩
    · rw [if_neg hz] at P
      exact P.elim
def fLst (fes : Env → List Cell → R (List W)) : Env → List Cell → R (List PyData) := fun ρ s => (fes ρ s).bind fun ws s => (frzsR ws s).bind fun xs s => if xs.length ≤ sizeLine then .ok xs s else .no
theorem d_lst {es : List Expr} {fes : Env → List Cell → R (List W)} (h : PA X es (tA T Wx fes)) : PE X (.List es pos) (tF T Wx (fLst fes)) :=
  PE_imp (pe_lst h) fun σ H Q q => by
    refine rd_mono (rd_bind (rel := rWs T) (f := fes) q) fun us H1 ⟨B, G, α, ρ, s, ws, r, M⟩ => ?_
    obtain ⟨G', s', xs, x, S', d, P⟩ := frzs_at M.S r M.P
    by_cases hz : xs.length ≤ sizeLine
    · rw [if_pos hz] at P
      exact ⟨by rw [d.len]; exact hz, fun p hp => P.lst S' d hp⟩
    · rw [if_neg hz] at P
      exact P.elim
/-! ### a new list: frozen, or a cell -/
theorem freezeF {B G H : Hp} {α : List Addr} {s : List Cell} {l : List PyData} {v : V} (S : StM T B G H α s) (r : rF T B G α H l v) : ∃ G', Ext B G α G' α ∧ StM T B G' H α s ∧ Dp T.K G' v (.list l) := by
  obtain ⟨a, vs, rfl, hH, hg, hb, ha, d⟩ := r
  refine ⟨upd G a (.lst vs), Ext.pure hg hb, S.know (Same.upd hg) (fun b u e => ?_) (fun b hb' e => ?_), .lst (SqL.of upd_same) (DpAll.mono (Same.upd hg) _ _ d)⟩
  · by_cases hb' : b = a
    · subst hb'; rw [upd_same] at e; cases e; exact hH
    · rw [upd_ne hb'] at e; exact S.gh b u e
  · rw [upd_ne]
    · exact e
    · rintro rfl; exact ha hb'
theorem pushF {B G H : Hp} {α : List Addr} {s : List Cell} {l : List PyData} {v : V} (S : StM T B G H α s) (r : rF T B G α H l v) : ∃ a, v = .ref a ∧ StM T B G H (α ++ [a]) (s ++ [.lst l]) := by
  obtain ⟨a, vs, rfl, hH, hg, hb, ha, d⟩ := r
  exact ⟨a, rfl, S.push ha ⟨hg, hb, vs, hH, d⟩⟩
theorem d_fr {e : Expr} {f : Env → List Cell → R (List PyData)} (h : PE X e (tF T Wx f)) : PE X e (tE T Wx fun ρ s => (f ρ s).bind fun l s => .ok (.d (.list l)) s) :=
  PE_imp h fun σ H Q q => by
    refine rd_mono (rd_bind (rel := rF T) (f := f) q) fun v H1 ⟨B, G, α, ρ, s, l, r, M⟩ => ?_
    obtain ⟨G', x, S', d⟩ := freezeF M.S r
    exact M.P.at x S' d
theorem d_th {e : Expr} {f : Env → List Cell → R (List PyData)} (h : PE X e (tF T Wx f)) : PE X e (tE T Wx fun ρ s => (f ρ s).bind fun l s => .ok (.h s.length) (s ++ [.lst l])) :=
  PE_imp h fun σ H Q q => by
    refine rd_mono (rd_bind (rel := rF T) (f := f) q) fun v H1 ⟨B, G, α, ρ, s, l, r, M⟩ => ?_
    obtain ⟨a, rfl, S'⟩ := pushF M.S r
    exact M.P.at Ext.push S' ⟨a, by rw [← M.S.len]; simp, rfl⟩
/-! ### places, slices -/
def fIdx (fa fi : Env → List Cell → R W) : Env → List Cell → R W := fun ρ s => (fa ρ s).bind fun x s => (fi ρ s).bind fun y s => (ii y s).bind fun j s => match see s x with
    | some (.list l) => lift ((atD l j).map .d) s
    | some (.tuple l) => lift ((atD l j).map .d) s
    | _ => .no
theorem ii_inv {w : W} {s : List Cell} {β γ : Type} {rel : Rel β γ} {k : Int → List Cell → R β} {B G : Hp} {α : List Addr} {σ : L2.St} {Q : γ → Hp → Prop} (P : Post T Wx rel B G α σ ((ii w s).bind k) Q) : ∃ i, w = .d (.int i) ∧ Post T Wx rel B G α σ (k i s) Q := by
  cases w with
  | d x =>
    cases x with
    | int i => exact ⟨i, rfl, P⟩
    | _ => exact P.elim
  | _ => exact P.elim
theorem d_idx (hK : X.K = T.K) (ha : PE X a (tE T Wx fa)) (hb : PE X b (tE T Wx fb)) (hs : PlainIx b) : PE X (.Subscript a b pos) (tE T Wx (fIdx fa fb)) :=
  PE_imp (pe_ix (show IxR X (fun x y H Q => rIxL T.K x y H Q ∨ rIxT T.K x y H Q) from hK ▸ ix_list.or ix_tup) ha hb hs) fun σ H Q h => by
    refine rd_mono (rd_bind (rel := rW T) (f := fa) h) fun u H1 ⟨B, G, α, ρ, s, x, rx, M⟩ => ?_
    obtain ⟨B, G1, α, ρ, s, S, E, P⟩ := M.step (rel := rW T) (f := fb)
    refine ⟨B, G1, α, ρ, s, S, E, P.mono fun v H2 ⟨G2, α2, s2, y, x2, ry, M2⟩ => ?_⟩
    obtain ⟨j, rfl, P3⟩ := ii_inv M2.P
    obtain rfl := (show Dp T.K _ _ _ from ry).int_inv
    have rx2 := x2.rw rx
    cases e : see s2 x with
    | none => rw [e] at P3; exact P3.elim
    | some q =>
      rw [e] at P3
      cases q with
      | list l =>
        obtain ⟨w, hw, P4⟩ := P3.lift
        obtain ⟨a, vs, rfl, h1, d⟩ := see_lst M2.S e rx2
        cases e2 : atD l j with
        | none => rw [e2] at hw; cases hw
        | some z =>
          rw [e2] at hw
          cases hw
          obtain ⟨vz, h3, h4⟩ := d.atI e2
          exact .inl ⟨a, vs, j, vz, rfl, rfl, h1, h3, P4.now M2.S h4⟩
      | tuple l =>
        obtain ⟨w, hw, P4⟩ := P3.lift
        obtain ⟨a, vs, rfl, h1, d⟩ := (see_tupR M2.S e rx2 l rfl).tup_inv
        cases e2 : atD l j with
        | none => rw [e2] at hw; cases hw
        | some z =>
          rw [e2] at hw
          cases hw
          obtain ⟨vz, h3, h4⟩ := d.atI e2
          exact .inr ⟨a, vs, j, vz, rfl, rfl, Same.seqT M2.S.gh h1, h3, P4.now M2.S h4⟩
      | _ => exact P3.elim
theorem d_noPart : PO X none (tO T Wx fun _ s => .ok none s) := PO_imp po_none fun σ H Q ⟨B, G, α, ρ, s, S, E, P⟩ => P.now S rfl
def fPart (f : Env → List Cell → R W) : Env → List Cell → R (Option Int) := fun ρ s => (f ρ s).bind fun w s => (ii w s).bind fun i s => .ok (some i) s
theorem d_part {e : Expr} {f : Env → List Cell → R W} (h : PE X e (tE T Wx f)) : PO X (some e) (tO T Wx (fPart f)) := PO_imp (po_some h) fun σ H Q q => by
  refine rd_mono (rd_bind (rel := rW T) (f := f) q) fun u H1 ⟨B, G, α, ρ, s, x, rx, M⟩ => ?_
  obtain ⟨j, rfl, P3⟩ := ii_inv M.P
  exact ⟨j, (show Dp T.K _ _ _ from rx).int_inv, P3.now M.S rfl⟩
def fSlc (fa : Env → List Cell → R W) (fl fh : Env → List Cell → R (Option Int)) : Env → List Cell → R W := fun ρ s => (fa ρ s).bind fun x s => (fl ρ s).bind fun l s => (fh ρ s).bind fun h s => match see s x with
    | some (.tuple xs) => .ok (.d (.tuple (cut xs l h))) s
    | some (.list xs) => .ok (.d (.list (cut xs l h))) s
    | _ => .no
def fNeg (fa : Env → List Cell → R W) : Env → List Cell → R W := fun ρ s => (fa ρ s).bind fun x s => (ii x s).bind fun i s => .ok (.d (.int (-i))) s
theorem d_neg (ha : PE X a (tE T Wx fa)) : PE X (.UnaryOp .USub a pos) (tE T Wx (fNeg fa)) :=
  PE_imp (pe_un un_neg ha) fun σ H Q q => by
    refine rd_mono (rd_bind (rel := rW T) (f := fa) q) fun u H1 ⟨B, G, α, ρ, s, x, rx, M⟩ => ?_
    obtain ⟨j, rfl, P3⟩ := ii_inv M.P
    exact ⟨j, (show Dp T.K _ _ _ from rx).int_inv, P3.now M.S (show Dp T.K _ _ _ from .int _)⟩
def fSll (fa : Env → List Cell → R W) (fl fh : Env → List Cell → R (Option Int)) : Env → List Cell → R (List PyData) := fun ρ s => (fa ρ s).bind fun x s => (fl ρ s).bind fun l s => (fh ρ s).bind fun h s => match see s x with
    | some (.list xs) => .ok (cut xs l h) s
    | _ => .no
variable {lo hi : Option Expr} {fl fh : Env → List Cell → R (Option Int)} {p2 : Pos}
theorem cut_whole {xs : List PyData} {lo hi : Option Int} (h : HT.sIx xs.length 0 lo = 0 ∧ HT.sIx xs.length xs.length hi = xs.length) : cut xs lo hi = xs := by
  unfold cut
  rw [sIx_eq, sIx_eq, h.1, h.2]
  simp
theorem d_slc (hK : X.K = T.K) (ha : PE X a (tE T Wx fa)) (hl : PO X lo (tO T Wx fl)) (hh : PO X hi (tO T Wx fh)) : PE X (.Subscript a (.Slice lo hi none p2) pos) (tE T Wx (fSlc fa fl fh)) :=
  PE_imp (pe_slice (show SlR X (fun x lo hi H Q => rSlA T.K x lo hi H Q ∨ rSlL T.K x lo hi H Q) from hK ▸ sl_tupA.or sl_list) ha hl hh) fun σ H Q q => by
    refine rd_mono (rd_bind (rel := rW T) (f := fa) q) fun u H1 ⟨B, G, α, ρ, s, x, rx, M⟩ => ?_
    obtain ⟨B, G1, α, ρ, s, S, E, P⟩ := M.step (rel := rO) (f := fl)
    refine ⟨B, G1, α, ρ, s, S, E, P.mono fun l H2 ⟨G2, α2, s2, l', x2, rl, M2⟩ => ?_⟩
    obtain rfl : l' = l := rl
    obtain ⟨B, G3, α3, ρ3, s3, S3, E3, P3⟩ := M2.step (rel := rO) (f := fh)
    refine ⟨B, G3, α3, ρ3, s3, S3, E3, P3.mono fun h H3 ⟨G4, α4, s4, h', x4, rh, M4⟩ => ?_⟩
    obtain rfl : h' = h := rh
    have rx4 := x4.rw (x2.rw rx)
    have P4 := M4.P
    cases e : see s4 x with
    | none => rw [e] at P4; exact P4.elim
    | some y =>
      rw [e] at P4
      cases y with
      | tuple xs =>
        have P4 : Post T Wx (rW T) _ _ _ σ (.ok (.d (.tuple (cut xs l' h'))) s4) Q := P4
        have g := see_tupR M4.S e rx4 xs rfl
        obtain ⟨a, vs, rfl, h1, d⟩ := g.tup_inv
        refine .inl ⟨a, vs, rfl, Same.seqT M4.S.gh h1, fun e => ?_, fun _ p hp => P4.tup M4.S (d.cut _ _) hp⟩
        rw [d.len] at e
        rw [cut_whole e] at P4
        exact P4.now M4.S g
      | list xs =>
        obtain ⟨a, vs, rfl, h1, d⟩ := see_lst M4.S e rx4
        exact .inr ⟨a, vs, rfl, h1, fun p hp => Post.lstD P4 M4.S (d.cut _ _) hp⟩
      | _ => exact P4.elim
theorem d_sll (hK : X.K = T.K) (ha : PE X a (tE T Wx fa)) (hl : PO X lo (tO T Wx fl)) (hh : PO X hi (tO T Wx fh)) : PE X (.Subscript a (.Slice lo hi none p2) pos) (tF T Wx (fSll fa fl fh)) :=
  PE_imp (pe_slice (show SlR X (rSlL T.K) from hK ▸ sl_list) ha hl hh) fun σ H Q q => by
    refine rd_mono (rd_bind (rel := rW T) (f := fa) q) fun u H1 ⟨B, G, α, ρ, s, x, rx, M⟩ => ?_
    obtain ⟨B, G1, α, ρ, s, S, E, P⟩ := M.step (rel := rO) (f := fl)
    refine ⟨B, G1, α, ρ, s, S, E, P.mono fun l H2 ⟨G2, α2, s2, l', x2, rl, M2⟩ => ?_⟩
    obtain rfl : l' = l := rl
    obtain ⟨B, G3, α3, ρ3, s3, S3, E3, P3⟩ := M2.step (rel := rO) (f := fh)
    refine ⟨B, G3, α3, ρ3, s3, S3, E3, P3.mono fun h H3 ⟨G4, α4, s4, h', x4, rh, M4⟩ => ?_⟩
    obtain rfl : h' = h := rh
    have rx4 := x4.rw (x2.rw rx)
    have P4 := M4.P
    cases e : see s4 x with
    | none => rw [e] at P4; exact P4.elim
    | some y =>
      rw [e] at P4
      cases y with
      | list xs =>
        obtain ⟨a, vs, rfl, h1, d⟩ := see_lst M4.S e rx4
        exact ⟨a, vs, rfl, h1, fun p hp => Post.lst P4 M4.S (d.cut _ _) hp⟩
      | _ => exact P4.elim
/-! ### fields -/
def fFld (fa : Env → List Cell → R W) (f : Nat) : Env → List Cell → R W := fun ρ s => (fa ρ s).bind fun x s => lift (fldW s f x) s
theorem getN_rel {β : Type} {c f : Nat} {R' : β → V → Prop} (ok : TabOk T) {fvs : List (Str × V)} {fs : List (Nat × β)} (h : Paired (fun (p : Str × V) (q : Nat × β) => p.1 = T.fn q.1 ∧ T.has c q.1 = true ∧ R' q.2 p.2) fvs fs) {w : β} (e : getN f fs = some w) :
    T.has c f = true ∧ ∃ v, fvs.lookup (T.fn f) = some v ∧ R' w v := by
  induction fs generalizing fvs with
  | nil => cases e
  | cons q fs ih =>
    cases h with
    | @cons p _ fvs _ r t =>
      simp only [getN] at e
      obtain ⟨h1, h2, h3⟩ := r
      obtain ⟨pn, pv⟩ := p
      simp only at h1 h3
      by_cases hf : f = q.1
      · rw [if_pos hf] at e
        cases e
        refine ⟨by rw [hf]; exact h2, pv, ?_, h3⟩
        rw [hf, h1, List.lookup_cons]
        simp
      · rw [if_neg hf] at e
        obtain ⟨g1, v, g2, g3⟩ := ih t e
        refine ⟨g1, v, ?_, g3⟩
        rw [List.lookup_cons]
        have hne : (T.fn f == pn) = false := by
          rw [beq_eq_false_iff_ne]
          intro z
          rw [h1] at z
          exact hf (ok.inj _ _ (ok.lt _ _ g1) (ok.lt _ _ h2) z)
        rw [hne]
        exact g2
theorem d_fld (hK : X.K = T.K) (ok : TabOk T) {f : Nat} (ha : PE X a (tE T Wx fa)) (hb : attributeBase a (T.fn f) X.env (eval a X.env) = eval a X.env) : PE X (.Attribute a (T.fn f) pos) (tE T Wx (fFld fa f)) :=
  PE_imp (pe_fld ha hb) fun σ H Q q => by
    rw [hK]
    refine rd_mono (rd_bind (rel := rW T) (f := fa) q) fun u H1 ⟨B, G, α, ρ, s, x, rx, M⟩ => ?_
    obtain ⟨w, hw, P⟩ := M.P.lift
    cases x with
    | o c fs =>
      obtain ⟨a, C, dx, fvs, rfl, h1, h2, h3⟩ := rx
      simp only [fldW] at hw
      cases e : getN f fs with
      | none => rw [e] at hw; cases hw
      | some y =>
        rw [e] at hw
        cases hw
        obtain ⟨g1, v, g2, g3⟩ := getN_rel (R' := fun x v => Dp T.K G v x) ok h3 e
        exact ⟨a, C, dx, fvs, v, rfl, M.S.gh _ _ h1, ok.cl _ _ _ h2 g1, ok.na _ _ _ h2 g1, g2, P.now M.S g3⟩
    | h i =>
      obtain ⟨a, ha, rfl⟩ := rx
      simp only [fldW] at hw
      cases e : s[i]? with
      | none => rw [e] at hw; cases hw
      | some cc =>
        rw [e] at hw
        have hc := M.S.cell i a cc ha e
        cases cc with
        | ins c fs =>
          obtain ⟨_, _, C, dx, fvs, h1, h2, h3⟩ := hc
          obtain ⟨g1, v, g2, g3⟩ := getN_rel (R' := fun x v => RW T G α x v) ok h3 hw
          exact ⟨a, C, dx, fvs, v, rfl, h1, ok.cl _ _ _ h2 g1, ok.na _ _ _ h2 g1, g2, P.now M.S g3⟩
        | _ => cases hw
    | d y => cases hw
    | dc y => cases hw
end
end DM

set_option maxRecDepth 100000
/-! DM5: built-ins, lists, comprehensions. -/
namespace DM
open PySem PySem.Spec PyProof.Rows L2
section
variable {X : Cx} {T : Tab} {k : Nat} {Wx : WX} {a b c e : Expr} {es : List Expr} {p pos apos cpos : Pos} {fa fb fc : Env → List Cell → R W} {fes : Env → List Cell → R (List W)}

/-! ### built-in functions -/
def fBi (b : BiK) (fes : Env → List Cell → R (List W)) : Env → List Cell → R W := fun ρ s => (fes ρ s).bind fun ws s => match seeAll s ws with
    | some xs => lift ((biD b xs).map .d) s
    | none => .no
theorem bi_read {bk : BiK} {σ : L2.St} {H : Hp} {Q : VK} (h : tE T Wx (fBi bk fes) σ H Q) : tA T Wx fes σ H fun vs H1 => ∃ xs y, DpAll T.K H1 vs xs ∧ biD bk xs = some y ∧ ∀ v, (∀ G, Dp T.K G v y) → Q v H1 := by
  refine rd_mono (rd_bind (rel := rWs T) (f := fes) h) fun us H1 ⟨B, G, α, ρ, s, ws, r, M⟩ => ?_
  have P := M.P
  cases e : seeAll s ws with
  | none => rw [e] at P; exact P.elim
  | some xs =>
    rw [e] at P
    obtain ⟨w, hw, P⟩ := P.lift
    cases e2 : biD bk xs with
    | none => rw [e2] at hw; cases hw
    | some y =>
      rw [e2] at hw
      cases hw
      exact ⟨xs, y, seeAll_ok M.S e r, e2, fun v d => P.now M.S (d G)⟩
theorem DpAll.one {K : PySem.W.Frag} {G : Hp} {vs : List V} {x : PyData} (h : DpAll K G vs [x]) : ∃ v, vs = [v] ∧ Dp K G v x := by
  cases h with | cons h1 h2 => cases h2; exact ⟨_, rfl, h1⟩
theorem DpAll.two {K : PySem.W.Frag} {G : Hp} {vs : List V} {x y : PyData} (h : DpAll K G vs [x, y]) : ∃ v u, vs = [v, u] ∧ Dp K G v x ∧ Dp K G u y := by
  cases h with | cons h1 h2 => cases h2 with | cons h2 h3 => cases h3; exact ⟨_, _, rfl, h1, h2⟩
theorem d_len (hK : X.K = T.K) (hg : Gl X "len") (hm : X.mg "len" = none) (ha : PA X (e :: es) (tA T Wx fes)) (he : starEach (e :: es) X.env = (false, eval e X.env) :: starEach es X.env) (hpl : (backTo pos (starEach es X.env)).any (·.1) = false) :
    PE X (.Call (.Name "len" p) (e :: es) [] pos) (tE T Wx (fBi .len fes)) :=
  PE_imp (pe_callB call_len_seq hg hm PySem.boot_len ha (by decide) (by decide) he hpl) fun σ H Q h => by
    refine rd_mono (bi_read h) fun vs H1 ⟨xs, y, d, e, q⟩ => ?_
    rw [hK]
    match xs, e with
    | [.list l], e =>
      cases e
      obtain ⟨v, rfl, dv⟩ := DpAll.one d
      obtain ⟨a, us, rfl, h1, h2⟩ := dv.lst_inv
      exact ⟨a, us, rfl, .inl h1, q _ fun G => by rw [h2.len]; exact .int _⟩
    | [.tuple l], e =>
      cases e
      obtain ⟨v, rfl, dv⟩ := DpAll.one d
      obtain ⟨a, us, rfl, h1, h2⟩ := dv.tup_inv
      exact ⟨a, us, rfl, .inr h1, q _ fun G => by rw [h2.len]; exact .int _⟩
theorem boot_intT : bootBuiltins ("int" : Str) = some (.type "int") := by decide +kernel
theorem d_int (hg : Gl X "int") (hm : X.mg "int" = none) (ha : PA X (e :: es) (tA T Wx fes)) (he : starEach (e :: es) X.env = (false, eval e X.env) :: starEach es X.env) (hpl : (backTo pos (starEach es X.env)).any (·.1) = false) :
    PE X (.Call (.Name "int" p) (e :: es) [] pos) (tE T Wx (fBi .int fes)) :=
  PE_imp (pe_callTy call_int1 hg hm boot_intT ha (by decide) (by decide) he hpl) fun σ H Q h => by
    refine rd_mono (bi_read h) fun vs H1 ⟨xs, y, d, e, q⟩ => ?_
    match xs, e with
    | [.int i], e =>
      cases e
      obtain ⟨v, rfl, dv⟩ := DpAll.one d
      obtain rfl := dv.int_inv
      exact .inl ⟨i, rfl, q _ fun G => .int i⟩
    | [.bool i], e =>
      cases e
      obtain ⟨v, rfl, dv⟩ := DpAll.one d
      obtain rfl := dv.bl_inv
      exact .inr ⟨i, rfl, q _ fun G => .int _⟩
theorem boot_maxB : bootBuiltins ("max" : Str) = some (.builtin "max") := by decide +kernel
theorem boot_minB : bootBuiltins ("min" : Str) = some (.builtin "min") := by decide +kernel
theorem d_max2 (hc : X.calm = true) (hg : Gl X "max") (hm : X.mg "max" = none) (ha : PA X (e :: es) (tA T Wx fes)) (he : starEach (e :: es) X.env = (false, eval e X.env) :: starEach es X.env) (hpl : (backTo pos (starEach es X.env)).any (·.1) = false) :
    PE X (.Call (.Name "max" p) (e :: es) [] pos) (tE T Wx (fBi .max2 fes)) :=
  PE_imp (pe_callB (call_max2 hc) hg hm boot_maxB ha (by decide) (by decide) he hpl) fun σ H Q h => by
    refine rd_mono (bi_read h) fun vs H1 ⟨xs, y, d, e, q⟩ => ?_
    match xs, e with
    | [.int i, .int j], e =>
      cases e
      obtain ⟨v, u, rfl, dv, du⟩ := DpAll.two d
      obtain rfl := dv.int_inv
      obtain rfl := du.int_inv
      exact ⟨i, j, rfl, q _ fun G => .int _⟩
theorem d_min2 (hc : X.calm = true) (hg : Gl X "min") (hm : X.mg "min" = none) (ha : PA X (e :: es) (tA T Wx fes)) (he : starEach (e :: es) X.env = (false, eval e X.env) :: starEach es X.env) (hpl : (backTo pos (starEach es X.env)).any (·.1) = false) :
    PE X (.Call (.Name "min" p) (e :: es) [] pos) (tE T Wx (fBi .min2 fes)) :=
  PE_imp (pe_callB (call_min2 hc) hg hm boot_minB ha (by decide) (by decide) he hpl) fun σ H Q h => by
    refine rd_mono (bi_read h) fun vs H1 ⟨xs, y, d, e, q⟩ => ?_
    match xs, e with
    | [.int i, .int j], e =>
      cases e
      obtain ⟨v, u, rfl, dv, du⟩ := DpAll.two d
      obtain rfl := dv.int_inv
      obtain rfl := du.int_inv
      exact ⟨i, j, rfl, q _ fun G => .int _⟩
/-! ### isinstance -/
def tyS : TyK → String
  | .str => "str"
  | .int => "int"
  | .bool => "bool"
  | .tuple => "tuple"
  | .list => "list"
  | .dict => "dict"
def tyD : PyData → String
  | .none => "NoneType"
  | .bool _ => "bool"
  | .int _ => "int"
  | .str _ => "str"
  | .list _ => "list"
  | .tuple _ => "tuple"
  | .dict _ => "dict"
theorem tyX_of {K : PySem.W.Frag} {H : Hp} {v : V} {x : PyData} (h : Dp K H v x) : TyX K H v (.type (tyD x)) := by
  cases h with
  | non => exact .base .non
  | bl b => exact .base (.bl b)
  | int i => exact .base (.int i)
  | str x => exact .base (.str x)
  | lst h1 h2 =>
    rcases h1 with (h1 | ⟨o, h1⟩) | ⟨o, its, n, h1, h2, _⟩
    · exact .base (.lst h1)
    · exact .base (.frz h1)
    · exact .kList h1 h2
  | tup h1 h2 =>
    rcases h1 with (h1 | ⟨o, h1⟩) | ⟨o, its, n, h1, h2, _⟩
    · exact .base (.tup h1)
    · exact .fTuple h1
    · exact .kTuple h1 h2
theorem kit_isi (K : PySem.W.Frag) (t : TyK) (x : PyData) (hd : ∀ kvs, x ≠ .dict kvs) : PySem.W.kitOne K (.type (tyD x)) (.type (tyS t)) = some (isiD t x) := by
  cases t
  · cases x
    · exact kit_ty (show kitB "NoneType" "str" = some false by decide +kernel)
    · exact kit_ty (show kitB "bool" "str" = some false by decide +kernel)
    · exact kit_ty (show kitB "int" "str" = some false by decide +kernel)
    · exact kit_ty (show kitB "str" "str" = some true by decide +kernel)
    · exact kit_ty (show kitB "list" "str" = some false by decide +kernel)
    · exact kit_ty (show kitB "tuple" "str" = some false by decide +kernel)
    · exact absurd rfl (hd _)
  · cases x
    · exact kit_ty (show kitB "NoneType" "int" = some false by decide +kernel)
    · exact kit_ty (show kitB "bool" "int" = some true by decide +kernel)
    · exact kit_ty (show kitB "int" "int" = some true by decide +kernel)
    · exact kit_ty (show kitB "str" "int" = some false by decide +kernel)
    · exact kit_ty (show kitB "list" "int" = some false by decide +kernel)
    · exact kit_ty (show kitB "tuple" "int" = some false by decide +kernel)
    · exact absurd rfl (hd _)
  · cases x
    · exact kit_ty (show kitB "NoneType" "bool" = some false by decide +kernel)
    · exact kit_ty (show kitB "bool" "bool" = some true by decide +kernel)
    · exact kit_ty (show kitB "int" "bool" = some false by decide +kernel)
    · exact kit_ty (show kitB "str" "bool" = some false by decide +kernel)
    · exact kit_ty (show kitB "list" "bool" = some false by decide +kernel)
    · exact kit_ty (show kitB "tuple" "bool" = some false by decide +kernel)
    · exact absurd rfl (hd _)
  · cases x
    · exact kit_ty (show kitB "NoneType" "tuple" = some false by decide +kernel)
    · exact kit_ty (show kitB "bool" "tuple" = some false by decide +kernel)
    · exact kit_ty (show kitB "int" "tuple" = some false by decide +kernel)
    · exact kit_ty (show kitB "str" "tuple" = some false by decide +kernel)
    · exact kit_ty (show kitB "list" "tuple" = some false by decide +kernel)
    · exact kit_ty (show kitB "tuple" "tuple" = some true by decide +kernel)
    · exact absurd rfl (hd _)
  · cases x
    · exact kit_ty (show kitB "NoneType" "list" = some false by decide +kernel)
    · exact kit_ty (show kitB "bool" "list" = some false by decide +kernel)
    · exact kit_ty (show kitB "int" "list" = some false by decide +kernel)
    · exact kit_ty (show kitB "str" "list" = some false by decide +kernel)
    · exact kit_ty (show kitB "list" "list" = some true by decide +kernel)
    · exact kit_ty (show kitB "tuple" "list" = some false by decide +kernel)
    · exact absurd rfl (hd _)
  · cases x
    · exact kit_ty (show kitB "NoneType" "dict" = some false by decide +kernel)
    · exact kit_ty (show kitB "bool" "dict" = some false by decide +kernel)
    · exact kit_ty (show kitB "int" "dict" = some false by decide +kernel)
    · exact kit_ty (show kitB "str" "dict" = some false by decide +kernel)
    · exact kit_ty (show kitB "list" "dict" = some false by decide +kernel)
    · exact kit_ty (show kitB "tuple" "dict" = some false by decide +kernel)
    · exact absurd rfl (hd _)
def fIsi (t : TyK) (fa : Env → List Cell → R W) : Env → List Cell → R W := fun ρ s => (fa ρ s).bind fun w s => match see s w with
    | some x => .ok (.d (.bool (isiD t x))) s
    | none => .no
theorem boot_isi : bootBuiltins ("isinstance" : Str) = some (.builtin "isinstance") := by decide +kernel
theorem boot_ty (t : TyK) : bootBuiltins (Str.ofString (tyS t)) = some (.type (tyS t)) := by cases t <;> decide +kernel
theorem Dp.nodict {K : PySem.W.Frag} {H : Hp} {v : V} {x : PyData} (h : Dp K H v x) : ∀ kvs, x ≠ .dict kvs := fun kvs e => by subst e; cases h
theorem d_isi (hK : X.K = T.K) (t : TyK) {ty : Expr} (hg : Gl X "isinstance") (hm : X.mg "isinstance" = none) (ha : PE X a (tE T Wx fa)) (ht : PE X ty (tC (.ty (tyS t)))) (he : starEach [a, ty] X.env = (false, eval a X.env) :: starEach [ty] X.env)
    (he2 : starEach [ty] X.env = (false, eval ty X.env) :: starEach [] X.env) (hpl : (backTo pos (starEach [ty] X.env)).any (·.1) = false) : PE X (.Call (.Name "isinstance" p) [a, ty] [] pos) (tE T Wx (fIsi t fa)) :=
  PE_imp (pe_callB (r := rIsi T.K) (hK ▸ call_isi) hg hm boot_isi (pa_cons ha (pa_cons ht pa_nil he2) he) (by decide) (by decide) he hpl) fun σ H Q h => by
    refine rd_mono (rd_bind (rel := rW T) (f := fa) h) fun u H1 ⟨B, G, α, ρ, s, w, r, M⟩ => ?_
    have P := M.P
    cases e : see s w with
    | none => rw [e] at P; exact P.elim
    | some x =>
      rw [e] at P
      have d := see_ok M.S e r
      exact ⟨u, .ty (tyS t), .type (tyD x), .type (tyS t), isiD t x, rfl, .ty _, tyX_of d, kit_isi T.K t x (Dp.nodict d), P.now M.S (show Dp T.K _ _ _ from .bl _)⟩
/-! ### tuple(x), list(x) -/
def fTupOf (fa : Env → List Cell → R W) : Env → List Cell → R W := fun ρ s => (fa ρ s).bind fun w s => match see s w with
    | some (.list l) => .ok (.d (.tuple l)) s
    | some (.tuple l) => .ok (.d (.tuple l)) s
    | _ => .no
theorem boot_tupT : bootBuiltins ("tuple" : Str) = some (.type "tuple") := by decide +kernel
theorem boot_lstT : bootBuiltins ("list" : Str) = some (.type "list") := by decide +kernel
theorem d_tupOf (hK : X.K = T.K) (hg : Gl X "tuple") (hm : X.mg "tuple" = none) (ha : PE X a (tE T Wx fa)) (he : starEach [a] X.env = (false, eval a X.env) :: starEach [] X.env) : PE X (.Call (.Name "tuple" p) [a] [] pos) (tE T Wx (fTupOf fa)) :=
  PE_imp (pe_callTy call_tuple_of hg hm boot_tupT (pa_cons ha pa_nil he) (by decide) (by decide) he (by rfl)) fun σ H Q h => by
    rw [hK]
    refine rd_mono (rd_bind (rel := rW T) (f := fa) h) fun u H1 ⟨B, G, α, ρ, s, w, r, M⟩ => ?_
    have P := M.P
    cases e : see s w with
    | none => rw [e] at P; exact P.elim
    | some x =>
      rw [e] at P
      cases x with
      | list l =>
        obtain ⟨a, vs, rfl, h1, d⟩ := see_lst M.S e r
        exact ⟨a, vs, rfl, .inl ⟨h1, fun p hp => Post.tup P M.S d hp⟩⟩
      | tuple l =>
        have g := see_tupR M.S e r l rfl
        obtain ⟨a, vs, rfl, h1, d⟩ := g.tup_inv
        exact ⟨a, vs, rfl, .inr ⟨Same.seqT M.S.gh h1, Post.now P M.S g⟩⟩
      | _ => exact P.elim
def fList (fa : Env → List Cell → R W) : Env → List Cell → R (List PyData) := fun ρ s => (fa ρ s).bind fun w s => match see s w with
    | some x => lift (seqOf x) s
    | none => .no
theorem d_list (hK : X.K = T.K) (hg : Gl X "list") (hm : X.mg "list" = none) (ha : PE X a (tE T Wx fa)) (he : starEach [a] X.env = (false, eval a X.env) :: starEach [] X.env) : PE X (.Call (.Name "list" p) [a] [] pos) (tF T Wx (fList fa)) :=
  PE_imp (pe_callTy call_list_of hg hm boot_lstT (pa_cons ha pa_nil he) (by decide) (by decide) he (by rfl)) fun σ H Q h => by
    rw [hK]
    refine rd_mono (rd_bind (rel := rW T) (f := fa) h) fun u H1 ⟨B, G, α, ρ, s, w, r, M⟩ => ?_
    have P := M.P
    cases e : see s w with
    | none => rw [e] at P; exact P.elim
    | some x =>
      rw [e] at P
      obtain ⟨xs, hx, P⟩ := P.lift
      cases x with
      | list l =>
        cases hx
        obtain ⟨a, vs, rfl, h1, d⟩ := see_lst M.S e r
        exact ⟨a, vs, rfl, .inl h1, fun p hp => P.lst M.S d hp⟩
      | tuple l =>
        cases hx
        obtain ⟨a, vs, rfl, h1, d⟩ := (see_tupR M.S e r _ rfl).tup_inv
        exact ⟨a, vs, rfl, .inr (Same.seqT M.S.gh h1), fun p hp => P.lst M.S d hp⟩
      | _ => cases hx
/-! ### list + list, list * int -/
def fAdd (fa fb : Env → List Cell → R W) : Env → List Cell → R (List PyData) := fun ρ s => (fa ρ s).bind fun x s => (fb ρ s).bind fun y s => match see s x, see s y with
    | some (.list xs), some (.list ys) => if xs.length + ys.length ≤ sizeLine then .ok (xs ++ ys) s else .no
    | _, _ => .no
theorem d_addL (hK : X.K = T.K) (ha : PE X a (tE T Wx fa)) (hb : PE X b (tE T Wx fb)) : PE X (.BinOp a .Add b pos) (tF T Wx (fAdd fa fb)) :=
  PE_imp (pe_op (r := rCatS T.K) (hK ▸ op_catS) ha hb) fun σ H Q h => by
    refine rd_mono (rd_bind (rel := rW T) (f := fa) h) fun u H1 ⟨B, G, α, ρ, s, x, rx, M⟩ => ?_
    obtain ⟨B1, G1, α1, ρ1, s1, S, E, P⟩ := M.step (rel := rW T) (f := fb)
    refine ⟨B1, G1, α1, ρ1, s1, S, E, P.mono fun v H2 ⟨G2, α2, s2, y, x2, ry, M2⟩ => ?_⟩
    have rx2 := x2.rw rx
    have P2 := M2.P
    cases e1 : see s2 x with
    | none => rw [e1] at P2; exact P2.elim
    | some xd =>
      cases e2 : see s2 y with
      | none => rw [e1, e2] at P2; cases xd <;> exact P2.elim
      | some yd =>
        rw [e1, e2] at P2
        cases xd with
        | list xs =>
          cases yd with
          | list ys =>
            simp only at P2
            by_cases hz : xs.length + ys.length ≤ sizeLine
            · rw [if_pos hz] at P2
              obtain ⟨a1, vs, rfl, h1, d1⟩ := see_lst M2.S e1 rx2
              obtain ⟨a2, us, rfl, h2, d2⟩ := see_lst M2.S e2 ry
              exact ⟨a1, a2, vs, us, rfl, rfl, h1, h2, by rw [d1.len, d2.len]; exact hz, fun p hp => P2.lst M2.S (d1.append d2) hp⟩
            · rw [if_neg hz] at P2
              exact P2.elim
          | _ => exact P2.elim
        | _ => cases yd <;> exact P2.elim
def fMul (fl : Env → List Cell → R (List PyData)) (fb : Env → List Cell → R W) : Env → List Cell → R (List PyData) := fun ρ s => (fl ρ s).bind fun xs s => (fb ρ s).bind fun y s => (ii y s).bind fun k s =>
    if decide (-(2 ^ 63) ≤ k) && decide (k < 2 ^ 63) && decide (xs.length * k.toNat ≤ sizeLine) then .ok (List.replicate k.toNat xs).flatten s else .no
theorem rF_keep {B G H : Hp} {α : List Addr} {l : List PyData} {v : V} {s : List Cell} (S : StM T B G H α s) (r : rF T B G α H l v) : ∃ (G' : Hp) (a : Addr) (vs : List V), v = .ref a ∧ Ext B G α G' α ∧ StM T B G' H α s ∧ G' a = some (.lst vs) ∧ DpAll T.K G' vs l := by
  obtain ⟨a, vs, rfl, hH, hg, hb, ha, d⟩ := r
  refine ⟨upd G a (.lst vs), a, vs, rfl, Ext.pure hg hb, S.know (Same.upd hg) (fun b u e => ?_) (fun b hb' e => ?_), upd_same, DpAll.mono (Same.upd hg) _ _ d⟩
  · by_cases hb' : b = a
    · subst hb'; rw [upd_same] at e; cases e; exact hH
    · rw [upd_ne hb'] at e; exact S.gh b u e
  · rw [upd_ne]
    · exact e
    · rintro rfl; exact ha hb'
theorem d_mulL {fl : Env → List Cell → R (List PyData)} (ha : PE X a (tF T Wx fl)) (hb : PE X b (tE T Wx fb)) : PE X (.BinOp a .Mult b pos) (tF T Wx (fMul fl fb)) :=
  PE_imp (pe_op op_rep ha hb) fun σ H Q h => by
    refine rd_mono (rd_bind (rel := rF T) (f := fl) h) fun u H1 ⟨B, G, α, ρ, s, xs, rx, M⟩ => ?_
    obtain ⟨G0, a0, vs, rfl, x0, S0, hg0, d0⟩ := rF_keep M.S rx
    have M0 : Mid T Wx (rF T) B G0 α ρ s σ H1 (fun s => (fb ρ s).bind fun y s => (ii y s).bind fun k s => if decide (-(2 ^ 63) ≤ k) && decide (k < 2 ^ 63) && decide (xs.length * k.toNat ≤ sizeLine) then R.ok (List.replicate k.toNat xs).flatten s else R.no) Q := ⟨S0, M.E.mono x0, M.P.ext x0⟩
    obtain ⟨B1, G1, α1, ρ1, s1, S, E, P⟩ := M0.step (rel := rW T) (f := fb)
    refine ⟨B1, G1, α1, ρ1, s1, S, E, P.mono fun v H2 ⟨G2, α2, s2, y, x2, ry, M2⟩ => ?_⟩
    obtain ⟨j, rfl, P3⟩ := ii_inv M2.P
    obtain rfl := (show Dp T.K _ _ _ from ry).int_inv
    by_cases hz : (decide (-(2 ^ 63) ≤ j) && decide (j < 2 ^ 63) && decide (xs.length * j.toNat ≤ sizeLine)) = true
    · rw [if_pos hz] at P3
      simp only [Bool.and_eq_true, decide_eq_true_eq] at hz
      have d2 : DpAll T.K G2 vs xs := DpAll.mono x2.g _ _ d0
      exact ⟨a0, j, vs, rfl, rfl, M2.S.gh _ _ (x2.g _ _ hg0), hz.1.1, hz.1.2, by rw [d2.len]; exact hz.2, fun p hp => P3.lst M2.S (d2.flatOf _) hp⟩
    · rw [if_neg hz] at P3
      exact P3.elim
/-! ### xs.append(e) -/
/-- is a list, whichever -/
theorem tyV_list {K : PySem.W.Frag} {H : Hp} {a : Addr} {xs : List V} (h : SqL K H a xs) : tyV K "list" (.ref a) H := .inl ⟨rfl, xs, h⟩
theorem cell_list {B G H : Hp} {α : List Addr} {s : List Cell} (S : StM T B G H α s) {i : Nat} {l : List PyData} {v : V} (e : s[i]? = some (.lst l)) (r : RW T G α (.h i) v) : ∃ a vs, v = .ref a ∧ α[i]? = some a ∧ G a = none ∧ B a = none ∧ H a = some (.lst vs) ∧ DpAll T.K G vs l := by
  obtain ⟨a, ha, rfl⟩ := r
  obtain ⟨h1, h2, vs, h3, h4⟩ := S.cell i a _ ha e
  exact ⟨a, vs, rfl, ha, h1, h2, h3, h4⟩
def fAppC (fo fe : Env → List Cell → R W) : Env → List Cell → R W := fun ρ s => (fo ρ s).bind fun w s => if isL w s then (fe ρ s).bind fun v s => (frzR v s).bind fun x s => appW w x s else .no
theorem isL_ty {B G H : Hp} {α : List Addr} {s : List Cell} (S : StM T B G H α s) {w : W} {v : V} (h : isL w s = true) (r : RW T G α w v) : tyV T.K "list" v H := by
  unfold isL at h
  cases e : see s w with
  | none => rw [e] at h; cases h
  | some x =>
    rw [e] at h
    cases x with
    | list l =>
      obtain ⟨a, vs, rfl, h1, _⟩ := see_lst S e r
      exact tyV_list h1
    | _ => cases h
theorem d_app (hK : X.K = T.K) (ha : PE X a (tE T Wx fa)) (hb : PE X b (tE T Wx fb)) (hbase : attributeBase a "append" X.env (eval a X.env) = eval a X.env) (hline : (apos.endLine == cpos.line) = true) (he : starEach [b] X.env = (false, eval b X.env) :: starEach [] X.env) :
    PE X (.Call (.Attribute a "append" apos) [b] [] cpos) (tE T Wx (fAppC fa fb)) :=
  PE_imp (pe_bm PySem.F.plainAttrs_list PySem.F.slot_list_append PySem.F.type_list_append mt_append ha (pa_cons hb pa_nil he) hbase (by rw [he]; rfl) hline he (by rfl)) fun σ H Q h => by
    rw [hK]
    refine rd_mono (rd_bind (rel := rW T) (f := fa) h) fun u H1 ⟨B, G, α, ρ, s, x, rx, M⟩ => ?_
    have M0 := M.P
    by_cases hl : isL x s = true
    · rw [if_pos hl] at M0
      refine ⟨isL_ty M.S hl rx, ?_⟩
      have M' : Mid T Wx (rW T) B G α ρ s σ H1 (fun s => (fb ρ s).bind fun v s => (frzR v s).bind fun z s => appW x z s) Q := ⟨M.S, M.E, M0⟩
      obtain ⟨B1, G1, α1, ρ1, s1, S, E, P⟩ := M'.step (rel := rW T) (f := fb)
      refine ⟨B1, G1, α1, ρ1, s1, S, E, P.mono fun v H2 ⟨G2, α2, s2, y, x2, ry, M2⟩ => ?_⟩
      obtain ⟨G3, s3, z, x3, S3, dz, P3⟩ := frz_at M2.S ry M2.P
      have rx3 := x3.rw (x2.rw rx)
      cases x with
      | h i =>
        simp only [appW] at P3
        cases e : s3[i]? with
        | none => rw [e] at P3; exact P3.elim
        | some c =>
          rw [e] at P3
          cases c with
          | lst l =>
            simp only at P3
            by_cases hz : l.length < sizeLine
            · rw [if_pos hz] at P3
              obtain ⟨a, vs, rfl, ha, h1, h2, h3, h4⟩ := cell_list S3 e rx3
              refine ⟨a, vs, v, rfl, rfl, h3, by rw [h4.len]; exact hz, ?_⟩
              exact P3.at Ext.refl' (S3.set ha h1 h2 ⟨h1, h2, _, upd_same, h4.append (.cons dz .nil)⟩) (show Dp T.K _ _ _ from .non)
            · rw [if_neg hz] at P3; exact P3.elim
          | _ => exact P3.elim
      | _ => exact P3.elim
    · rw [if_neg hl] at M0
      exact M0.elim
end
end DM

set_option maxRecDepth 100000
/-! DM6: what is walked, comprehensions, statements. -/
namespace DM
open PySem PySem.Spec PyProof.Rows L2

/-! ### beside the store -/
section
variable {T : Tab} {B G H : Hp} {α : List Addr} {s : List Cell}
theorem CellR.gb {a : Addr} {c : Cell} (h : CellR T B G H α a c) : B a = none ∨ ∃ o, G a = some o := by
  cases c with
  | lst l => exact .inl h.2.1
  | dct nd l => exact .inl h.2.1
  | ins c l => exact .inl h.2.1
  | fzl l => obtain ⟨vs, h1, _⟩ := h; exact .inr ⟨_, h1⟩
  | gone => exact .inl h.1
/-- what B keeps and G does not know is no cell -/
theorem StM.notin (S : StM T B G H α s) {a : Addr} {o : HO} (hb : B a = some o) (hg : G a = none) : a ∉ α := fun hm => by
  obtain ⟨i, hi, e⟩ := List.getElem_of_mem hm
  have hi' : i < s.length := by rw [← S.len]; exact hi
  rcases (S.cell i a s[i] (by rw [List.getElem?_eq_getElem hi, e]) (List.getElem?_eq_getElem hi')).gb with h | ⟨o, h⟩
  · rw [hb] at h; cases h
  · rw [hg] at h; cases h
theorem CellR.base {B' : Hp} {a : Addr} (hb : B a = none → B' a = none) : ∀ {c : Cell}, CellR T B G H α a c → CellR T B' G H α a c
  | .lst l, ⟨h1, h2, h3⟩ => ⟨h1, hb h2, h3⟩
  | .dct nd kvs, ⟨h1, h2, h3⟩ => ⟨h1, hb h2, h3⟩
  | .ins c fs, ⟨h1, h2, h3⟩ => ⟨h1, hb h2, h3⟩
  | .fzl l, h => h
  | .gone, ⟨h1, h2⟩ => ⟨hb h1, h2⟩
/-- D at hand is kept, too -/
theorem StM.hold (S : StM T B G H α s) {a : Addr} {o : HO} (ha : H a = some o) (hn : a ∉ α) : StM T (upd B a o) G H α s := by
  refine ⟨S.gh, fun b u e => ?_, S.len, S.nd, fun i b c h1 h2 => (S.cell i b c h1 h2).base fun e => ?_⟩
  · by_cases hb : b = a
    · subst hb; rw [upd_same] at e; cases e; exact ha
    · rw [upd_ne hb] at e; exact S.bh b u e
  · rw [upd_ne]
    · exact e
    · rintro rfl; exact hn (List.mem_of_getElem? h1)
theorem StM.unhold (S : StM T (upd B a o) G H α s) (hb : B a = none) : StM T B G H α s := by
  refine ⟨S.gh, fun b u e => S.bh b u (by rw [upd_ne (ne_of_none e hb)]; exact e), S.len, S.nd, fun i b c h1 h2 => (S.cell i b c h1 h2).base fun e => ?_⟩
  cases q : B b with
  | none => rfl
  | some u => rw [upd_ne (ne_of_none q hb), q] at e; cases e
theorem Ext.unhold {a : Addr} {o : HO} {G' : Hp} {α' : List Addr} (x : Ext (upd B a o) G α G' α') (hb : B a = none) : Ext B G α G' α' := ⟨x.g, x.a, fun b h1 h2 => x.b b (by
  cases q : B b with
  | none => exact absurd q h1
  | some u => rw [upd_ne (ne_of_none q hb), q]; exact fun z => by cases z) h2⟩
theorem Ext.held {a : Addr} {o : HO} {G' : Hp} {α' : List Addr} (x : Ext (upd B a o) G α G' α') (hg : G a = none) : G' a = none := x.b a (by rw [upd_same]; exact fun z => by cases z) hg
/-- an object beside is changed -/
theorem StM.side (S : StM T B G H α s) {a : Addr} {o : HO} (hb : B a = none) (hg : G a = none) (hn : a ∉ α) : StM T B G (upd H a o) α s := by
  have k : ∀ b u, b ≠ a → H b = some u → upd H a o b = some u := fun b u h e => by rw [upd_ne h]; exact e
  refine ⟨fun b u e => k b u (ne_of_none e hg) (S.gh b u e), fun b u e => k b u (ne_of_none e hb) (S.bh b u e), S.len, S.nd, fun i b c h1 h2 => (S.cell i b c h1 h2).mono (Same.refl G) ⟨[], by simp⟩ (fun z => z) fun u e => k b u ?_ e⟩
  rintro rfl; exact hn (List.mem_of_getElem? h1)
end

/-! ### targets -/
section
variable {T : Tab} {X : Cx} {G : Hp} {α : List Addr}
theorem EnvR.set {ρ : Env} {σ : L2.St} (E : EnvR T G α ρ σ) (i : Nat) {w : W} {v : V} (r : RW T G α w v) : EnvR T G α (ρ.set i (some w)) (σ.set i (some v)) := by
  refine ⟨by simp [E.1], fun j w' e => ?_⟩
  by_cases hj : j = i
  · subst hj
    have hl : j < ρ.length := by simpa using (List.getElem?_eq_some_iff.mp e).1
    rw [List.getElem?_set_self hl] at e
    cases e
    exact ⟨v, by rw [List.getElem?_set_self (by rw [← E.1]; exact hl)], r⟩
  · rw [List.getElem?_set_ne (Ne.symm hj)] at e
    obtain ⟨v', h1, h2⟩ := E.2 j w' e
    exact ⟨v', by rw [List.getElem?_set_ne (Ne.symm hj)]; exact h1, h2⟩
theorem EnvR.unset {ρ : Env} {σ : L2.St} (E : EnvR T G α ρ σ) (i : Nat) : EnvR T G α (ρ.set i none) (σ.set i none) := by
  refine ⟨by simp [E.1], fun j w' e => ?_⟩
  by_cases hj : j = i
  · subst hj
    have hl : j < ρ.length := by simpa using (List.getElem?_eq_some_iff.mp e).1
    rw [List.getElem?_set_self hl] at e
    cases e
  · rw [List.getElem?_set_ne (Ne.symm hj)] at e
    obtain ⟨v', h1, h2⟩ := E.2 j w' e
    exact ⟨v', by rw [List.getElem?_set_ne (Ne.symm hj)]; exact h1, h2⟩
theorem EnvR.wipe {ρ : Env} {σ : L2.St} (E : EnvR T G α ρ σ) : ∀ vs : List Nat, EnvR T G α (wipeE ρ vs) (L2.wipe σ vs)
  | [] => E
  | v :: vs => (EnvR.wipe E vs).unset v
/-- the layer's reading of a target -/
def gAll : List Nat → TGs
  | [] => gNil
  | i :: is => gCons (gName i) (gAll is)
def gT (K : PySem.W.Frag) : Tg → TG
  | .n i => gName i
  | .t is => gTup K is.length (gAll is)
theorem wipe_comm {i : Nat} {v : Option V} : ∀ {vs : List Nat}, i ∉ vs → ∀ {σ : L2.St}, L2.wipe (σ.set i v) vs = (L2.wipe σ vs).set i v
  | [], _, _ => rfl
  | w :: vs, h, σ => by
    show (L2.wipe (σ.set i v) vs).set w none = ((L2.wipe σ vs).set w none).set i v
    rw [wipe_comm (fun z => h (List.mem_cons_of_mem _ z)), List.set_comm]
    rintro rfl; exact h List.mem_cons_self
theorem wipe_set {i : Nat} : ∀ {vs : List Nat}, i ∈ vs → ∀ (σ : L2.St) (v : Option V), L2.wipe (σ.set i v) vs = L2.wipe σ vs
  | w :: vs, h, σ, v => by
    show (L2.wipe (σ.set i v) vs).set w none = (L2.wipe σ vs).set w none
    by_cases hi : i ∈ vs
    · rw [wipe_set hi]
    · have hw : i = w := by
        rcases List.mem_cons.mp h with e | e
        · exact e
        · exact absurd e hi
      subst hw
      rw [wipe_comm hi, List.set_set]
theorem setAll_ok {H : Hp} : ∀ (is : List Nat) {xs : List PyData} {vs : List V} {ρ ρ' : Env} {σ : L2.St} {Q : L2.St → Hp → Prop}, EnvR T G α ρ σ → DpAll T.K G vs xs → setAll ρ is xs = some ρ' → (∀ σ', EnvR T G α ρ' σ' → (∀ vs, (∀ i ∈ is, i ∈ vs) → L2.wipe σ' vs = L2.wipe σ vs) → Q σ' H) → gAll is vs σ H Q := by
  intro is
  induction is with
  | nil =>
    intro xs vs ρ ρ' σ Q E d e q
    cases xs with
    | nil => cases e; cases d; exact ⟨rfl, q σ E fun _ _ => rfl⟩
    | cons x xs => cases e
  | cons i is ih =>
    intro xs vs ρ ρ' σ Q E d e q
    cases xs with
    | nil => cases e
    | cons x xs =>
      cases d with
      | cons d1 d2 =>
        refine ⟨_, _, rfl, ih (E.set i (show RW T G α (.d x) _ from d1)) d2 e fun σ' E' w => q σ' E' fun vs hv => ?_⟩
        rw [w vs fun j hj => hv j (List.mem_cons_of_mem _ hj)]
        exact wipe_set (hv i List.mem_cons_self) _ _
def tgSlots : Tg → List Nat
  | .n i => [i]
  | .t is => is
theorem asgT_ok {H : Hp} {t : Tg} {w : W} {v : V} {ρ ρ' : Env} {σ : L2.St} {Q : L2.St → Hp → Prop} (E : EnvR T G α ρ σ) (gh : Same G H) (r : RW T G α w v) (e : asgT ρ t w = some ρ') (q : ∀ σ', EnvR T G α ρ' σ' → (∀ vs, (∀ i ∈ tgSlots t, i ∈ vs) → L2.wipe σ' vs = L2.wipe σ vs) → Q σ' H) : gT T.K t v σ H Q := by
  cases t with
  | n i =>
    cases e
    exact q _ (E.set i r) fun vs hv => wipe_set (hv i (by simp [tgSlots])) _ _
  | t is =>
    cases w with
    | d x =>
      cases x with
      | tuple l =>
        obtain ⟨a, vs, rfl, h1, d⟩ := (show Dp T.K G v (.tuple l) from r).tup_inv
        refine ⟨a, vs, rfl, Same.seqT gh h1, ?_, setAll_ok _ E d e q⟩
        have : ∀ {is : List Nat} {xs : List PyData} {ρ ρ' : Env}, setAll ρ is xs = some ρ' → xs.length = is.length := by
          intro is
          induction is with
          | nil => intro xs ρ ρ' e; cases xs with
            | nil => rfl
            | cons _ _ => cases e
          | cons i is ih => intro xs ρ ρ' e; cases xs with
            | nil => cases e
            | cons x xs => simp [ih e]
        rw [d.len]
        exact this e
      | _ => cases e
    | _ => cases e
end

/-! ### what is walked -/
/-- J walks just these items -/
def Wk (G : Hp) (J : L2.It) (vs : List V) : Prop := ∀ (i : Nat) (H : Hp), Same G H → (i < vs.length → J.go i H ∧ ∀ x H', J.yld i H x H' → H' = H ∧ vs[i]? = some x) ∧ (vs.length ≤ i → J.stop i H)
theorem wk_list {K : PySem.W.Frag} {G : Hp} {a : Addr} {vs : List V} (h : SqL K G a vs) : Wk G (Itl K a) vs := fun i H s =>
  ⟨fun hi => ⟨⟨vs, vs[i], s.seq h, List.getElem?_eq_getElem hi⟩, fun x H' y => ⟨y.1, y.2 vs (s.seq h)⟩⟩, fun hi => ⟨vs, s.seq h, hi⟩⟩
theorem wk_tup {K : PySem.W.Frag} {G : Hp} {a : Addr} {vs : List V} (h : SqT K G a vs) : Wk G (Itt K a) vs := fun i H s =>
  ⟨fun hi => ⟨⟨vs, vs[i], Same.seqT s h, List.getElem?_eq_getElem hi⟩, fun x H' y => ⟨y.1, y.2 vs (Same.seqT s h)⟩⟩, fun hi => ⟨vs, Same.seqT s h, hi⟩⟩
def upV (lo : Int) (n : Nat) : List V := (List.range n).map fun (i : Nat) => V.int (lo + (i : Int))
theorem wk_rng {G : Hp} (lo : Int) (n : Nat) : Wk G (Itr lo n) (upV lo n) := fun i H s => by
  refine ⟨fun hi => ⟨show i < n by simpa [upV] using hi, fun x H' y => ⟨y.1, ?_⟩⟩, fun hi => show n ≤ i by simpa [upV] using hi⟩
  rw [y.2]
  have hi' : i < n := by simpa [upV] using hi
  simp [upV, hi']
theorem upTo_dp {K : PySem.W.Frag} {G : Hp} : ∀ (n : Nat) (lo : Int), DpAll K G (upV lo n) (upTo lo n)
  | 0, lo => by simp [upV, upTo]; exact .nil
  | n + 1, lo => by
    have e : upV lo (n + 1) = V.int lo :: upV (lo + 1) n := by
      unfold upV
      rw [List.range_succ_eq_map, List.map_cons, List.map_map]
      congr 1
      · simp
      · apply List.map_congr_left; intro i _; simp; omega
    rw [e, upTo]
    exact .cons (.int lo) (upTo_dp n (lo + 1))
def rIt (T : Tab) : Rel (List PyData) L2.It := fun _ G _ _ items J => ∃ vs, Wk G J vs ∧ DpAll T.K G vs items
abbrev tI (T : Tab) (Wx : WX) (f : Env → List Cell → R (List PyData)) : TI := rd T Wx (rIt T) f
theorem PI_imp {X : Cx} {tg e : Expr} {t t' : TI} (h : PI X tg e t) (i : ∀ σ H Q, t' σ H Q → t σ H Q) : PI X tg e t' := ⟨fun pins s σ H Q I q => h.run pins s σ H Q I (i σ H Q q)⟩
theorem PI_or {X : Cx} {tg e : Expr} {t t' : TI} (h : PI X tg e t) (h' : PI X tg e t') : PI X tg e (fun σ H Q => t σ H Q ∨ t' σ H Q) := ⟨fun pins s σ H Q I q => q.elim (h.run pins s σ H Q I) (h'.run pins s σ H Q I)⟩
section
variable {X : Cx} {T : Tab} {k : Nat} {Wx : WX} {a b c e tg : Expr} {es : List Expr} {p pos apos cpos : Pos} {fa fb fc : Env → List Cell → R W} {fes : Env → List Cell → R (List W)}
def fSeq (fa : Env → List Cell → R W) : Env → List Cell → R (List PyData) := fun ρ s => (fa ρ s).bind fun w s => (frzR w s).bind fun x s => lift (seqOf x) s
/-- a list or tuple: which, is told where it is walked -/
theorem PI_seq {tl : TE} (h : PE X e tl) : PI X tg e (fun σ H R => tl σ H fun x H1 => ∃ a, x = .ref a ∧ (((∃ xs, SqL X.K H1 a xs) ∧ R (Itl X.K a) H1) ∨ ((∃ xs, SqT X.K H1 a xs) ∧ R (Itt X.K a) H1))) := by
  refine ⟨fun pins s σ H R I q => ?_⟩
  refine thn (h.run pins s σ H _ I q) fun v s1 ⟨x, H1, I1, r1, a, ea, q1⟩ => ?_
  subst ea
  have I1' := I1
  have one : PE X e (fun σ' H' Q => Q (.ref a) H1) → True := fun _ => trivial
  rcases q1 with ⟨hq, q1⟩ | ⟨hq, q1⟩
  · cases r1
    obtain ⟨xs, hq⟩ := hq
    obtain ⟨its, rv, p, hz⟩ := I1.list hq
    refine wpAny_pyIter_list p.isList ?_
    refine ⟨s1.heap.objs.size, [s1.heap.objs.size], _, _, H1, rfl, I1.kept (t' := s1.toks) fun b o e => Heap.get?_push_of_some _ e, turn_list a _, ⟨_, Heap.get?_push_size _ rfl, rfl, rfl⟩, fun b hb => ?_, q1⟩
    have e : b = s1.heap.objs.size := by simpa using hb
    subst e
    exact I1.fpOk (Nat.le_refl _) (I1.hok.fresh (Nat.le_refl _))
  · cases r1
    obtain ⟨xs, hq⟩ := hq
    obtain ⟨its, rv, p, hz⟩ := I1.tuple hq
    refine wpAny_pyIter_tuple (show s1.heap.IsTuple a its.toArray from p) ?_
    refine ⟨s1.heap.objs.size, [s1.heap.objs.size], _, _, H1, rfl, I1.kept (t' := s1.toks) fun b o e => Heap.get?_push_of_some _ e, turn_tuple a _, ⟨_, Heap.get?_push_size _ rfl, rfl, rfl⟩, fun b hb => ?_, q1⟩
    have e : b = s1.heap.objs.size := by simpa using hb
    subst e
    exact I1.fpOk (Nat.le_refl _) (I1.hok.fresh (Nat.le_refl _))
theorem d_seq (hK : X.K = T.K) (ha : PE X a (tE T Wx fa)) : PI X tg a (tI T Wx (fSeq fa)) :=
  PI_imp (PI_seq ha) fun σ H Q h => by
    rw [hK]
    refine rd_mono (rd_bind (rel := rW T) (f := fa) h) fun u H1 ⟨B, G, α, ρ, s, w, r, M⟩ => ?_
    obtain ⟨G', s', x, x1, S', d, P⟩ := frz_at M.S r M.P
    obtain ⟨xs, hx, P⟩ := P.lift
    cases x with
    | list l =>
      cases hx
      obtain ⟨a, vs, rfl, h1, d1⟩ := d.lst_inv
      exact ⟨a, rfl, .inl ⟨⟨vs, S'.gh.seq h1⟩, P.now S' ⟨vs, wk_list h1, d1⟩⟩⟩
    | tuple l =>
      cases hx
      obtain ⟨a, vs, rfl, h1, d1⟩ := d.tup_inv
      exact ⟨a, rfl, .inr ⟨⟨vs, Same.seqT S'.gh h1⟩, P.now S' ⟨vs, wk_tup h1, d1⟩⟩⟩
    | _ => cases hx
theorem smallI_ok {j : Int} (h : smallI j = true) : -(2 ^ 62) ≤ j ∧ j < 2 ^ 62 := by
  simp only [smallI, Bool.and_eq_true, decide_eq_true_eq] at h
  exact ⟨by omega, by omega⟩
def fRng1 (fa : Env → List Cell → R W) : Env → List Cell → R (List PyData) := fun ρ s => (fa ρ s).bind fun x s => (ii x s).bind fun j s => if smallI j then .ok (upTo 0 j.toNat) s else .no
def fRng2 (fa fb : Env → List Cell → R W) : Env → List Cell → R (List PyData) := fun ρ s => (fa ρ s).bind fun x s => (fb ρ s).bind fun y s => (ii x s).bind fun i s => (ii y s).bind fun j s => if smallI i && smallI j then .ok (upTo i (j - i).toNat) s else .no
theorem tA_nil {σ : L2.St} {H : Hp} {Q : List V → Hp → Prop} (q : Q [] H) : L2.tNil σ H Q := q
theorem d_rng1 (hg : Gl X "range") (hm : X.mg "range" = none) (ha : PE X a (tE T Wx fa)) (he : starEach [a] X.env = [(false, eval a X.env)]) : PI X tg (.Call (.Name "range" p) [a] [] pos) (tI T Wx (fRng1 fa)) :=
  PI_imp (pi_range1 hg hm (pa_cons ha pa_nil he) he) fun σ H Q h => by
    refine rd_mono (rd_bind (rel := rW T) (f := fa) h) fun u H1 ⟨B, G, α, ρ, s, w, r, M⟩ => ?_
    obtain ⟨j, rfl, P⟩ := ii_inv M.P
    obtain rfl := (show Dp T.K _ _ _ from r).int_inv
    by_cases hz : smallI j = true
    · rw [if_pos hz] at P
      have h2 := smallI_ok hz
      exact ⟨j, rfl, h2.1, h2.2, P.now M.S ⟨upV 0 j.toNat, wk_rng _ _, upTo_dp _ _⟩⟩
    · rw [if_neg hz] at P
      exact P.elim
theorem d_rng2 (hg : Gl X "range") (hm : X.mg "range" = none) (ha : PE X a (tE T Wx fa)) (hb : PE X b (tE T Wx fb)) (he : starEach [a, b] X.env = [(false, eval a X.env), (false, eval b X.env)]) (he2 : starEach [b] X.env = [(false, eval b X.env)]) :
    PI X tg (.Call (.Name "range" p) [a, b] [] pos) (tI T Wx (fRng2 fa fb)) :=
  PI_imp (pi_range2 hg hm (pa_cons ha (pa_cons hb pa_nil he2) (by rw [he, he2])) he he2) fun σ H Q h => by
    refine rd_mono (rd_bind (rel := rW T) (f := fa) h) fun u H1 ⟨B, G, α, ρ, s, w, r, M⟩ => ?_
    obtain ⟨B1, G1, α1, ρ1, s1, S, E, P⟩ := M.step (rel := rW T) (f := fb)
    refine ⟨B1, G1, α1, ρ1, s1, S, E, P.mono fun v H2 ⟨G2, α2, s2, y, x2, ry, M2⟩ => ?_⟩
    obtain ⟨i, rfl, P9⟩ := ii_inv M2.P
    obtain ⟨j, rfl, P⟩ := ii_inv P9
    obtain rfl := (show Dp T.K _ _ _ from r).int_inv
    obtain rfl := (show Dp T.K _ _ _ from ry).int_inv
    by_cases hz : (smallI i && smallI j) = true
    · rw [if_pos hz] at P
      rw [Bool.and_eq_true] at hz
      have h1 := smallI_ok hz.1
      have h2 := smallI_ok hz.2
      exact ⟨i, j, rfl, ⟨h1.1, h1.2, h2.1, h2.2⟩, P.now M2.S ⟨upV i (j - i).toNat, wk_rng _ _, upTo_dp _ _⟩⟩
    · rw [if_neg hz] at P
      exact P.elim
end
end DM

set_option maxRecDepth 100000
/-! DM5b: sums, greatest ones; list(range(..)); pop, clear. -/
namespace DM
open PySem PySem.Spec PyProof.Rows L2
section
variable {X : Cx} {T : Tab} {k : Nat} {Wx : WX} {a b c e : Expr} {es : List Expr} {p pos apos cpos : Pos} {fa fb fc : Env → List Cell → R W} {fes : Env → List Cell → R (List W)}
theorem maxI_ok : ∀ (r : List Int) (i : Int), (r.foldl (fun a y => if a < y then y else a) i) ∈ i :: r ∧ ∀ y ∈ i :: r, y ≤ r.foldl (fun a y => if a < y then y else a) i
  | [], i => ⟨List.mem_cons_self, fun y h => by rcases List.mem_cons.mp h with rfl | h; exact Int.le_refl _; cases h⟩
  | z :: r, i => by
    rw [List.foldl_cons]
    by_cases q : i < z
    · rw [if_pos q]
      obtain ⟨h1, h2⟩ := maxI_ok r z
      refine ⟨List.mem_cons_of_mem _ h1, fun y hy => ?_⟩
      rcases List.mem_cons.mp hy with rfl | hy
      · have := h2 z List.mem_cons_self; omega
      · exact h2 y hy
    · rw [if_neg q]
      obtain ⟨h1, h2⟩ := maxI_ok r i
      refine ⟨?_, fun y hy => ?_⟩
      · rcases List.mem_cons.mp h1 with h | h
        · rw [h]; exact List.mem_cons_self
        · exact List.mem_cons_of_mem _ (List.mem_cons_of_mem _ h)
      · rcases List.mem_cons.mp hy with rfl | hy
        · exact h2 _ List.mem_cons_self
        · rcases List.mem_cons.mp hy with rfl | hy
          · have := h2 i List.mem_cons_self; omega
          · exact h2 y (List.mem_cons_of_mem _ hy)
theorem maxI_is {l : List Int} {m : Int} (h : maxI l = some m) : 0 < l.length ∧ ∀ z, z ∈ l → (∀ y, y ∈ l → y ≤ z) → z = m := by
  cases l with
  | nil => cases h
  | cons i r =>
    cases h
    obtain ⟨h1, h2⟩ := maxI_ok r i
    refine ⟨by simp, fun z hz hm => ?_⟩
    have a := h2 z hz
    have b := hm _ h1
    omega
def rMaxT (K : PySem.W.Frag) : List V → Hp → VK → Prop := fun vs H Q => ∃ (a : Addr) (ns : List Int), vs = [V.ref a] ∧ SqT K H a (ns.map V.int) ∧ 0 < ns.length ∧ ∀ m, m ∈ ns → (∀ y, y ∈ ns → y ≤ m) → Q (.int m) H
theorem boot_sumB : bootBuiltins ("sum" : Str) = some (.builtin "sum") := by decide +kernel
theorem d_sum (hc : X.calm = true) (hK : X.K = T.K) (hg : Gl X "sum") (hm : X.mg "sum" = none) (ha : PA X (e :: es) (tA T Wx fes)) (he : starEach (e :: es) X.env = (false, eval e X.env) :: starEach es X.env) (hpl : (backTo pos (starEach es X.env)).any (·.1) = false) :
    PE X (.Call (.Name "sum" p) (e :: es) [] pos) (tE T Wx (fBi .sum fes)) :=
  PE_imp (pe_callB (cr_sum hc) hg hm boot_sumB ha (by decide) (by decide) he hpl) fun σ H Q h => by
    refine rd_mono (bi_read h) fun vs H1 ⟨xs, y, d, e, q⟩ => ?_
    rw [hK]
    match xs, e with
    | [.list l], e =>
      obtain ⟨v, rfl, dv⟩ := DpAll.one d
      obtain ⟨a, us, rfl, h1, h2⟩ := dv.lst_inv
      simp only [biD] at e
      cases e2 : intsOf l with
      | none => rw [e2] at e; cases e
      | some ns =>
        rw [e2] at e
        cases e
        rw [intsOf_map e2] at h2
        rw [ints_vs h2] at h1
        exact ⟨a, ns, rfl, h1, q _ fun G => .int _⟩
theorem holdAll_ints {h : Heap} : ∀ {ns : List Int} {us : List Value}, Vals (ns.map V.int) us → PySem.W.HoldAll h us ns
  | [], us, r => by cases r; exact PySem.W.HoldAll.nil
  | n :: ns, us, r => by
    cases r with
    | cons r1 r2 =>
      obtain ⟨t, rfl⟩ := r1
      exact PySem.W.HoldAll.cons ⟨_, .int n t⟩ (holdAll_ints r2)
theorem cr_maxT (hc : X.calm = true) (hu : X.A.units + 64 < cLine) : CallR X (.builtin "max") (rMaxT X.K) := by
  intro pins s σ H vs us Q I r h
  obtain ⟨a, ns, rfl, hs, hne, q⟩ := h
  obtain ⟨its, rv, hl, _⟩ := I.tuple hs
  rw [Vals.ref1 r]
  cases ns with
  | nil => cases hne
  | cons n ns =>
    refine PySem.W.max_tuple_datum (I.ok.hd hc) hl (by simpa using holdAll_ints rv) (by show X.A.units + 1 + 0 < cLine; omega) fun i v h' tk hv hh hk => ?_
    obtain ⟨as, hr⟩ := hh
    have e : PySem.W.maxOf n ns = ns.foldl (fun a y => if a < y then y else a) n := by
      unfold PySem.W.maxOf
      congr 1
      funext a y
      show (if decide (a < y) = true then y else a) = _
      by_cases h : a < y <;> simp [h]
    obtain ⟨h1, h2⟩ := maxI_ok ns n
    rw [← e] at h1 h2
    cases hr with
    | @int i t => exact ⟨.int _, H, I.kept hk, ⟨_, rfl⟩, q _ h1 h2⟩
theorem d_maxl (hc : X.calm = true) (hu : X.A.units + 64 < cLine) (hK : X.K = T.K) (hg : Gl X "max") (hm : X.mg "max" = none) (ha : PA X (e :: es) (tA T Wx fes)) (he : starEach (e :: es) X.env = (false, eval e X.env) :: starEach es X.env) (hpl : (backTo pos (starEach es X.env)).any (·.1) = false) :
    PE X (.Call (.Name "max" p) (e :: es) [] pos) (tE T Wx (fBi .maxl fes)) :=
  PE_imp (pe_callB (r := fun vs H Q => rMax X.K vs H Q ∨ rMaxT X.K vs H Q) (fun pins s σ H vs us Q I r h => h.elim (cr_max hc pins s σ H vs us Q I r) (cr_maxT hc hu pins s σ H vs us Q I r)) hg hm boot_maxB ha (by decide) (by decide) he hpl) fun σ H Q h => by
    refine rd_mono (bi_read h) fun vs H1 ⟨xs, y, d, e, q⟩ => ?_
    rw [hK]
    match xs, e with
    | [.list l], e =>
      obtain ⟨v, rfl, dv⟩ := DpAll.one d
      obtain ⟨a, us, rfl, h1, h2⟩ := dv.lst_inv
      simp only [biD] at e
      cases e2 : intsOf l with
      | none => rw [e2] at e; cases e
      | some ns =>
        rw [e2] at e
        simp only [Option.bind_some] at e
        cases e3 : maxI ns with
        | none => rw [e3] at e; cases e
        | some m =>
          rw [e3] at e
          cases e
          rw [intsOf_map e2] at h2
          rw [ints_vs h2] at h1
          obtain ⟨p1, p2⟩ := maxI_is e3
          exact .inl ⟨a, ns, rfl, h1, p1, fun z hz hm => by rw [p2 z hz hm]; exact q _ fun G => .int _⟩
    | [.tuple l], e =>
      obtain ⟨v, rfl, dv⟩ := DpAll.one d
      obtain ⟨a, us, rfl, h1, h2⟩ := dv.tup_inv
      simp only [biD] at e
      cases e2 : intsOf l with
      | none => rw [e2] at e; cases e
      | some ns =>
        rw [e2] at e
        simp only [Option.bind_some] at e
        cases e3 : maxI ns with
        | none => rw [e3] at e; cases e
        | some m =>
          rw [e3] at e
          cases e
          rw [intsOf_map e2] at h2
          rw [ints_vs h2] at h1
          obtain ⟨p1, p2⟩ := maxI_is e3
          exact .inr ⟨a, ns, rfl, h1, p1, fun z hz hm => by rw [p2 z hz hm]; exact q _ fun G => .int _⟩
/-! ### list(range(n)) -/
def fLrng (fa : Env → List Cell → R W) : Env → List Cell → R (List PyData) := fun ρ s => (fa ρ s).bind fun x s => (ii x s).bind fun j s => if decide (j ≤ 16777216) && decide (-4611686018427387904 ≤ j) then .ok (upTo 0 j.toNat) s else .no
theorem rgV_dp {K : PySem.W.Frag} {G : Hp} (j : Int) : DpAll K G (rgV 0 j) (upTo 0 j.toNat) := by
  have e : rgV 0 j = upV 0 j.toNat := by unfold rgV upV; rw [Int.sub_zero]
  rw [e]
  exact upTo_dp _ _
theorem d_lrng {p2 pos2 : Pos} (hc : X.calm = true) (hgl : Gl X "list") (hml : X.mg "list" = none) (hg : Gl X "range") (hm : X.mg "range" = none) (ha : PE X a (tE T Wx fa)) (he : starEach [a] X.env = (false, eval a X.env) :: starEach [] X.env)
    (he2 : starEach [.Call (.Name "range" p) [a] [] pos] X.env = (false, eval (.Call (.Name "range" p) [a] [] pos) X.env) :: starEach [] X.env) :
    PE X (.Call (.Name "list" p2) [.Call (.Name "range" p) [a] [] pos] [] pos2) (tF T Wx (fLrng fa)) :=
  PE_imp (pe_listRg hc hgl hml (prg_1 hg hm ha he) he2) fun σ H Q h => by
    refine rd_mono (rd_bind (rel := rW T) (f := fa) h) fun u H1 ⟨B, G, α, ρ, s, x, rx, M⟩ => ?_
    obtain ⟨j, rfl, P⟩ := ii_inv M.P
    obtain rfl := (show Dp T.K G u (.int j) from rx).int_inv
    by_cases hb : (decide (j ≤ 16777216) && decide (-4611686018427387904 ≤ j)) = true
    · rw [if_pos hb] at P
      simp only [Bool.and_eq_true, decide_eq_true_eq] at hb
      refine ⟨j, rfl, ⟨by omega, by omega, by omega, by omega, by omega⟩, fun q hq => ?_⟩
      exact P.lst M.S (rgV_dp j) hq
    · rw [if_neg hb] at P; exact P.elim
/-! ### pop, clear -/
def fPop (fo : Env → List Cell → R W) : Env → List Cell → R W := fun ρ s => (fo ρ s).bind fun w s => popW w s
def fClr (fo : Env → List Cell → R W) : Env → List Cell → R W := fun ρ s => (fo ρ s).bind fun w s => clrW w s
theorem DpAll.dropLast {K : PySem.W.Frag} {G : Hp} {l : List PyData} {vs : List V} (h : DpAll K G vs l) : DpAll K G vs.dropLast l.dropLast := by
  rw [List.dropLast_eq_take, List.dropLast_eq_take, h.len]
  exact h.take _
theorem d_pop (hK : X.K = T.K) (ha : PE X a (tE T Wx fa)) (hbase : attributeBase a "pop" X.env (eval a X.env) = eval a X.env) (hline : (apos.endLine == cpos.line) = true) :
    PE X (.Call (.Attribute a "pop" apos) [] [] cpos) (tE T Wx (fPop fa)) :=
  PE_imp (pe_bm0 PySem.F.plainAttrs_list PySem.F.slot_list_pop PySem.F.type_list_pop mt_pop ha hbase hline) fun σ H Q h => by
    rw [hK]
    refine rd_mono (rd_bind (rel := rW T) (f := fa) h) fun u H1 ⟨B, G, α, ρ, s, x, rx, M⟩ => ?_
    have P := M.P
    cases x with
    | h i =>
      simp only [popW] at P
      cases e : s[i]? with
      | none => rw [e] at P; exact P.elim
      | some c =>
        rw [e] at P
        cases c with
        | lst l =>
          simp only at P
          obtain ⟨a, vs, rfl, ha, h1, h2, h3, h4⟩ := cell_list M.S e rx
          cases e2 : l[l.length - 1]? with
          | none => rw [e2] at P; exact P.elim
          | some y =>
            rw [e2] at P
            obtain ⟨v, hv, dv⟩ := h4.get e2
            refine ⟨tyV_list (SqL.of h3), a, vs, v, rfl, rfl, h3, by rw [h4.len]; exact hv, ?_⟩
            exact P.at Ext.refl' (M.S.set ha h1 h2 ⟨h1, h2, _, upd_same, DpAll.dropLast h4⟩) (show Dp T.K _ _ _ from dv)
        | _ => exact P.elim
    | _ => exact P.elim
theorem d_clr (hK : X.K = T.K) (ha : PE X a (tE T Wx fa)) (hbase : attributeBase a "clear" X.env (eval a X.env) = eval a X.env) (hline : (apos.endLine == cpos.line) = true) :
    PE X (.Call (.Attribute a "clear" apos) [] [] cpos) (tE T Wx (fClr fa)) :=
  PE_imp (pe_bm0 PySem.F.plainAttrs_list PySem.F.slot_list_clear PySem.F.type_list_clear mt_clear ha hbase hline) fun σ H Q h => by
    rw [hK]
    refine rd_mono (rd_bind (rel := rW T) (f := fa) h) fun u H1 ⟨B, G, α, ρ, s, x, rx, M⟩ => ?_
    have P := M.P
    cases x with
    | h i =>
      simp only [clrW] at P
      cases e : s[i]? with
      | none => rw [e] at P; exact P.elim
      | some c =>
        rw [e] at P
        cases c with
        | lst l =>
          simp only at P
          obtain ⟨a, vs, rfl, ha, h1, h2, h3, h4⟩ := cell_list M.S e rx
          refine ⟨tyV_list (SqL.of h3), a, vs, rfl, rfl, h3, ?_⟩
          exact P.at Ext.refl' (M.S.set ha h1 h2 ⟨h1, h2, _, upd_same, .nil⟩) (show Dp T.K _ _ _ from .non)
        | _ => exact P.elim
    | _ => exact P.elim
end
end DM

set_option maxRecDepth 100000
/-! DM7: comprehensions, loops, statements. -/
namespace DM
open PySem PySem.Spec PyProof.Rows L2
def W0 : WX := fun _ _ _ _ => False
theorem wipe_idem (σ : L2.St) : ∀ vs : List Nat, L2.wipe (L2.wipe σ vs) vs = L2.wipe σ vs
  | [] => rfl
  | v :: vs => by
    show (L2.wipe ((L2.wipe σ vs).set v none) vs).set v none = (L2.wipe σ vs).set v none
    by_cases hv : v ∈ vs
    · rw [wipe_set hv, wipe_idem σ vs]
    · rw [wipe_comm hv, wipe_idem σ vs, List.set_set]
section
variable {X : Cx} {T : Tab} {k : Nat} {Wx : WX} {tg elt iter : Expr} {ifs : List Expr} {scope : Scope} {own : List (Str × Nat)} {pos : Pos} {t : Tg}
def turnC (t : Tg) (own : List Nat) (fc : Env → List Cell → R Bool) (fe : Env → List Cell → R W) (ρ : Env) : PyData → List Cell → R (Option PyData) := fun x s => match asgT (wipeE ρ own) t (.d x) with
    | some ρ' => (fc ρ' s).bind fun b s => if b then (fe ρ' s).bind fun w s => (frzR w s).bind fun y s => .ok (some y) s else .ok none s
    | none => .no
def fComp (fi : Env → List Cell → R (List PyData)) (t : Tg) (own : List Nat) (fc : Env → List Cell → R Bool) (fe : Env → List Cell → R W) : Env → List Cell → R (List PyData) := fun ρ s =>
  (fi ρ s).bind fun items s => if items.length < sizeLine then compL (turnC t own fc fe ρ) items s else .no
theorem comp_walk {B G H1 : Hp} {α : List Addr} {ρ : Env} {s : List Cell} {σ : L2.St} {items : List PyData} {vs : List V} {J : L2.It} {own : List Nat} {fc : Env → List Cell → R Bool} {fe : Env → List Cell → R W} {Q : VK} (hsl : ∀ i ∈ tgSlots t, i ∈ own)
    (wk : Wk G J vs) (d : DpAll T.K G vs items) (S : StM T B G H1 α s) (E : EnvR T G α ρ σ) (hlen : items.length < sizeLine) (P : Post T Wx (rF T) B G α σ (compL (turnC t own fc fe ρ) items s) Q) {D : Addr} (hD : H1 D = none) :
    ∃ Wv : Nat → Nat → Hp → Prop, (∃ m, Wv 0 m (upd H1 D (.lst []))) ∧ ∀ i m H, Wv i m H →
      (J.stop i H ∧ Q (.ref D) H) ∨ (J.go i H ∧ ∃ Nx : Hp → Prop, (∀ H', Nx H' → ∃ m', m' < m ∧ Wv (i + 1) m' H') ∧ ∀ x H', J.yld i H x H' → gT T.K t x (L2.wipe σ own) H' fun σ2 H2 => L2.wipe σ2 own = L2.wipe σ own ∧ tT T W0 fc σ2 H2 fun b H3 =>
        if b = true then tE T W0 fe σ2 H3 fun y H4 => ∃ acc, H4 D = some (.lst acc) ∧ acc.length < sizeLine ∧ Nx (upd H4 D (.lst (acc ++ [y]))) else Nx H3) := by
  have hB : B D = none := same_none S.bh hD
  refine ⟨fun i m H => m = vs.length - i ∧ i ≤ vs.length ∧ ∃ (G' : Hp) (α' : List Addr) (s' : List Cell) (acc : List PyData) (av : List V), Ext B G α G' α' ∧ StM T B G' H α' s' ∧ H D = some (.lst av) ∧ G' D = none ∧ D ∉ α' ∧ DpAll T.K G' av acc ∧ acc.length ≤ i ∧
      (compL (turnC t own fc fe ρ) (items.drop i) s').bind (fun ys s => .ok (acc ++ ys) s) = compL (turnC t own fc fe ρ) items s,
    ⟨vs.length, by simp, Nat.zero_le _, G, α, s, [], [], Ext.refl', S.beside hD, upd_same, same_none S.gh hD, S.new_notin hD, .nil, Nat.zero_le _, ?_⟩, ?_⟩
  · simp only [List.drop_zero, List.nil_append]
    cases compL (turnC t own fc fe ρ) items s <;> rfl
  rintro i m H ⟨rfl, hi, G', α', s', acc, av, x, S', hHD, hGD, hαD, da, hacc, tot⟩
  have sGH : Same G H := x.g.trans S'.gh
  by_cases hlt : i < vs.length
  · obtain ⟨go, yl⟩ := (wk i H sGH).1 hlt
    have hli : i < items.length := by rw [← d.len]; exact hlt
    have hdrop : items.drop i = items[i] :: items.drop (i + 1) := List.drop_eq_getElem_cons hli
    rw [hdrop] at tot
    simp only [compL] at tot
    -- the turn
    cases et : turnC t own fc fe ρ items[i] s' with
    | no => rw [et] at tot; rw [← tot] at P; exact P.elim
    | ex z s2 => rw [et] at tot; rw [← tot] at P; exact P.elim
    | ok yo s2 =>
      rw [et] at tot
      refine .inr ⟨go, fun H' => vs.length - (i + 1) = vs.length - (i + 1) ∧ i + 1 ≤ vs.length ∧ ∃ (G' : Hp) (α' : List Addr) (s' : List Cell) (acc : List PyData) (av : List V), Ext B G α G' α' ∧ StM T B G' H' α' s' ∧ H' D = some (.lst av) ∧ G' D = none ∧ D ∉ α' ∧ DpAll T.K G' av acc ∧ acc.length ≤ i + 1 ∧
        (compL (turnC t own fc fe ρ) (items.drop (i + 1)) s').bind (fun ys s => .ok (acc ++ ys) s) = compL (turnC t own fc fe ρ) items s, fun H' h => ⟨vs.length - (i + 1), by omega, h⟩, fun xv H' y => ?_⟩
      obtain ⟨rfl, hxv⟩ := yl xv H' y
      obtain ⟨v', hv', dv⟩ := d.get (List.getElem?_eq_getElem hli)
      rw [hxv] at hv'
      cases hv'
      simp only [turnC] at et
      cases ea : asgT (wipeE ρ own) t (.d items[i]) with
      | none => rw [ea] at et; cases et
      | some ρ' =>
        rw [ea] at et
        simp only at et
        refine asgT_ok (E.wipe own |>.mono x) S'.gh (show RW T G' α' (.d items[i]) xv from Dp.mono x.g _ _ dv) ea fun σ' E' hw => ⟨by rw [hw own hsl, wipe_idem], ?_⟩
        refine ⟨upd B D (.lst av), G', α', ρ', s', S'.hold hHD hαD, E', ?_⟩
        cases ec : fc ρ' s' with
        | no => rw [ec] at et; cases et
        | ex z s3 => rw [ec] at et; cases et
        | ok b s3 =>
          rw [ec] at et
          simp only [R.bind_ok] at et
          intro G2 α2 H2 c x2 S2 rc
          obtain rfl : b = c := rc
          have hB2 : upd B D (.lst av) D = some (.lst av) := upd_same
          have hG2 : G2 D = none := x2.held hGD
          cases b with
          | false =>
            rw [if_neg Bool.false_ne_true] at et
            cases et
            refine iteF ⟨rfl, hlt, G2, α2, _, acc, av, x.trans (x2.unhold hB), S2.unhold hB, S2.bh _ _ hB2, hG2, S2.notin hB2 hG2, DpAll.mono x2.g _ _ da, Nat.le_succ_of_le hacc, ?_⟩
            rw [← tot]
            simp [R.bind_assoc]
          | true =>
            rw [if_pos rfl] at et
            refine iteT ⟨upd B D (.lst av), G2, α2, ρ', s3, S2, E'.mono x2, ?_⟩
            cases ee : fe ρ' s3 with
            | no => rw [ee] at et; cases et
            | ex z s4 => rw [ee] at et; cases et
            | ok w s4 =>
              rw [ee] at et
              simp only [R.bind_ok, frzR] at et
              intro G3 α3 H3 v x3 S3 rv
              cases ef : frz s4 w with
              | none => rw [ef] at et; cases et
              | some q =>
                obtain ⟨yd, s5⟩ := q
                rw [ef] at et
                simp only [R.bind_ok] at et
                cases et
                obtain ⟨G4, x4, S4, dy⟩ := frz_ok S3 ef rv
                have hG4 : G4 D = none := x4.held (x3.held hG2)
                have hn4 : D ∉ α3 := S4.notin hB2 hG4
                have S5 := StM.unhold S4 hB
                have xx : Ext B G' α' G4 α3 := (x2.trans (x3.trans x4)).unhold hB
                have hl : av.length = acc.length := da.len
                refine ⟨av, S4.bh _ _ hB2, by have := d.len; omega, rfl, hlt, G4, α3, _, acc ++ [yd], av ++ [v], x.trans xx, S5.side hB hG4 hn4, upd_same, hG4, hn4, (DpAll.mono xx.g _ _ da).append (.cons dy .nil), by simp; omega, ?_⟩
                rw [← tot]
                simp [R.bind_assoc]
  · have hi' : i = vs.length := by omega
    subst hi'
    have hst := (wk vs.length H sGH).2 (Nat.le_refl _)
    refine .inl ⟨hst, ?_⟩
    have : items.drop vs.length = [] := by rw [d.len]; simp
    rw [this] at tot
    simp only [compL, R.bind_ok, List.append_nil] at tot
    rw [← tot] at P
    exact P.at x S' ⟨D, av, rfl, hHD, hGD, hB, hαD, da⟩
theorem d_comp (hc : X.calm = true) (hN : X.N.Nodup) {fi : Env → List Cell → R (List PyData)} {fcnd : Env → List Cell → R Bool} {fe : Env → List Cell → R W} (hi : PI X tg iter (tI T Wx fi)) (ok : BlkOk X.N X.env.scope scope own)
    (hg : ∀ (s : Shared) (H : Hp) (C : Addr) (cl : List (Str × Addr)) (fp : List Addr), PG (X.blk s H scope (compEnvC scope cl C X.env) fp) tg (gT T.K t))
    (ht : ∀ (s : Shared) (H : Hp) (C : Addr) (cl : List (Str × Addr)) (fp : List Addr), PTs (X.blk s H scope (compEnvC scope cl C X.env) fp) ifs (tT T W0 fcnd))
    (he : ∀ (s : Shared) (H : Hp) (C : Addr) (cl : List (Str × Addr)) (fp : List Addr), PE (X.blk s H scope (compEnvC scope cl C X.env) fp) elt (tE T W0 fe)) (hs : ∀ x, foldedSetIterable iter X.env x = pure x) (hsl : ∀ i ∈ tgSlots t, i ∈ own.map (·.2)) :
    PE X (.ListComp elt [⟨tg, iter, ifs, 0⟩] scope pos) (tF T Wx (fComp fi t (own.map (·.2)) fcnd fe)) :=
  PE_imp (pe_lc hc hN hi ok hg ht he hs) fun σ H Q h => by
    refine rd_mono (rd_bind (rel := rIt T) h) fun J H1 ⟨B, G, α, ρ, s, items, ⟨vs, wk, d⟩, M⟩ D hD => ?_
    have P := M.P
    by_cases hz : items.length < sizeLine
    · rw [if_pos hz] at P
      exact comp_walk hsl wk d M.S M.E hz P hD
    · rw [if_neg hz] at P
      exact P.elim

/-! ### statements -/
def PostS (T : Tab) (Wx : WX) (B G : Hp) (α : List Addr) (r : RS) (D : Ends) : Prop := match r with
  | .ok (.nx, ρ') s' => ∀ (G' : Hp) (α' : List Addr) (H' : Hp) (σ' : L2.St), Ext B G α G' α' → StM T B G' H' α' s' → EnvR T G' α' ρ' σ' → D.nx σ' H'
  | .ok (.brk, ρ') s' => ∀ (G' : Hp) (α' : List Addr) (H' : Hp) (σ' : L2.St), Ext B G α G' α' → StM T B G' H' α' s' → EnvR T G' α' ρ' σ' → D.bk σ' H'
  | .ok (.ct, ρ') s' => ∀ (G' : Hp) (α' : List Addr) (H' : Hp) (σ' : L2.St), Ext B G α G' α' → StM T B G' H' α' s' → EnvR T G' α' ρ' σ' → D.ct σ' H'
  | .ok (.ret w, _) s' => ∀ (G' : Hp) (α' : List Addr) (H' : Hp) (v : V), Ext B G α G' α' → StM T B G' H' α' s' → RW T G' α' w v → D.rt v H'
  | .ok (.ex x, ρ') s' => ∀ (G' : Hp) (α' : List Addr) (H' : Hp) (cls : Value) (dx : Option Addr) (σ' : L2.St), Ext B G α G' α' → StM T B G' H' α' s' → EnvR T G' α' ρ' σ' → XR T H' x cls dx → Wx cls dx σ' H'
  | .ex _ _ => False
  | .no => False
def tS (T : Tab) (Wx : WX) (f : Env → List Cell → RS) : TS := fun D σ H => ∃ (B G : Hp) (α : List Addr) (ρ : Env) (s : List Cell), StM T B G H α s ∧ EnvR T G α ρ σ ∧ PostS T Wx B G α (f ρ s) D
theorem PostS.ext {B G G1 : Hp} {α α1 : List Addr} {r : RS} {D : Ends} (h : PostS T Wx B G α r D) (x : Ext B G α G1 α1) : PostS T Wx B G1 α1 r D := by
  cases r with
  | ok q s =>
    obtain ⟨o, ρ⟩ := q
    cases o with
    | nx => exact fun G' α' H' σ' y S E => h G' α' H' σ' (x.trans y) S E
    | brk => exact fun G' α' H' σ' y S E => h G' α' H' σ' (x.trans y) S E
    | ct => exact fun G' α' H' σ' y S E => h G' α' H' σ' (x.trans y) S E
    | ret w => exact fun G' α' H' v y S E => h G' α' H' v (x.trans y) S E
    | ex z => exact fun G' α' H' c d σ' y S E X => h G' α' H' c d σ' (x.trans y) S E X
  | ex z s => exact h
  | no => exact h
theorem PS_imp {st : Stmt} {t t' : TS} (h : PS X st t) (i : ∀ D σ H, t' D σ H → t D σ H) : PS X st t' := ⟨fun pins s σ H D I q => h.run pins s σ H D I (i D σ H q)⟩
theorem PSs_imp {st : List Stmt} {t t' : TS} (h : PSs X st t) (i : ∀ D σ H, t' D σ H → t D σ H) : PSs X st t' := ⟨fun pins s σ H D I q => h.run pins s σ H D I (i D σ H q)⟩
/-- an expression, then a statement's end -/
theorem st_read {β γ : Type} {rel : Rel β γ} {f : Env → List Cell → R β} {k : Env → β → List Cell → RS} {D : Ends} {σ : L2.St} {H : Hp} (h : tS T Wx (fun ρ s => (f ρ s).st ρ (k ρ)) D σ H) :
    rd T Wx rel f σ H fun c H1 => ∃ (B G : Hp) (α : List Addr) (ρ : Env) (s : List Cell) (b : β), rel B G α H1 b c ∧ StM T B G H1 α s ∧ EnvR T G α ρ σ ∧ PostS T Wx B G α (k ρ b s) D := by
  obtain ⟨B, G, α, ρ, s, S, E, P⟩ := h
  refine ⟨B, G, α, ρ, s, S, E, ?_⟩
  simp only at P
  cases e : f ρ s with
  | ok b s1 =>
    rw [e] at P
    exact fun G' α' H' c x S' r => ⟨B, G', α', ρ, s1, b, r, S', E.mono x, P.ext x⟩
  | ex z s1 =>
    rw [e] at P
    exact fun G' α' H' cls dx x S' r => P G' α' H' cls dx σ x S' (E.mono x) r
  | no =>
    rw [e] at P
    exact P
def fEx (f : Env → List Cell → R W) : Env → List Cell → RS := fun ρ s => (f ρ s).st ρ fun _ s => .ok (.nx, ρ) s
def fRet (f : Env → List Cell → R W) : Env → List Cell → RS := fun ρ s => (f ρ s).st ρ fun w s => .ok (.ret w, ρ) s
theorem d_ex {e : Expr} {f : Env → List Cell → R W} (he : PE X e (tE T Wx f)) (hs : swapsWith e none pos.line X.env = pure false) : PS X (.Expr e pos) (tS T Wx (fEx f)) :=
  PS_imp (ps_expr he hs) fun D σ H h => rd_mono (st_read (rel := rW T) (k := fun ρ _ s => .ok (.nx, ρ) s) h) fun v H1 ⟨B, G, α, ρ, s, b, r, S, E, P⟩ => P G α H1 σ Ext.refl' S E
theorem d_ret {e : Expr} {f : Env → List Cell → R W} (he : PE X e (tE T Wx f)) : PS X (.Return (some e) pos) (tS T Wx (fRet f)) :=
  PS_imp (ps_ret he) fun D σ H h => rd_mono (st_read (rel := rW T) (k := fun ρ w s => .ok (.ret w, ρ) s) h) fun v H1 ⟨B, G, α, ρ, s, b, r, S, E, P⟩ => P G α H1 v Ext.refl' S r
theorem d_retN : PS X (.Return none pos) (tS T Wx fun ρ s => .ok (.ret (.d .none), ρ) s) := PS_imp ps_retN fun D σ H ⟨B, G, α, ρ, s, S, E, P⟩ => P G α H .non Ext.refl' S (show Dp T.K _ _ _ from .non)
theorem d_pass : PS X (.Pass pos) (tS T Wx fun ρ s => .ok (.nx, ρ) s) := PS_imp ps_pass fun D σ H ⟨B, G, α, ρ, s, S, E, P⟩ => P G α H σ Ext.refl' S E
theorem d_brk : PS X (.Break pos) (tS T Wx fun ρ s => .ok (.brk, ρ) s) := PS_imp ps_break fun D σ H ⟨B, G, α, ρ, s, S, E, P⟩ => P G α H σ Ext.refl' S E
theorem d_ct : PS X (.Continue pos) (tS T Wx fun ρ s => .ok (.ct, ρ) s) := PS_imp ps_continue fun D σ H ⟨B, G, α, ρ, s, S, E, P⟩ => P G α H σ Ext.refl' S E
theorem d_stNo {st : Stmt} : PS X st (tS T Wx fun _ _ => .no) := PS_imp ps_never fun D σ H ⟨B, G, α, ρ, s, S, E, P⟩ => P
theorem d_no {e : Expr} : PE X e (tE T Wx fun _ _ => .no) := ⟨fun pins s σ H Q I ⟨B, G, α, ρ, s', S, E, P⟩ => P.elim⟩
theorem d_doc {x : Str} {j : Nat} {p : Pos} : PS X (.Expr (.Constant (.str x) j p) pos) (tS T Wx fun ρ s => .ok (.nx, ρ) s) := PS_imp ps_doc fun D σ H ⟨B, G, α, ρ, s, S, E, P⟩ => P G α H σ Ext.refl' S E
/-! blocks -/
def fSq (f : Env → List Cell → RS) (g : Env → List Cell → RS) : Env → List Cell → RS := fun ρ s => R.sq (f ρ s) g
theorem d_nilS : PSs X [] (tS T Wx fun ρ s => .ok (.nx, ρ) s) := PSs_imp pss_nil fun D σ H ⟨B, G, α, ρ, s, S, E, P⟩ => P G α H σ Ext.refl' S E
theorem d_consS {st : Stmt} {rest : List Stmt} {f g : Env → List Cell → RS} (h1 : PS X st (tS T Wx f)) (h2 : PSs X rest (tS T Wx g)) : PSs X (st :: rest) (tS T Wx (fSq f g)) :=
  PSs_imp (pss_cons h1 h2) fun D σ H ⟨B, G, α, ρ, s, S, E, P⟩ => by
    refine ⟨B, G, α, ρ, s, S, E, ?_⟩
    simp only [fSq] at P
    cases e : f ρ s with
    | ok q s1 =>
      obtain ⟨o, ρ1⟩ := q
      rw [e] at P
      cases o with
      | nx => exact fun G' α' H' σ' x S' E' => ⟨B, G', α', ρ1, s1, S', E', P.ext x⟩
      | brk => exact P
      | ct => exact P
      | ret w => exact P
      | ex z => exact P
    | ex z s1 => rw [e] at P; exact P
    | no => rw [e] at P; exact P
def fIf (c : Env → List Cell → R Bool) (f g : Env → List Cell → RS) : Env → List Cell → RS := fun ρ s => (c ρ s).st ρ fun k s => if k then f ρ s else g ρ s
theorem d_if {c : Expr} {a b : List Stmt} {fc : Env → List Cell → R Bool} {f g : Env → List Cell → RS} (hc : PT X c (tT T Wx fc)) (ha : PSs X a (tS T Wx f)) (hb : PSs X b (tS T Wx g)) : PS X (.If c a b pos) (tS T Wx (fIf fc f g)) :=
  PS_imp (ps_if hc ha hb) fun D σ H h => rd_mono (st_read (rel := rB) (k := fun ρ k s => if k then f ρ s else g ρ s) h) fun v H1 ⟨B, G, α, ρ, s, b, r, S, E, P⟩ => by
    obtain rfl : b = v := r
    cases b with
    | true => exact iteT ⟨B, G, α, ρ, s, S, E, by simpa using P⟩
    | false => exact iteF ⟨B, G, α, ρ, s, S, E, by simpa using P⟩
/-! assignments -/
def fAsg (f : Env → List Cell → R W) (t : Tg) : Env → List Cell → RS := fun ρ s => (f ρ s).st ρ fun w s => match asgT ρ t w with
    | some ρ => .ok (.nx, ρ) s
    | none => .no
theorem asg_read {f : Env → List Cell → R W} {D : Ends} {σ : L2.St} {H : Hp} (h : tS T Wx (fAsg f t) D σ H) : tAsg (tE T Wx f) (gT T.K t) D σ H :=
  rd_mono (st_read (rel := rW T) (k := fun ρ w s => match asgT ρ t w with | some ρ => .ok (.nx, ρ) s | none => .no) h) fun v H1 ⟨B, G, α, ρ, s, w, r, S, E, P⟩ => by
    cases e : asgT ρ t w with
    | none => rw [e] at P; exact P.elim
    | some ρ' =>
      rw [e] at P
      exact asgT_ok E S.gh r e fun σ' E' _ => P G α H1 σ' Ext.refl' S E'
theorem d_asg {tg e : Expr} {f : Env → List Cell → R W} (he : PE X e (tE T Wx f)) (hg : PG X tg (gT T.K t)) (hs : swapsWithSole [tg] e pos.line X.env = pure false) (hw : swappedStores [tg] e X.env = pure none) (h1 : (assignEach [tg] X.env).map (·.2) = [assign tg X.env]) :
    PS X (.Assign [tg] e pos) (tS T Wx (fAsg f t)) := PS_imp (ps_asg he hg hs hw h1) fun D σ H h => asg_read h
/-! for -/
def fFor (fi : Env → List Cell → R (List PyData)) (t : Tg) (fb : Env → List Cell → RS) : Env → List Cell → RS := fun ρ s => (fi ρ s).st ρ fun items s => forL (fun ρ x => asgT ρ t (.d x)) fb items ρ s
theorem d_for {iter : Expr} {body : List Stmt} {fi : Env → List Cell → R (List PyData)} {fb : Env → List Cell → RS} (hp : PassesOwn (model X.prog X.w) X.A X.env X.xe) (hc : X.calm = true) (hi : PI X tg iter (tI T Wx fi)) (hg : PG X tg (gT T.K t)) (hb : PSs X body (tS T Wx fb))
    (hs : ∀ x, foldedSetIterable iter X.env x = pure x) : PS X (.For tg iter body [] pos) (tS T Wx (fFor fi t fb)) :=
  PS_imp (ps_for hp hc hi hg hb hs) fun D σ H h => rd_mono (st_read (rel := rIt T) (k := fun ρ items s => forL (fun ρ x => asgT ρ t (.d x)) fb items ρ s) h) fun J H1 ⟨B, G, α, ρ, s, items, ⟨vs, wk, d⟩, S, E, P⟩ => by
    refine ⟨fun i m σ H => m = vs.length - i ∧ i ≤ vs.length ∧ ∃ (G' : Hp) (α' : List Addr) (ρ' : Env) (s' : List Cell), Ext B G α G' α' ∧ StM T B G' H α' s' ∧ EnvR T G' α' ρ' σ ∧ forL (fun ρ x => asgT ρ t (.d x)) fb (items.drop i) ρ' s' = forL (fun ρ x => asgT ρ t (.d x)) fb items ρ s,
      ⟨vs.length, by simp, Nat.zero_le _, G, α, ρ, s, Ext.refl', S, E, by simp⟩, ?_⟩
    rintro i m σ2 H2 ⟨rfl, hi, G', α', ρ', s', x, S', E', tot⟩
    have sGH : Same G H2 := x.g.trans S'.gh
    by_cases hlt : i < vs.length
    · obtain ⟨go, yl⟩ := (wk i H2 sGH).1 hlt
      have hli : i < items.length := by rw [← d.len]; exact hlt
      have hdrop : items.drop i = items[i] :: items.drop (i + 1) := List.drop_eq_getElem_cons hli
      rw [hdrop] at tot
      simp only [forL] at tot
      refine .inr ⟨go, fun σ' H' => vs.length - (i + 1) = vs.length - (i + 1) ∧ i + 1 ≤ vs.length ∧ ∃ (G' : Hp) (α' : List Addr) (ρ' : Env) (s' : List Cell), Ext B G α G' α' ∧ StM T B G' H' α' s' ∧ EnvR T G' α' ρ' σ' ∧ forL (fun ρ x => asgT ρ t (.d x)) fb (items.drop (i + 1)) ρ' s' = forL (fun ρ x => asgT ρ t (.d x)) fb items ρ s,
        fun σ' H' h => ⟨_, by omega, h⟩, fun xv H' y => ?_⟩
      obtain ⟨rfl, hxv⟩ := yl xv H' y
      obtain ⟨v', hv', dv⟩ := d.get (List.getElem?_eq_getElem hli)
      rw [hxv] at hv'
      cases hv'
      cases ea : asgT ρ' t (.d items[i]) with
      | none => rw [ea] at tot; rw [← tot] at P; exact P.elim
      | some ρ2 =>
        rw [ea] at tot
        simp only at tot
        refine asgT_ok E' S'.gh (show RW T G' α' (.d items[i]) xv from Dp.mono x.g _ _ dv) ea fun σ3 E3 _ => ⟨B, G', α', ρ2, s', S', E3, ?_⟩
        have P' := P.ext x
        cases eb : fb ρ2 s' with
        | ok q s3 =>
          obtain ⟨o, ρ3⟩ := q
          rw [eb] at tot
          cases o with
          | nx => exact fun G4 α4 H4 σ4 x4 S4 E4 => ⟨rfl, hlt, G4, α4, ρ3, s3, x.trans x4, S4, E4, tot⟩
          | ct => exact fun G4 α4 H4 σ4 x4 S4 E4 => ⟨rfl, hlt, G4, α4, ρ3, s3, x.trans x4, S4, E4, tot⟩
          | brk => rw [← tot] at P'; exact P'
          | ret w => rw [← tot] at P'; exact P'
          | ex z => rw [← tot] at P'; exact P'
        | ex z s3 => rw [eb] at tot; rw [← tot] at P; exact P.elim
        | no => rw [eb] at tot; rw [← tot] at P; exact P.elim
    · have hi' : i = vs.length := by omega
      subst hi'
      refine .inl ⟨(wk vs.length H2 sGH).2 (Nat.le_refl _), ?_⟩
      have : items.drop vs.length = [] := by rw [d.len]; simp
      rw [this] at tot
      rw [← tot] at P
      exact P G' α' H2 σ2 x S' E'
/-! while -/
theorem d_while {c : Expr} {body : List Stmt} {fc : Env → List Cell → R Bool} {fb : Env → List Cell → RS} {n : Nat} (hp : PassesOwn (model X.prog X.w) X.A X.env X.xe) (hc : PT X c (tT T Wx fc)) (hb : PSs X body (tS T Wx fb)) : PS X (.While c body [] pos) (tS T Wx (whileL fc fb n)) :=
  PS_imp (ps_while hp hc hb) fun D σ H ⟨B, G, α, ρ, s, S, E, P⟩ => by
    refine ⟨fun m σ H => ∃ (G' : Hp) (α' : List Addr) (ρ' : Env) (s' : List Cell), Ext B G α G' α' ∧ StM T B G' H α' s' ∧ EnvR T G' α' ρ' σ ∧ whileL fc fb m ρ' s' = whileL fc fb n ρ s, ⟨n, G, α, ρ, s, Ext.refl', S, E, rfl⟩, ?_⟩
    rintro m σ2 H2 ⟨G', α', ρ', s', x, S', E', tot⟩
    cases m with
    | zero =>
      rw [← tot] at P
      exact P.elim
    | succ m =>
      simp only [whileL] at tot
      have P' : PostS T Wx B G' α' ((fc ρ' s').st ρ' fun k s => if k = true then R.lp (fb ρ' s) (whileL fc fb m) else R.ok (O.nx, ρ') s) D := by rw [tot]; exact P.ext x
      refine ⟨B, G', α', ρ', s', S', E', ?_⟩
      cases ec : fc ρ' s' with
      | no => rw [ec] at P'; exact P'
      | ex z s3 =>
        rw [ec] at P'
        exact fun G4 α4 H4 cls dx x4 S4 r => P' G4 α4 H4 cls dx σ2 x4 S4 (E'.mono x4) r
      | ok b s3 =>
        rw [ec] at P' tot
        simp only [R.st_ok] at P' tot
        intro G4 α4 H4 b' x4 S4 rb
        obtain rfl : b = b' := rb
        cases b with
        | false =>
          rw [if_neg Bool.false_ne_true] at P'
          exact iteF (P' G4 α4 H4 σ2 x4 S4 (E'.mono x4))
        | true =>
          rw [if_pos rfl] at P' tot
          refine iteT ⟨fun σ' H' => ∃ (G' : Hp) (α' : List Addr) (ρ' : Env) (s' : List Cell), Ext B G α G' α' ∧ StM T B G' H' α' s' ∧ EnvR T G' α' ρ' σ' ∧ whileL fc fb m ρ' s' = whileL fc fb n ρ s, fun σ' H' h => ⟨m, Nat.lt_succ_self _, h⟩, B, G4, α4, ρ', s3, S4, E'.mono x4, ?_⟩
          have P4 := P'.ext x4
          cases eb : fb ρ' s3 with
          | ok q s5 =>
            obtain ⟨o, ρ5⟩ := q
            rw [eb] at tot P4
            cases o with
            | nx => exact fun G6 α6 H6 σ6 x6 S6 E6 => ⟨G6, α6, ρ5, s5, x.trans (x4.trans x6), S6, E6, tot⟩
            | ct => exact fun G6 α6 H6 σ6 x6 S6 E6 => ⟨G6, α6, ρ5, s5, x.trans (x4.trans x6), S6, E6, tot⟩
            | brk => exact P4
            | ret w => exact P4
            | ex z => exact P4
          | ex z s5 => rw [eb] at P4; exact P4.elim
          | no => rw [eb] at P4; exact P4.elim
end
end DM

set_option maxRecDepth 100000
/-! DM8: stores, promises, calls. -/
namespace DM
open PySem PySem.Spec PyProof.Rows L2
section
variable {X : Cx} {T : Tab} {k : Nat} {Wx : WX} {pos : Pos} {t : Tg}
/-! ### x = [.. for ..] -/
theorem d_setLc {tg elt iter : Expr} {ifs : List Expr} {scope : Scope} {own : List (Str × Nat)} {i : Nat} {y : Str} {py spos : Pos} (hc : X.calm = true) (hN : X.N.Nodup) (hy : X.N[i]? = some y) (hyl : X.env.scope.names.lookup y = some .local)
    (hsw : swapsWith (.ListComp elt [⟨tg, iter, ifs, 0⟩] scope pos) (some (.Name y py)) spos.line X.env = pure true) {fi : Env → List Cell → R (List PyData)} {fcnd : Env → List Cell → R Bool} {fe : Env → List Cell → R W} (hi : PI X tg iter (tI T Wx fi)) (ok : BlkOk X.N X.env.scope scope own)
    (hg : ∀ (s : Shared) (H : Hp) (C : Addr) (cl : List (Str × Addr)) (fp : List Addr), PG (X.blk s H scope (compEnvC scope cl C X.env) fp) tg (gT T.K t))
    (ht : ∀ (s : Shared) (H : Hp) (C : Addr) (cl : List (Str × Addr)) (fp : List Addr), PTs (X.blk s H scope (compEnvC scope cl C X.env) fp) ifs (tT T W0 fcnd))
    (he : ∀ (s : Shared) (H : Hp) (C : Addr) (cl : List (Str × Addr)) (fp : List Addr), PE (X.blk s H scope (compEnvC scope cl C X.env) fp) elt (tE T W0 fe)) (hs : ∀ x, foldedSetIterable iter X.env x = pure x) (hsl : ∀ j ∈ tgSlots t, j ∈ own.map (·.2))
    (f : Env → List Cell → R W) (hf : ∀ σ H Q, tE T Wx f σ H Q → tF T Wx (fComp fi t (own.map (·.2)) fcnd fe) σ H Q) :
    PS X (.Assign [.Name y py] (.ListComp elt [⟨tg, iter, ifs, 0⟩] scope pos) spos) (tS T Wx (fAsg f (.n i))) :=
  PS_imp (ps_setLc hc hN hy hyl hsw hi ok hg ht he hs) fun D σ H h => by
    have q : tAsg (tE T Wx f) (gT T.K (.n i)) D σ H := asg_read h
    have q2 := hf _ _ _ q
    show tLc (tI T Wx fi) (gT T.K t) (tT T W0 fcnd) (tE T W0 fe) (own.map (·.2)) σ H (fun x H1 => gName i x σ H1 D.nx)
    refine rd_mono (rd_bind (rel := rIt T) q2) fun J H1 ⟨B, G, α, ρ, s, items, ⟨vs, wk, d⟩, M⟩ D' hD => ?_
    have P := M.P
    by_cases hz : items.length < sizeLine
    · rw [if_pos hz] at P
      exact comp_walk hsl wk d M.S M.E hz P hD
    · rw [if_neg hz] at P
      exact P.elim
/-! ### o.f = e, o[i] = e -/
theorem putN_rel {β : Type} {c f : Nat} {R' : β → V → Prop} (ok : TabOk T) (hf : T.has c f = true) {w : β} {v : V} (r : R' w v) : ∀ {fvs : List (Str × V)} {fs : List (Nat × β)}, Paired (fun (p : Str × V) (q : Nat × β) => p.1 = T.fn q.1 ∧ T.has c q.1 = true ∧ R' q.2 p.2) fvs fs →
    Paired (fun (p : Str × V) (q : Nat × β) => p.1 = T.fn q.1 ∧ T.has c q.1 = true ∧ R' q.2 p.2) (putF (T.fn f) v fvs) (putN f w fs)
  | _, _, .nil => .cons ⟨rfl, hf, r⟩ .nil
  | (pn, pv) :: fvs, q :: fs, .cons h t => by
    obtain ⟨h1, h2, h3⟩ := h
    simp only at h1
    have e1 : putF (T.fn f) v ((pn, pv) :: fvs) = (if pn = T.fn f then (pn, v) :: fvs else (pn, pv) :: putF (T.fn f) v fvs) := rfl
    have e2 : putN f w (q :: fs) = (if q.1 = f then (f, w) :: fs else q :: putN f w fs) := rfl
    rw [e1, e2]
    by_cases hq : q.1 = f
    · rw [if_pos hq, if_pos (by rw [h1, hq])]
      exact .cons ⟨by rw [h1, hq], hf, r⟩ t
    · rw [if_neg hq, if_neg (by rw [h1]; exact fun z => hq (ok.inj _ _ (ok.lt _ _ h2) (ok.lt _ _ hf) z))]
      exact .cons ⟨h1, h2, h3⟩ (putN_rel ok hf r t)
theorem Paired.len {α β : Type} {F : α → β → Prop} : ∀ {l : List α} {m : List β}, Paired F l m → l.length = m.length
  | _, _, .nil => rfl
  | _, _, .cons _ t => by simp [Paired.len t]
def fSetF (Φ : Phi) (fo : Env → List Cell → R W) (f : Nat) (fv : Env → List Cell → R W) : Env → List Cell → RS := fun ρ s => ((fv ρ s).bind fun v s => (fo ρ s).bind fun w s => setFW Φ w f v s).st ρ fun _ s => .ok (.nx, ρ) s
theorem d_setF (hK : X.K = T.K) (ok : TabOk T) {Φ : Phi} (hh : ∀ c f, Φ.has c f = true → T.has c f = true) {o value : Expr} {f : Nat} {pos' : Pos} {fo fv : Env → List Cell → R W} (ha : PE X o (tE T Wx fo)) (hv : PE X value (tE T Wx fv))
    (hs : swapsWith value (some (.Attribute o (T.fn f) pos')) pos.line X.env = pure false) : PS X (.Assign [.Attribute o (T.fn f) pos'] value pos) (tS T Wx (fSetF Φ fo f fv)) :=
  PS_imp (ps_fld ha hv hs) fun D σ H h => by
    obtain ⟨B, G, α, ρ, s, S, E, P⟩ := h
    refine ⟨B, G, α, ρ, s, S, E, ?_⟩
    simp only [fSetF] at P
    cases e : fv ρ s with
    | no => rw [e] at P; exact P
    | ex z s1 =>
      rw [e] at P
      exact fun G' α' H' cls dx x S' r => P G' α' H' cls dx σ x S' (E.mono x) r
    | ok v s1 =>
      rw [e] at P
      simp only [R.bind_ok] at P
      intro G1 α1 H1 y x1 S1 rv
      refine ⟨B, G1, α1, ρ, s1, S1, E.mono x1, ?_⟩
      cases e2 : fo ρ s1 with
      | no => rw [e2] at P; exact P
      | ex z s2 =>
        rw [e2] at P
        exact fun G' α' H' cls dx x S' r => P G' α' H' cls dx σ (x1.trans x) S' (E.mono (x1.trans x)) r
      | ok w s2 =>
        rw [e2] at P
        simp only [R.bind_ok] at P
        intro G2 α2 H2 u x2 S2 rw2
        have rv2 := x2.rw rv
        cases w with
        | h i =>
          simp only [setFW] at P
          cases e3 : s2[i]? with
          | none => rw [e3] at P; exact P.elim
          | some cc =>
            rw [e3] at P
            cases cc with
            | ins c fs =>
              simp only at P
              obtain ⟨a, ha', rfl⟩ := rw2
              obtain ⟨hg, hb, C, dx, fvs, hH, hC, hF⟩ := S2.cell i a _ ha' e3
              by_cases hz : (decide (fs.length < 1000) && Φ.has c f) = true
              · rw [if_pos hz] at P
                rw [Bool.and_eq_true, decide_eq_true_eq] at hz
                have hf := hh _ _ hz.2
                rw [hK]
                refine ⟨a, C, dx, fvs, rfl, hH, ok.cl _ _ _ hC hf, ok.na _ _ _ hC hf, by rw [Paired.len hF]; exact hz.1, ?_⟩
                exact P G2 α2 _ σ (x1.trans x2) (S2.set ha' hg hb ⟨hg, hb, C, dx, _, upd_same, hC, putN_rel (R' := fun w v => RW T G2 α2 w v) ok hf rv2 hF⟩) (E.mono (x1.trans x2))
              · rw [if_neg hz] at P
                exact P.elim
            | _ => exact P.elim
        | _ => exact P.elim
def fSetI (fo fi fv : Env → List Cell → R W) : Env → List Cell → RS := fun ρ s => ((fv ρ s).bind fun v s => (fo ρ s).bind fun w s => (fi ρ s).bind fun k s => (ii k s).bind fun k s => (frzR v s).bind fun x s => setIW w k x s).st ρ fun _ s => .ok (.nx, ρ) s
theorem d_setI {o i value : Expr} {ipos : Pos} {fo fi fv : Env → List Cell → R W} (ho : PE X o (tE T Wx fo)) (hi : PE X i (tE T Wx fi)) (hv : PE X value (tE T Wx fv))
    (ha : ∀ v, assign (.Subscript o i ipos) X.env v = (do
      let ov ← holding [v] (eval o X.env)
      let iv ← holding [v, ov] (eval i X.env)
      standAt ipos
      holding [v, ov, iv] (setItem ov iv v)
      release [v, ov, iv] []))
    (hs : swapsWithSole [.Subscript o i ipos] value pos.line X.env = pure false) (hw : swappedStores [.Subscript o i ipos] value X.env = pure none) (h1 : (assignEach [.Subscript o i ipos] X.env).map (·.2) = [assign (.Subscript o i ipos) X.env]) :
    PS X (.Assign [.Subscript o i ipos] value pos) (tS T Wx (fSetI fo fi fv)) :=
  PS_imp (ps_asg hv (pg_sub ho hi set_list ha) hs hw h1) fun D σ H h => by
    obtain ⟨B, G, α, ρ, s, S, E, P⟩ := h
    refine ⟨B, G, α, ρ, s, S, E, ?_⟩
    simp only [fSetI] at P
    cases e : fv ρ s with
    | no => rw [e] at P; exact P
    | ex z s1 => rw [e] at P; exact fun G' α' H' cls dx x S' r => P G' α' H' cls dx σ x S' (E.mono x) r
    | ok v s1 =>
      rw [e] at P
      simp only [R.bind_ok] at P
      intro G1 α1 H1 y x1 S1 rv
      refine ⟨B, G1, α1, ρ, s1, S1, E.mono x1, ?_⟩
      cases e2 : fo ρ s1 with
      | no => rw [e2] at P; exact P
      | ex z s2 => rw [e2] at P; exact fun G' α' H' cls dx x S' r => P G' α' H' cls dx σ (x1.trans x) S' (E.mono (x1.trans x)) r
      | ok w s2 =>
        rw [e2] at P
        simp only [R.bind_ok] at P
        intro G2 α2 H2 u x2 S2 rw2
        refine ⟨B, G2, α2, ρ, s2, S2, E.mono (x1.trans x2), ?_⟩
        cases e3 : fi ρ s2 with
        | no => rw [e3] at P; exact P
        | ex z s3 => rw [e3] at P; exact fun G' α' H' cls dx x S' r => P G' α' H' cls dx σ (x1.trans (x2.trans x)) S' (E.mono (x1.trans (x2.trans x))) r
        | ok kv s3 =>
          rw [e3] at P
          simp only [R.bind_ok] at P
          intro G3 α3 H3 iv x3 S3 rk
          have xx := x1.trans (x2.trans x3)
          cases kv with
          | d kd =>
            cases kd with
            | int j =>
              simp only [ii, R.bind_ok, frzR] at P
              obtain rfl := (show Dp T.K _ _ _ from rk).int_inv
              cases e4 : frz s3 v with
              | none => rw [e4] at P; exact P.elim
              | some q =>
                obtain ⟨xd, s4⟩ := q
                rw [e4] at P
                simp only [R.bind_ok] at P
                obtain ⟨G4, x4, S4, dx⟩ := frz_ok S3 e4 ((x2.trans x3).rw rv)
                have rw4 := x4.rw (x3.rw rw2)
                cases w with
                | h n =>
                  simp only [setIW] at P
                  cases e5 : s4[n]? with
                  | none => rw [e5] at P; exact P.elim
                  | some cc =>
                    rw [e5] at P
                    cases cc with
                    | lst l =>
                      simp only at P
                      cases e6 : ixD l.length j with
                      | none => rw [e6] at P; exact P.elim
                      | some m =>
                        rw [e6] at P
                        obtain ⟨a, vs, rfl, ha', hg, hb, hH, hd⟩ := cell_list S4 e5 rw4
                        refine ⟨a, vs, j, m, rfl, rfl, hH, by rw [hd.len]; exact e6, ?_⟩
                        exact P G4 α3 _ σ (xx.trans x4) (S4.set ha' hg hb ⟨hg, hb, _, upd_same, hd.set m dx⟩) (E.mono (xx.trans x4))
                    | _ => exact P.elim
                | _ => exact P.elim
            | _ => exact P.elim
          | _ => exact P.elim
end

/-! ### promises -/
def rR (T : Tab) : Rel Rv V := fun B G α H r v => match r with
  | .w w => RW T G α w v
  | .l l => rF T B G α H l v
abbrev Hbut (H : Hp) (x : Addr) : Hp := fun b => if b = x then none else H b
def spP (T : Tab) (n : Nat) (g : List W → Option Ro) : Sp := fun vs H Q E => vs.length = n ∧ ∃ (G : Hp) (ws : List W), Same G H ∧ RWs T G [] ws vs ∧ match g ws with
  | some (.ret w) => ∀ (v : V) (H' G' : Hp), Same H H' → Ext H G [] G' [] → Same G' H' → RW T G' [] w v → Q v H'
  | some (.fresh l) => ∀ (v : V) (H' G' : Hp), Same H H' → Ext H G [] G' [] → Same G' H' → rF T H G' [] H' l v → Q v H'
  | some (.ex x) => ∀ (H' : Hp) (cls : Value) (dx : Option Addr), Same H H' → XR T H' x cls dx → E cls dx H'
  | none => False
def spM (T : Tab) (n : Nat) (f : List W → List Cell → R Rv) : Sp := fun vs H Q E => vs.length = n ∧ ∃ (B G : Hp) (α : List Addr) (ws : List W) (s : List Cell), StM T B G H α s ∧ RWs T G α ws vs ∧ Post T (fun cls d _ H => E cls d H) (rR T) B G α [] (f ws s) Q
/-- an __init__ whose instance is frozen: n arguments besides self -/
def spI (T : Tab) (c n : Nat) (g : List W → Option (Except Xc (List (Nat × PyData)))) : Sp := fun vs H Q E => ∃ (G : Hp) (ws : List W) (x dx C : Addr) (us : List V), vs = .ref x :: us ∧ us.length = n ∧ T.cls c = some C ∧ H x = some (.ins C dx []) ∧ G x = none ∧ Same G H ∧ RWs T G [] ws us ∧ match g ws with
  | some (.ok fs) => ∀ (H' G' : Hp) (fvs : List (Str × V)) (dx' : Addr), Same (Hbut H x) H' → Ext H G [] G' [] → Same G' H' → H' x = some (.ins C dx' fvs) → FsD T c G' fvs fs → Q .non H'
  | some (.error z) => ∀ (H' : Hp) (cls : Value) (d : Option Addr), Same (Hbut H x) H' → XR T H' z cls d → E cls d H'
  | none => False
def spF (T : Tab) : Fs → Nat × Sp
  | .p n g => (n, spP T n g)
  | .m n f => (n, spM T n f)
structure Snd (P : Program) (w : World) (K : PySem.W.Frag) (mg : Str → Option Value) (base : Heap) (T : Tab) (k : Nat) (Φ : Phi) : Prop where
  fn : ∀ i φ, Φ.fn i = some φ → ∃ (f : Addr) (fd : FuncData) (ps : List Str), mg (T.gn i) = some (.ref f) ∧ PySem.W.keepIn K (.ref f) = true ∧ Binds K fd ps [] ∧ ps.length = (spF T φ).1 ∧ FnOk P w K mg base (L2.CX P w) k f fd ps (spF T φ).2
  mt : ∀ c m φ, Φ.mt c m = some φ → ∃ (C f : Addr) (fd : FuncData) (ps : List Str), T.cls c = some C ∧ Cls K C ∧ Meth K C (T.mn m) f ∧ Binds K fd ps [] ∧ ps.length = (spF T φ).1 ∧ FnOk P w K mg base (L2.CX P w) k f fd ps (spF T φ).2
  clp : ∀ c n g, Φ.cl c = some (.p n g) → ∃ (C f : Addr) (fd : FuncData) (ps : List Str), T.cls c = some C ∧ mg (T.cn c) = some (.ref C) ∧ Mk K C f ∧ Binds K fd ps [] ∧ ps.length = n + 1 ∧ FnOk P w K mg base (L2.CX P w) k f fd ps (spI T c n g)
  clm : ∀ c n g, Φ.cl c = some (.m n g) → ∃ (C f : Addr) (fd : FuncData) (ps : List Str), T.cls c = some C ∧ mg (T.cn c) = some (.ref C) ∧ Mk K C f ∧ Binds K fd ps [] ∧ ps.length = n + 1 ∧ FnOk P w K mg base (L2.CX P w) k f fd ps (spM T (n + 1) g)
  has : ∀ c f, Φ.has c f = true → T.has c f = true
  cm : ∀ c m φ, Φ.cm c m = some φ → ∃ (C f : Addr) (fd : FuncData) (ps : List Str) (mc : Value), mg (T.cn c) = some (.ref C) ∧ ClX.CRead K C mc ∧ PySem.W.findCls K (.ref C) mc (T.mn m) = some (.val (.ref f)) ∧ PySem.W.keepIn K (.ref f) = true ∧ Binds K fd ps [] ∧ ps.length = (spF T φ).1 ∧ FnOk P w K mg base (L2.CX P w) k f fd ps (spF T φ).2

/-! ### the caller's side -/
section
variable {T : Tab} {B G H : Hp} {α : List Addr} {s : List Cell}
theorem RW.nil {G : Hp} {α : List Addr} {w : W} {v : V} (h : RW T G [] w v) : RW T G α w v := RW.mono (Same.refl G) ⟨α, rfl⟩ h
theorem RW.flatOk {G G' : Hp} {α α' : List Addr} {w : W} {v : V} (f : flat w = true) (h : RW T G α w v) : RW T G' α' w v := by
  cases w with
  | d x =>
    cases x with
    | none => cases (show Dp T.K G v .none from h); exact (show Dp T.K G' _ .none from .non)
    | bool b => cases (show Dp T.K G v (.bool b) from h); exact (show Dp T.K G' _ (.bool b) from .bl b)
    | int b => cases (show Dp T.K G v (.int b) from h); exact (show Dp T.K G' _ (.int b) from .int b)
    | str b => cases (show Dp T.K G v (.str b) from h); exact (show Dp T.K G' _ (.str b) from .str b)
    | _ => cases f
  | _ => cases f
theorem view_ok (S : StM T B G H α s) : ∀ {ws vs' : List W} {us : List V} {live : Bool}, viewAll s ws = some (vs', live) → RWs T G α ws us → ∃ Gv, Same G Gv ∧ Same Gv H ∧ RWs T Gv [] vs' us ∧ (live = false → Gv = G)
  | [], vs', us, live, h, r => by cases h; cases r; exact ⟨G, Same.refl G, S.gh, .nil, fun _ => rfl⟩
  | w :: ws, vs', us, live, h, r => by
    simp only [viewAll] at h
    cases r with
    | @cons _ u _ us r1 r2 =>
      cases e1 : view s w with
      | none => rw [e1] at h; cases h
      | some p =>
        cases e2 : viewAll s ws with
        | none => rw [e1, e2] at h; cases h
        | some q =>
          obtain ⟨x, b⟩ := p
          obtain ⟨xs, c⟩ := q
          rw [e1, e2] at h
          cases h
          obtain ⟨Gv, g1, g2, r3, hl⟩ := view_ok S e2 r2
          have pure : b = false → RW T G [] x u → ∃ Gv, Same G Gv ∧ Same Gv H ∧ RWs T Gv [] (x :: xs) (u :: us) ∧ ((b || c) = false → Gv = G) := fun hb rx =>
            ⟨Gv, g1, g2, .cons (RW.mono g1 ⟨[], rfl⟩ rx) r3, fun z => hl (by cases b; exact z; cases hb)⟩
          cases w with
          | d y => cases e1; exact pure rfl r1
          | o c' fs => cases e1; exact pure rfl r1
          | dc kvs => cases e1; exact pure rfl r1
          | h i =>
            simp only [view] at e1
            obtain ⟨a, ha, rfl⟩ := r1
            cases e3 : s[i]? with
            | none => rw [e3] at e1; cases e1
            | some cc =>
              rw [e3] at e1
              have hc := S.cell i a cc ha e3
              cases cc with
              | lst l =>
                cases e1
                obtain ⟨hg, hb, vs, hH, hd⟩ := hc
                by_cases hga : Gv a = none
                · refine ⟨upd Gv a (.lst vs), g1.trans (Same.upd hga), fun b u e => ?_, .cons (show Dp T.K _ _ _ from .lst (SqL.of upd_same) (DpAll.mono (g1.trans (Same.upd hga)) _ _ hd)) (RWs.mono (Same.upd hga) ⟨[], rfl⟩ r3), fun z => by cases z⟩
                  by_cases hb : b = a
                  · subst hb; rw [upd_same] at e; cases e; exact hH
                  · rw [upd_ne hb] at e; exact g2 b u e
                · obtain ⟨o, ho⟩ := Option.ne_none_iff_exists'.mp hga
                  have := g2 _ _ ho
                  rw [hH] at this
                  cases this
                  exact ⟨Gv, g1, g2, .cons (show Dp T.K _ _ _ from .lst (SqL.of ho) (DpAll.mono g1 _ _ hd)) r3, fun z => by cases z⟩
              | fzl l =>
                cases e1
                obtain ⟨vs, hG, hd⟩ := hc
                exact pure rfl (show Dp T.K _ _ _ from .lst (SqL.of hG) hd)
              | dct _ _ => cases e1
              | ins _ _ => cases e1
              | gone => cases e1
/-- behind a call that keeps all -/
theorem StM.behind (S : StM T B G H α s) {H' G' : Hp} (hs : Same H H') (x : Ext H G [] G' []) (gh : Same G' H') : StM T B G' H' α s ∧ Ext B G α G' α := by
  refine ⟨(S.same hs).know x.g gh fun a ha hg => ?_, x.g, ⟨[], by simp⟩, fun b h1 h2 => ?_⟩
  · obtain ⟨o, ho⟩ := S.mem_there ha
    exact x.b a (by rw [ho]; exact fun z => by cases z) hg
  · cases q : B b with
    | none => exact absurd q h1
    | some u => exact x.b b (by rw [S.bh _ _ q]; exact fun z => by cases z) h2
theorem rF_behind (S : StM T B G H α s) {H' G' : Hp} {l : List PyData} {v : V} (r : rF T H G' [] H' l v) : rF T B G' α H' l v := by
  obtain ⟨a, vs, h1, h2, h3, h4, _, h6⟩ := r
  exact ⟨a, vs, h1, h2, h3, same_none S.bh h4, S.new_notin h4, h6⟩
end
section
variable {X : Cx} {T : Tab} {k : Nat} {Wx : WX} {p pos apos : Pos} {e o : Expr} {es : List Expr} {fes : Env → List Cell → R (List W)} {fo : Env → List Cell → R W} {Φ : Phi}
theorem RWs.len {G : Hp} {α : List Addr} {ws : List W} {us : List V} (r : RWs T G α ws us) : us.length = ws.length := (Paired.len r).symm
/-- what a call's reading asks -/
theorem callX_use {φ : Fs} {B G H : Hp} {α : List Addr} {s : List Cell} {ws : List W} {us : List V} {σ : L2.St} {Q : VK} (S : StM T B G H α s) (r : RWs T G α ws us) (P : Post T Wx (rR T) B G α σ (callX φ ws s) Q) : (spF T φ).2 us H Q (WE Wx σ) := by
  cases φ with
  | m n f =>
    simp only [callX] at P
    by_cases hn : ws.length = n
    · rw [if_pos hn] at P
      refine ⟨by rw [RWs.len r]; exact hn, B, G, α, ws, s, S, r, ?_⟩
      cases ef : f ws s with
      | no => rw [ef] at P; exact P
      | ok b s' => rw [ef] at P; exact P
      | ex z s' => rw [ef] at P; exact P
    · rw [if_neg hn] at P
      exact P.elim
  | p n g =>
    simp only [callX] at P
    by_cases hn : ws.length = n
    · rw [if_pos hn] at P
      cases ev : viewAll s ws with
      | none => rw [ev] at P; exact P.elim
      | some q =>
        obtain ⟨vs', live⟩ := q
        rw [ev] at P
        simp only at P
        obtain ⟨Gv, g1, g2, r3, hl⟩ := view_ok S ev r
        refine ⟨by rw [RWs.len r]; exact hn, Gv, vs', g2, r3, ?_⟩
        cases eg : g vs' with
        | none => rw [eg] at P; exact P.elim
        | some ro =>
          rw [eg] at P
          cases ro with
          | ret w =>
            simp only [pX] at P
            intro v H' G' hs x gh rv
            cases live with
            | false =>
              obtain rfl := hl rfl
              rw [if_pos (by simp)] at P
              obtain ⟨S', x'⟩ := S.behind hs x gh
              exact P.at x' S' (show RW T G' α w v from RW.nil rv)
            | true =>
              by_cases hf : flat w = true
              · rw [if_pos (by simp [hf])] at P
                exact P.at Ext.refl' (S.same hs) (show RW T G α w v from RW.flatOk hf rv)
              · rw [if_neg (by simpa using hf)] at P
                exact P.elim
          | fresh l =>
            simp only [pX] at P
            intro v H' G' hs x gh rv
            cases live with
            | false =>
              obtain rfl := hl rfl
              rw [if_pos (by simp)] at P
              obtain ⟨S', x'⟩ := S.behind hs x gh
              exact P.at x' S' (show rF T B G' α H' l v from rF_behind S rv)
            | true => exact P.elim
          | ex z =>
            intro H' cls dx hs rx
            exact P G α H' cls dx Ext.refl' (S.same hs) rx
    · rw [if_neg hn] at P
      exact P.elim
theorem rv_W {B G H : Hp} {α : List Addr} {s : List Cell} {σ : L2.St} {rv : Rv} {v : V} {Q : VK} (S : StM T B G H α s) (r : rR T B G α H rv v) (P : Post T Wx (rW T) B G α σ (rvW rv s) Q) : Q v H := by
  cases rv with
  | w w => exact P.now S r
  | l l =>
    obtain ⟨G', x, S', d⟩ := freezeF S r
    exact P.at x S' d
theorem rv_L {B G H : Hp} {α : List Addr} {s : List Cell} {σ : L2.St} {rv : Rv} {v : V} {Q : VK} (S : StM T B G H α s) (r : rR T B G α H rv v) (P : Post T Wx (rF T) B G α σ (rvL rv s) Q) : Q v H := by
  cases rv with
  | w w => exact P.elim
  | l l => exact P.now S r
theorem callF_use {φ : Fs} {B G H : Hp} {α : List Addr} {s : List Cell} {ws : List W} {us : List V} {σ : L2.St} {Q : VK} (S : StM T B G H α s) (r : RWs T G α ws us) (P : Post T Wx (rW T) B G α σ (callF φ ws s) Q) : (spF T φ).2 us H Q (WE Wx σ) :=
  callX_use S r (Post.bind P |>.mono fun v H1 ⟨rv, s1, G1, α1, x, S1, r1, P1⟩ => rv_W S1 r1 P1)
theorem callL_use {φ : Fs} {B G H : Hp} {α : List Addr} {s : List Cell} {ws : List W} {us : List V} {σ : L2.St} {Q : VK} (S : StM T B G H α s) (r : RWs T G α ws us) (P : Post T Wx (rF T) B G α σ (callL φ ws s) Q) : (spF T φ).2 us H Q (WE Wx σ) :=
  callX_use S r (Post.bind P |>.mono fun v H1 ⟨rv, s1, G1, α1, x, S1, r1, P1⟩ => rv_L S1 r1 P1)
theorem rv_T {B G H : Hp} {α : List Addr} {s : List Cell} {σ : L2.St} {rv : Rv} {v : V} {Q : VK} (S : StM T B G H α s) (r : rR T B G α H rv v) (P : Post T Wx (rW T) B G α σ (rvT rv s) Q) : Q v H := by
  cases rv with
  | w w => exact P.now S r
  | l l =>
    obtain ⟨a, rfl, S'⟩ := pushF S r
    exact P.at Ext.push S' ⟨a, by rw [← S.len]; simp, rfl⟩
theorem callT_use {φ : Fs} {B G H : Hp} {α : List Addr} {s : List Cell} {ws : List W} {us : List V} {σ : L2.St} {Q : VK} (S : StM T B G H α s) (r : RWs T G α ws us) (P : Post T Wx (rW T) B G α σ (callT φ ws s) Q) : (spF T φ).2 us H Q (WE Wx σ) :=
  callX_use S r (Post.bind P |>.mono fun v H1 ⟨rv, s1, G1, α1, x, S1, r1, P1⟩ => rv_T S1 r1 P1)
abbrev SndX (X : Cx) (T : Tab) (k : Nat) (Φ : Phi) : Prop := Snd X.prog X.w X.K X.mg X.base T k Φ
def fCall (φ : Option Fs) (fes : Env → List Cell → R (List W)) : Env → List Cell → R W := fun ρ s => match φ with
  | some φ => (fes ρ s).bind fun ws s => callF φ ws s
  | none => .no
def fCallL (φ : Option Fs) (fes : Env → List Cell → R (List W)) : Env → List Cell → R (List PyData) := fun ρ s => match φ with
  | some φ => (fes ρ s).bind fun ws s => callL φ ws s
  | none => .no
def fCallT (φ : Option Fs) (fes : Env → List Cell → R (List W)) : Env → List Cell → R W := fun ρ s => match φ with
  | some φ => (fes ρ s).bind fun ws s => callT φ ws s
  | none => .no
/-- f() -/
theorem pe_callS0 {CX : CXT} {k : Nat} {f : Addr} {fd : FuncData} {ps : List Str} {sp : Sp} {E : L2.St → XK} {x : Str} (F : FnOk X.prog X.w X.K X.mg X.base CX k f fd ps sp) (hr : Room k X.A) (hg : Gl X x) (hm : X.mg x = some (.ref f)) (hk : PySem.W.keepIn X.K (.ref f) = true) (hb : Binds X.K fd ps []) (hx : ∀ σ, PassesAt CX X σ (E σ))
    (hdb : (x == ("__debug__" : Str)) = false) : PE X (.Call (.Name x p) [] [] pos) (tCallS sp E L2.tNil) := by
  refine ⟨fun pins s σ H Q I h => ?_⟩
  refine wpAny_Call_Name_kw (ld_glob I hg hm ?_ hdb)
  exact PySem.W.callWith_K0 I.kIn hk (run_fnS (us := []) F hr hb (hx σ) I .nil h)
/-- what the arguments' trees are -/
def StarOk (X : Cx) (pos : Pos) (es : List Expr) : Prop := ∀ e es', es = e :: es' → starEach (e :: es') X.env = (false, eval e X.env) :: starEach es' X.env ∧ (backTo pos (starEach es' X.env)).any (·.1) = false
theorem d_call {f : Nat} (C : Cold X T k Wx) (Sd : SndX X T k Φ) (hg : Gl X (T.gn f)) (hdb : (T.gn f == ("__debug__" : Str)) = false) (ha : PA X es (tA T Wx fes)) (hnil : es = [] → fes = fun _ s => .ok [] s) (he : StarOk X pos es) : PE X (.Call (.Name (T.gn f) p) es [] pos) (tE T Wx (fCall (Φ.fn f) fes)) := by
  cases eΦ : Φ.fn f with
  | none => exact d_no
  | some φ =>
    obtain ⟨a, fd, ps, h1, h2, h3, h4, h5⟩ := Sd.fn f φ eΦ
    have rd1 : ∀ σ H Q, tE T Wx (fCall (some φ) fes) σ H Q → tCallS (spF T φ).2 (WE Wx) (tA T Wx fes) σ H Q := fun σ H Q h =>
      rd_mono (rd_bind (rel := rWs T) (f := fes) (k := fun _ ws s => callF φ ws s) h) fun us H1 ⟨B, G, α, ρ, s, ws, r, M⟩ => callF_use M.S r M.P
    cases es with
    | nil =>
      exact PE_imp (pe_callS0 h5 C.room hg h1 h2 h3 (fun σ => passAt C.tk σ) hdb) fun σ H Q q => by
        have q' := rd1 σ H Q q
        rw [hnil rfl] at q'
        obtain ⟨B, G, α, ρ, s, S, E, P⟩ := q'
        exact P.now S (show RWs T _ _ _ _ from .nil)
    | cons e es => exact PE_imp (pe_callS h5 C.room hg h1 h2 h3 (fun σ => passAt C.tk σ) ha hdb (he e es rfl).1 (he e es rfl).2) rd1
theorem d_callL {f : Nat} (C : Cold X T k Wx) (Sd : SndX X T k Φ) (hg : Gl X (T.gn f)) (hdb : (T.gn f == ("__debug__" : Str)) = false) (ha : PA X es (tA T Wx fes)) (hnil : es = [] → fes = fun _ s => .ok [] s) (he : StarOk X pos es) : PE X (.Call (.Name (T.gn f) p) es [] pos) (tF T Wx (fCallL (Φ.fn f) fes)) := by
  cases eΦ : Φ.fn f with
  | none => exact PE_imp (t := fun _ _ _ => False) ⟨fun _ _ _ _ _ _ h => h.elim⟩ fun σ H Q ⟨B, G, α, ρ, s, S, E, P⟩ => P
  | some φ =>
    obtain ⟨a, fd, ps, h1, h2, h3, h4, h5⟩ := Sd.fn f φ eΦ
    have rd1 : ∀ σ H Q, tF T Wx (fCallL (some φ) fes) σ H Q → tCallS (spF T φ).2 (WE Wx) (tA T Wx fes) σ H Q := fun σ H Q h =>
      rd_mono (rd_bind (rel := rWs T) (f := fes) (k := fun _ ws s => callL φ ws s) h) fun us H1 ⟨B, G, α, ρ, s, ws, r, M⟩ => callL_use M.S r M.P
    cases es with
    | nil =>
      exact PE_imp (pe_callS0 h5 C.room hg h1 h2 h3 (fun σ => passAt C.tk σ) hdb) fun σ H Q q => by
        have q' := rd1 σ H Q q
        rw [hnil rfl] at q'
        obtain ⟨B, G, α, ρ, s, S, E, P⟩ := q'
        exact P.now S (show RWs T _ _ _ _ from .nil)
    | cons e es => exact PE_imp (pe_callS h5 C.room hg h1 h2 h3 (fun σ => passAt C.tk σ) ha hdb (he e es rfl).1 (he e es rfl).2) rd1
theorem d_callT {f : Nat} (C : Cold X T k Wx) (Sd : SndX X T k Φ) (hg : Gl X (T.gn f)) (hdb : (T.gn f == ("__debug__" : Str)) = false) (ha : PA X es (tA T Wx fes)) (hnil : es = [] → fes = fun _ s => .ok [] s) (he : StarOk X pos es) : PE X (.Call (.Name (T.gn f) p) es [] pos) (tE T Wx (fCallT (Φ.fn f) fes)) := by
  cases eΦ : Φ.fn f with
  | none => exact d_no
  | some φ =>
    obtain ⟨a, fd, ps, h1, h2, h3, h4, h5⟩ := Sd.fn f φ eΦ
    have rd1 : ∀ σ H Q, tE T Wx (fCallT (some φ) fes) σ H Q → tCallS (spF T φ).2 (WE Wx) (tA T Wx fes) σ H Q := fun σ H Q h =>
      rd_mono (rd_bind (rel := rWs T) (f := fes) (k := fun _ ws s => callT φ ws s) h) fun us H1 ⟨B, G, α, ρ, s, ws, r, M⟩ => callT_use M.S r M.P
    cases es with
    | nil =>
      exact PE_imp (pe_callS0 h5 C.room hg h1 h2 h3 (fun σ => passAt C.tk σ) hdb) fun σ H Q q => by
        have q' := rd1 σ H Q q
        rw [hnil rfl] at q'
        obtain ⟨B, G, α, ρ, s, S, E, P⟩ := q'
        exact P.now S (show RWs T _ _ _ _ from .nil)
    | cons e es => exact PE_imp (pe_callS h5 C.room hg h1 h2 h3 (fun σ => passAt C.tk σ) ha hdb (he e es rfl).1 (he e es rfl).2) rd1
/-! ### methods: the class is the receiver's -/
def tMethD (X : Cx) (m : Str) (E : L2.St → XK) (ta : TE) (t : TA) : TE := fun σ H Q => ta σ H fun x H1 => ∃ (C f : Addr) (fd : FuncData) (ps : List Str) (sp : Sp) (k : Nat) (a dx : Addr) (fs : List (Str × V)), x = .ref a ∧ H1 a = some (.ins C dx fs) ∧ fs.lookup m = none ∧
  Cls X.K C ∧ Meth X.K C m f ∧ Binds X.K fd ps [] ∧ FnOk X.prog X.w X.K X.mg X.base (L2.CX X.prog X.w) k f fd ps sp ∧ Room k X.A ∧ t σ H1 fun vs H2 => sp (x :: vs) H2 Q (E σ)
theorem pe_methD {m : Str} {E : L2.St → XK} {ta : TE} {t : TA} {pl : Sem Bool} (he : PE X o ta) (hx : ∀ σ, PassesAt (L2.CX X.prog X.w) X σ (E σ)) (ha : PA X (e :: es) t)
    (hst : starEach (e :: es) X.env = (false, eval e X.env) :: starEach es X.env) (hpl : (backTo pos (starEach es X.env)).any (·.1) = false)
    (ht : eval (.Call (.Attribute o m apos) (e :: es) [] pos) X.env = (do
      let ov ← eval o X.env
      standAt apos.atName
      let (f, first) ← holding [ov] (getMethod ov m pl)
      callWith pos f first (backTo pos (starEach (e :: es) X.env)) (backToKw pos (keywordEach [] X.env)))) :
    PE X (.Call (.Attribute o m apos) (e :: es) [] pos) (tMethD X m E ta t) := by
  refine ⟨fun pins s σ H Q I h => ?_⟩
  refine PySem.W.methodCall_KW (pl := pl) (thn (he.run pins s σ H _ I h) fun u s1 ⟨x, H1, I1, rx, C, f, fd, ps, sp, k, a, dx, fs, ex, ea, l, c, hm, hb, F, hr, q⟩ => ?_) ht
  subst ex
  obtain rfl : u = Value.ref a := rx
  refine getmeth_ok I1 ea c hm l ?_
  refine PySem.W.callWith_K (first := [.ref a]) (h₀ := X.base) I.ok.mod.kin hm.kp (thn (ha.run pos pins s1 σ H1 _ I1 q) fun us s2 ⟨vs, H2, I2, r, q2⟩ => ⟨I2.kIn, ?_⟩) hst hpl
  exact run_fnS (us := .ref a :: us) (vs := .ref a :: vs) F hr hb (hx σ) I2 (.cons rfl r) q2
theorem pe_methD0 {m : Str} {E : L2.St → XK} {ta : TE} {pl : Sem Bool} (he : PE X o ta) (hx : ∀ σ, PassesAt (L2.CX X.prog X.w) X σ (E σ))
    (ht : eval (.Call (.Attribute o m apos) [] [] pos) X.env = (do
      let ov ← eval o X.env
      standAt apos.atName
      let (f, first) ← holding [ov] (getMethod ov m pl)
      callWith pos f first (backTo pos (starEach [] X.env)) (backToKw pos (keywordEach [] X.env)))) :
    PE X (.Call (.Attribute o m apos) [] [] pos) (tMethD X m E ta L2.tNil) := by
  refine ⟨fun pins s σ H Q I h => ?_⟩
  refine PySem.W.methodCall_KW (pl := pl) (thn (he.run pins s σ H _ I h) fun u s1 ⟨x, H1, I1, rx, C, f, fd, ps, sp, k, a, dx, fs, ex, ea, l, c, hm, hb, F, hr, q⟩ => ?_) ht
  subst ex
  obtain rfl : u = Value.ref a := rx
  refine getmeth_ok I1 ea c hm l ?_
  exact PySem.W.callWith_K0 (first := [.ref a]) I1.kIn hm.kp (run_fnS (us := [.ref a]) (vs := [.ref a]) F hr hb (hx σ) I1 (.cons rfl .nil) q)
theorem lookup_none {β : Type} {c m : Nat} {R' : β → V → Prop} (ok : TabOk T) {fvs : List (Str × V)} {fs : List (Nat × β)} (h : Paired (fun (p : Str × V) (q : Nat × β) => p.1 = T.fn q.1 ∧ T.has c q.1 = true ∧ R' q.2 p.2) fvs fs) : fvs.lookup (T.mn m) = none := by
  induction fs generalizing fvs with
  | nil => cases h; rfl
  | cons q fs ih =>
    cases h with
    | @cons p _ fvs _ r t =>
      obtain ⟨pn, pv⟩ := p
      obtain ⟨h1, h2, _⟩ := r
      simp only at h1
      rw [List.lookup_cons]
      have : (T.mn m == pn) = false := by
        rw [beq_eq_false_iff_ne, h1]
        exact fun z => ok.mt _ m (ok.lt _ _ h2) z.symm
      rw [this]
      exact ih t
/-- the receiver, as it lies -/
theorem clsOf_ok (ok : TabOk T) {B G H : Hp} {α : List Addr} {s : List Cell} (S : StM T B G H α s) {w : W} {v : V} {c : Nat} (h : clsOf s w = some c) (r : RW T G α w v) (m : Nat) : ∃ a C dx fvs, v = .ref a ∧ H a = some (.ins C dx fvs) ∧ T.cls c = some C ∧ fvs.lookup (T.mn m) = none := by
  cases w with
  | o c' fs =>
    cases h
    obtain ⟨a, C, dx, fvs, rfl, h1, h2, h3⟩ := r
    exact ⟨a, C, dx, fvs, rfl, S.gh _ _ h1, h2, lookup_none (R' := fun x v => Dp T.K G v x) ok h3⟩
  | h i =>
    obtain ⟨a, ha, rfl⟩ := r
    simp only [clsOf] at h
    cases e : s[i]? with
    | none => rw [e] at h; cases h
    | some cc =>
      rw [e] at h
      cases cc with
      | ins c' fs =>
        cases h
        obtain ⟨_, _, C, dx, fvs, h1, h2, h3⟩ := S.cell i a _ ha e
        exact ⟨a, C, dx, fvs, rfl, h1, h2, lookup_none (R' := fun x v => RW T G α x v) ok h3⟩
      | _ => cases h
  | d x => cases h
  | dc x => cases h
def fMeth (Φ : Phi) (fo : Env → List Cell → R W) (m : Nat) (fes : Env → List Cell → R (List W)) : Env → List Cell → R W := fun ρ s => (fo ρ s).bind fun w s => match clsOf s w with
    | some c => match Φ.mt c m with
      | some φ => (fes ρ s).bind fun ws s => callF φ (w :: ws) s
      | none => .no
    | none => .no
def fMethL (Φ : Phi) (fo : Env → List Cell → R W) (m : Nat) (fes : Env → List Cell → R (List W)) : Env → List Cell → R (List PyData) := fun ρ s => (fo ρ s).bind fun w s => match clsOf s w with
    | some c => match Φ.mt c m with
      | some φ => (fes ρ s).bind fun ws s => callL φ (w :: ws) s
      | none => .no
    | none => .no
def fMethT (Φ : Phi) (fo : Env → List Cell → R W) (m : Nat) (fes : Env → List Cell → R (List W)) : Env → List Cell → R W := fun ρ s => (fo ρ s).bind fun w s => match clsOf s w with
    | some c => match Φ.mt c m with
      | some φ => (fes ρ s).bind fun ws s => callT φ (w :: ws) s
      | none => .no
    | none => .no
theorem meth_read {m : Nat} (C : Cold X T k Wx) (ok : TabOk T) (Sd : SndX X T k Φ) {σ : L2.St} {H : Hp} {Q : VK} (h : tE T Wx (fMeth Φ fo m fes) σ H Q) : tMethD X (T.mn m) (WE Wx) (tE T Wx fo) (tA T Wx fes) σ H Q := by
  refine rd_mono (rd_bind (rel := rW T) (f := fo) h) fun u H1 ⟨B, G, α, ρ, s, w, r, M⟩ => ?_
  have P := M.P
  cases ec : clsOf s w with
  | none => rw [ec] at P; exact P.elim
  | some c =>
    rw [ec] at P
    simp only at P
    cases eΦ : Φ.mt c m with
    | none => rw [eΦ] at P; exact P.elim
    | some φ =>
      rw [eΦ] at P
      obtain ⟨C0, f, fd, ps, h0, h1, h2, h3, h4, h5⟩ := Sd.mt c m φ eΦ
      obtain ⟨a, C1, dx, fvs, rfl, hH, hC, hl⟩ := clsOf_ok ok M.S ec r m
      rw [h0] at hC
      cases hC
      have M' : Mid T Wx (rW T) B G α ρ s σ H1 (fun s => (fes ρ s).bind fun ws s => callF φ (w :: ws) s) Q := ⟨M.S, M.E, P⟩
      refine ⟨C0, f, fd, ps, (spF T φ).2, k, a, dx, fvs, rfl, hH, hl, h1, h2, h3, h5, C.room, ?_⟩
      obtain ⟨B1, G1, α1, ρ1, s1, S, E, P⟩ := M'.step (rel := rWs T) (f := fes)
      exact ⟨B1, G1, α1, ρ1, s1, S, E, P.mono fun us H2 ⟨G2, α2, s2, ws, x2, rws, M2⟩ => callF_use M2.S (show RWs T G2 α2 (w :: ws) _ from .cons (x2.rw r) rws) M2.P⟩
theorem methL_read {m : Nat} (C : Cold X T k Wx) (ok : TabOk T) (Sd : SndX X T k Φ) {σ : L2.St} {H : Hp} {Q : VK} (h : tF T Wx (fMethL Φ fo m fes) σ H Q) : tMethD X (T.mn m) (WE Wx) (tE T Wx fo) (tA T Wx fes) σ H Q := by
  refine rd_mono (rd_bind (rel := rW T) (f := fo) h) fun u H1 ⟨B, G, α, ρ, s, w, r, M⟩ => ?_
  have P := M.P
  cases ec : clsOf s w with
  | none => rw [ec] at P; exact P.elim
  | some c =>
    rw [ec] at P
    simp only at P
    cases eΦ : Φ.mt c m with
    | none => rw [eΦ] at P; exact P.elim
    | some φ =>
      rw [eΦ] at P
      obtain ⟨C0, f, fd, ps, h0, h1, h2, h3, h4, h5⟩ := Sd.mt c m φ eΦ
      obtain ⟨a, C1, dx, fvs, rfl, hH, hC, hl⟩ := clsOf_ok ok M.S ec r m
      rw [h0] at hC
      cases hC
      have M' : Mid T Wx (rF T) B G α ρ s σ H1 (fun s => (fes ρ s).bind fun ws s => callL φ (w :: ws) s) Q := ⟨M.S, M.E, P⟩
      refine ⟨C0, f, fd, ps, (spF T φ).2, k, a, dx, fvs, rfl, hH, hl, h1, h2, h3, h5, C.room, ?_⟩
      obtain ⟨B1, G1, α1, ρ1, s1, S, E, P⟩ := M'.step (rel := rWs T) (f := fes)
      exact ⟨B1, G1, α1, ρ1, s1, S, E, P.mono fun us H2 ⟨G2, α2, s2, ws, x2, rws, M2⟩ => callL_use M2.S (show RWs T G2 α2 (w :: ws) _ from .cons (x2.rw r) rws) M2.P⟩
theorem methT_read {m : Nat} (C : Cold X T k Wx) (ok : TabOk T) (Sd : SndX X T k Φ) {σ : L2.St} {H : Hp} {Q : VK} (h : tE T Wx (fMethT Φ fo m fes) σ H Q) : tMethD X (T.mn m) (WE Wx) (tE T Wx fo) (tA T Wx fes) σ H Q := by
  refine rd_mono (rd_bind (rel := rW T) (f := fo) h) fun u H1 ⟨B, G, α, ρ, s, w, r, M⟩ => ?_
  have P := M.P
  cases ec : clsOf s w with
  | none => rw [ec] at P; exact P.elim
  | some c =>
    rw [ec] at P
    simp only at P
    cases eΦ : Φ.mt c m with
    | none => rw [eΦ] at P; exact P.elim
    | some φ =>
      rw [eΦ] at P
      obtain ⟨C0, f, fd, ps, h0, h1, h2, h3, h4, h5⟩ := Sd.mt c m φ eΦ
      obtain ⟨a, C1, dx, fvs, rfl, hH, hC, hl⟩ := clsOf_ok ok M.S ec r m
      rw [h0] at hC
      cases hC
      have M' : Mid T Wx (rW T) B G α ρ s σ H1 (fun s => (fes ρ s).bind fun ws s => callT φ (w :: ws) s) Q := ⟨M.S, M.E, P⟩
      refine ⟨C0, f, fd, ps, (spF T φ).2, k, a, dx, fvs, rfl, hH, hl, h1, h2, h3, h5, C.room, ?_⟩
      obtain ⟨B1, G1, α1, ρ1, s1, S, E, P⟩ := M'.step (rel := rWs T) (f := fes)
      exact ⟨B1, G1, α1, ρ1, s1, S, E, P.mono fun us H2 ⟨G2, α2, s2, ws, x2, rws, M2⟩ => callT_use M2.S (show RWs T G2 α2 (w :: ws) _ from .cons (x2.rw r) rws) M2.P⟩
/-- how a method's call is evaluated -/
def MethOk (X : Cx) (o : Expr) (m : Str) (apos pos : Pos) (es : List Expr) : Prop := ∃ pl : Sem Bool, eval (.Call (.Attribute o m apos) es [] pos) X.env = (do
      let ov ← eval o X.env
      standAt apos.atName
      let (f, first) ← holding [ov] (getMethod ov m pl)
      callWith pos f first (backTo pos (starEach es X.env)) (backToKw pos (keywordEach [] X.env)))
theorem meth_any {m : Nat} {t : TE} (C : Cold X T k Wx) (ho : PE X o (tE T Wx fo)) (ha : PA X es (tA T Wx fes)) (hnil : es = [] → fes = fun _ s => .ok [] s) (he : StarOk X pos es) (hm : MethOk X o (T.mn m) apos pos es) (i : ∀ σ H Q, t σ H Q → tMethD X (T.mn m) (WE Wx) (tE T Wx fo) (tA T Wx fes) σ H Q) :
    PE X (.Call (.Attribute o (T.mn m) apos) es [] pos) t := by
  obtain ⟨pl, hm⟩ := hm
  cases es with
  | nil =>
    exact PE_imp (pe_methD0 (E := WE Wx) ho (fun σ => passAt C.tk σ) hm) fun σ H Q q => by
      have q' := i σ H Q q
      rw [hnil rfl] at q'
      refine rd_mono q' fun u H1 ⟨C0, f, fd, ps, sp, k, a, dx, fvs, h1, h2, h3, h4, h5, h6, h7, h8, B, G, α, ρ, s, S, E, P⟩ => ⟨C0, f, fd, ps, sp, k, a, dx, fvs, h1, h2, h3, h4, h5, h6, h7, h8, P.now S (show RWs T _ _ _ _ from .nil)⟩
  | cons e es => exact PE_imp (pe_methD (E := WE Wx) ho (fun σ => passAt C.tk σ) ha (he e es rfl).1 (he e es rfl).2 hm) i
theorem d_meth {m : Nat} (C : Cold X T k Wx) (ok : TabOk T) (Sd : SndX X T k Φ) (ho : PE X o (tE T Wx fo)) (ha : PA X es (tA T Wx fes)) (hnil : es = [] → fes = fun _ s => .ok [] s) (he : StarOk X pos es) (hm : MethOk X o (T.mn m) apos pos es) :
    PE X (.Call (.Attribute o (T.mn m) apos) es [] pos) (tE T Wx (fMeth Φ fo m fes)) := meth_any C ho ha hnil he hm fun σ H Q => meth_read C ok Sd
theorem d_methL {m : Nat} (C : Cold X T k Wx) (ok : TabOk T) (Sd : SndX X T k Φ) (ho : PE X o (tE T Wx fo)) (ha : PA X es (tA T Wx fes)) (hnil : es = [] → fes = fun _ s => .ok [] s) (he : StarOk X pos es) (hm : MethOk X o (T.mn m) apos pos es) :
    PE X (.Call (.Attribute o (T.mn m) apos) es [] pos) (tF T Wx (fMethL Φ fo m fes)) := meth_any C ho ha hnil he hm fun σ H Q => methL_read C ok Sd
theorem d_methT {m : Nat} (C : Cold X T k Wx) (ok : TabOk T) (Sd : SndX X T k Φ) (ho : PE X o (tE T Wx fo)) (ha : PA X es (tA T Wx fes)) (hnil : es = [] → fes = fun _ s => .ok [] s) (he : StarOk X pos es) (hm : MethOk X o (T.mn m) apos pos es) :
    PE X (.Call (.Attribute o (T.mn m) apos) es [] pos) (tE T Wx (fMethT Φ fo m fes)) := meth_any C ho ha hnil he hm fun σ H Q => methT_read C ok Sd
/-! ### C(..) -/
theorem run_makeS {CX : CXT} {k : Nat} {f C : Addr} {fd : FuncData} {ps : List Str} {sp : Sp} {E : XK} {pins : List (Addr × Obj)} {σ : L2.St} {H : Hp} {s : Shared} {Q : VK} {us : List Value} {vs : List V} (M : Mk X.K C f) (F : FnOk X.prog X.w X.K X.mg X.base CX k f fd ps sp) (hr : Room (k + 1) X.A) (hb : Binds X.K fd ps [])
    (hx : PassesAt CX X σ E) (I : Inv X pins σ H s) (r : Vals vs us)
    (h : ∀ x dx, H x = none → H dx = none → dx ≠ x → sp (.ref x :: vs) (upd (upd H dx (.own x)) x (.ins C dx [])) (fun v H2 => v = .non ∧ Q (.ref x) H2) E) :
    wpAny (model X.prog X.w) X.A (call (.ref C) us) (EP X pins σ Q) X.xe s := by
  have hq := h (s.heap.objs.size + 1) s.heap.objs.size (I.hok.fresh (Nat.le_succ _)) (I.hok.fresh (Nat.le_refl _)) (Nat.ne_of_lt (Nat.lt_succ_self _))
  have I2 := Inv.made (C := C) I
  have r2 : Vals (V.ref (s.heap.objs.size + 1) :: vs) (Value.ref (s.heap.objs.size + 1) :: us) := .cons rfl r
  have hl : (Value.ref (s.heap.objs.size + 1) :: us).length = ps.length := by
    have e := r2.length
    rw [F.len _ _ _ _ hq] at e
    exact e.symm
  have b := hb _ (Value.ref (s.heap.objs.size + 1) :: us) I2.kIn (by rw [List.append_nil]; exact hl)
  rw [List.append_nil] at b
  refine wpAny_call (make_map (f := f) I.kIn M.makes M.init (beq_iff_eq.mp M.fn) (codeAny_mono (F.run _ X.stack _ _ ⟨Value.ref (s.heap.objs.size + 1) :: us, []⟩ (Value.ref (s.heap.objs.size + 1) :: us) _ _ E (hr.make C us [])
    (I2.env0.make C us []) b r2 hq) fun r s' hq' => ?_))
  cases r with
  | error e => exact hx pins _ _ e s' I2 hq'
  | ok fl =>
    cases fl with
    | ret u =>
      obtain ⟨v, H', I3, rv, ev, q3⟩ := I2.after hq'
      subst ev
      exact ⟨rv, ⟨V.ref (s.heap.objs.size + 1), H', I3, rfl, q3⟩⟩
    | next => exact False.elim hq'
    | brk => exact False.elim hq'
    | cont => exact False.elim hq'
def tMakeS (C : Addr) (sp : Sp) (E : L2.St → XK) (t : TA) : TE := fun σ H Q => t σ H fun vs H1 => ∀ x dx, H1 x = none → H1 dx = none → dx ≠ x → sp (.ref x :: vs) (upd (upd H1 dx (.own x)) x (.ins C dx [])) (fun v H2 => v = .non ∧ Q (.ref x) H2) (E σ)
theorem pe_makeS {CX : CXT} {k : Nat} {f C : Addr} {fd : FuncData} {ps : List Str} {sp : Sp} {E : L2.St → XK} {x : Str} {t : TA} (M : Mk X.K C f) (F : FnOk X.prog X.w X.K X.mg X.base CX k f fd ps sp) (hr : Room (k + 1) X.A) (hg : Gl X x) (hm : X.mg x = some (.ref C)) (hb : Binds X.K fd ps []) (hx : ∀ σ, PassesAt CX X σ (E σ))
    (ha : PA X (e :: es) t) (hdb : (x == ("__debug__" : Str)) = false) (he : starEach (e :: es) X.env = (false, eval e X.env) :: starEach es X.env) (hpl : (backTo pos (starEach es X.env)).any (·.1) = false) :
    PE X (.Call (.Name x p) (e :: es) [] pos) (tMakeS C sp E t) := by
  refine ⟨fun pins s σ H Q I h => ?_⟩
  refine wpAny_Call_Name_kw (ld_glob I hg hm ?_ hdb)
  refine PySem.W.callWith_K (h₀ := X.base) I.ok.mod.kin M.kp (thn (ha.run pos pins s σ H _ I h) fun us s1 ⟨vs, H1, I1, r, q⟩ => ⟨I1.kIn, ?_⟩) he hpl
  exact run_makeS M F hr hb (hx σ) I1 r q
def fMk (φ : Option Ms) (c : Nat) (fes : Env → List Cell → R (List W)) : Env → List Cell → R W := fun ρ s => match φ with
  | some φ => (fes ρ s).bind fun ws s => mkF φ c ws s
  | none => .no
theorem Hbut_ne {H : Hp} {x b : Addr} (h : b ≠ x) : Hbut H x b = H b := by unfold Hbut; rw [if_neg h]
theorem made_same {H : Hp} {x dx C : Addr} (hx : H x = none) (hd : H dx = none) : Same H (upd (upd H dx (.own x)) x (.ins C dx [])) := fun b o e => by
  rw [upd_ne (ne_of_none e hx), upd_ne (ne_of_none e hd)]
  exact e
theorem d_mk {c : Nat} (C : Cold X T (k + 1) Wx) (Sd : SndX X T k Φ) (hg : Gl X (T.cn c)) (hdb : (T.cn c == ("__debug__" : Str)) = false) (ha : PA X (e :: es) (tA T Wx fes)) (he : StarOk X pos (e :: es)) : PE X (.Call (.Name (T.cn c) p) (e :: es) [] pos) (tE T Wx (fMk (Φ.cl c) c fes)) := by
  cases eΦ : Φ.cl c with
  | none => exact d_no
  | some φ =>
    cases φ with
    | p n g =>
      obtain ⟨C0, f, fd, ps, h0, h1, h2, h3, h4, h5⟩ := Sd.clp c n g eΦ
      refine PE_imp (pe_makeS h2 h5 C.room hg h1 h3 (fun σ => passAt C.tk σ) ha hdb (he e es rfl).1 (he e es rfl).2) fun σ H Q h => ?_
      refine rd_mono (rd_bind (rel := rWs T) (f := fes) (k := fun _ ws s => mkF (.p n g) c ws s) h) fun us H1 ⟨B, G, α, ρ, s, ws, r, M⟩ x dx hx hd hne => ?_
      have P := M.P
      simp only [mkF] at P
      by_cases hn : ws.length = n
      · rw [if_pos hn] at P
        cases ev : viewAll s ws with
        | none => rw [ev] at P; exact P.elim
        | some q =>
          obtain ⟨vs', live⟩ := q
          rw [ev] at P
          simp only at P
          obtain ⟨Gv, g1, g2, r3, hl⟩ := view_ok M.S ev r
          have sm := made_same (C := C0) hx hd
          have hxx : upd (upd H1 dx (.own x)) x (.ins C0 dx []) x = some (.ins C0 dx []) := upd_same
          refine ⟨Gv, vs', x, dx, C0, us, rfl, by rw [RWs.len r]; exact hn, h0, hxx, same_none g2 hx, g2.trans sm, r3, ?_⟩
          cases eg : g vs' with
          | none => rw [eg] at P; exact P.elim
          | some ro =>
            rw [eg] at P
            cases ro with
            | ok fs =>
              simp only at P
              intro H' G' fvs dx' hs xE gh hins hF
              refine ⟨rfl, ?_⟩
              cases live with
              | true => exact P.elim
              | false =>
                obtain rfl := hl rfl
                rw [if_pos (by simp)] at P
                have s1 : Same H1 H' := fun b o e => hs b o (by rw [Hbut_ne (ne_of_none e hx)]; exact sm b o e)
                have gx : G' x = none := xE.b x (by rw [hxx]; exact fun z => by cases z) (same_none g2 hx)
                have ga : ∀ a, H1 a ≠ none → Gv a = none → G' a = none := fun a h1 h2 => by
                  obtain ⟨o, ho⟩ := Option.ne_none_iff_exists'.mp h1
                  exact xE.b a (by rw [sm _ _ ho]; exact fun z => by cases z) h2
                have g3 : Same Gv (upd G' x (.ins C0 dx' fvs)) := xE.g.trans (Same.upd gx)
                have S' : StM T B (upd G' x (.ins C0 dx' fvs)) H' α s := (M.S.same s1).know g3 (fun b u e => by
                  by_cases hb : b = x
                  · subst hb; rw [upd_same] at e; cases e; exact hins
                  · rw [upd_ne hb] at e; exact gh b u e) fun a ha hg => by
                  obtain ⟨o, ho⟩ := M.S.mem_there ha
                  rw [upd_ne (ne_of_none ho hx)]
                  exact ga a (by rw [ho]; exact fun z => by cases z) hg
                have xx : Ext B Gv α (upd G' x (.ins C0 dx' fvs)) α := ⟨g3, ⟨[], by simp⟩, fun b h1 h2 => by
                  obtain ⟨o, ho⟩ := Option.ne_none_iff_exists'.mp h1
                  have hb := M.S.bh _ _ ho
                  rw [upd_ne (ne_of_none hb hx)]
                  exact ga b (by rw [hb]; exact fun z => by cases z) h2⟩
                exact P.at xx S' ⟨x, C0, dx', fvs, rfl, upd_same, h0, FsD.mono (Same.upd gx) hF⟩
            | error z =>
              intro H' cls d hs rx
              have s1 : Same H1 H' := fun b o e => hs b o (by rw [Hbut_ne (ne_of_none e hx)]; exact sm b o e)
              exact P G α H' cls d Ext.refl' (M.S.same s1) rx
      · rw [if_neg hn] at P
        exact P.elim
    | m n g =>
      obtain ⟨C0, f, fd, ps, h0, h1, h2, h3, h4, h5⟩ := Sd.clm c n g eΦ
      refine PE_imp (pe_makeS h2 h5 C.room hg h1 h3 (fun σ => passAt C.tk σ) ha hdb (he e es rfl).1 (he e es rfl).2) fun σ H Q h => ?_
      refine rd_mono (rd_bind (rel := rWs T) (f := fes) (k := fun _ ws s => mkF (.m n g) c ws s) h) fun us H1 ⟨B, G, α, ρ, s, ws, r, M⟩ x dx hx hd hne => ?_
      have P := M.P
      simp only [mkF] at P
      by_cases hn : ws.length = n
      · rw [if_pos hn] at P
        have hx' : upd H1 dx (.own x) x = none := by rw [upd_ne (Ne.symm hne)]; exact hx
        have S1 : StM T B G (upd (upd H1 dx (.own x)) x (.ins C0 dx [])) α s := (M.S.beside hd).beside hx'
        have S2 : StM T B G (upd (upd H1 dx (.own x)) x (.ins C0 dx [])) (α ++ [x]) (s ++ [.ins c []]) := S1.push (M.S.new_notin hx) ⟨same_none M.S.gh hx, same_none M.S.bh hx, C0, dx, [], upd_same, h0, .nil⟩
        refine ⟨by simp [RWs.len r, hn], B, G, α ++ [x], .h s.length :: ws, s ++ [.ins c []], S2, .cons ⟨x, by rw [← M.S.len]; simp, rfl⟩ (RWs.mono (Same.refl G) ⟨[x], rfl⟩ r), ?_⟩
        have P' : Post T Wx (rW T) B G (α ++ [x]) σ ((g (.h s.length :: ws) (s ++ [.ins c []])).bind fun r s' => match r with | .w (.d .none) => .ok (.h s.length) s' | _ => .no) Q := P.ext Ext.push
        cases eg : g (.h s.length :: ws) (s ++ [.ins c []]) with
        | no => rw [eg] at P'; exact P'
        | ex z s' => rw [eg] at P'; exact P'
        | ok rv s' =>
          rw [eg] at P'
          simp only [R.bind_ok] at P'
          intro G' α' H' v x1 S' rv'
          cases rv with
          | l l => exact P'.elim
          | w w =>
            cases w with
            | d y =>
              cases y with
              | none =>
                refine ⟨(show Dp T.K G' v .none from rv').non_inv, P'.at x1 S' ⟨x, ?_, rfl⟩⟩
                obtain ⟨t, rfl⟩ := x1.a
                rw [← M.S.len]
                simp
              | _ => exact P'.elim
            | _ => exact P'.elim
      · rw [if_neg hn] at P
        exact P.elim
end
end DM

set_option maxRecDepth 100000
/-! DM8b: dicts. -/
namespace DM
open PySem PySem.Spec PyProof.Rows L2
section
variable {κ : Type} [DecidableEq κ]
abbrev DRp (ko : PyData → Option κ) (K : PySem.W.Frag) (G : Hp) : List (κ × Addr × V) → List (PyData × PyData) → Prop := Paired (fun (x : κ × Addr × V) (q : PyData × PyData) => ko q.1 = some x.1 ∧ Dp K G (.ref x.2.1) q.1 ∧ Dp K G x.2.2 q.2)
theorem DRp.find {ko : PyData → Option κ} {K : PySem.W.Frag} {G : Hp} (k : κ) : ∀ {xs : List (κ × Addr × V)} {kvs : List (PyData × PyData)}, DRp ko K G xs kvs → (∀ y, dFind ko kvs k = some y → ∃ v, valN xs k = some v ∧ Dp K G v y) ∧ (dFind ko kvs k = none → valN xs k = none)
  | _, _, .nil => ⟨fun y h => by simp [dFind] at h, fun _ => rfl⟩
  | x :: xs, q :: kvs, .cons h t => by
    obtain ⟨h1, h2, h3⟩ := h
    obtain ⟨f1, f2⟩ := DRp.find k t
    unfold dFind valN at *
    by_cases e : x.1 = k
    · have e' : ko q.1 = some k := by rw [h1, e]
      simp only [List.find?_cons, e, e', decide_true, Option.map_some]
      exact ⟨fun y hy => by cases hy; exact ⟨_, rfl, h3⟩, fun hy => by cases hy⟩
    · have e' : ¬ ko q.1 = some k := by rw [h1]; exact fun z => e (Option.some.inj z)
      simp only [List.find?_cons, e, e', decide_false]
      exact ⟨f1, f2⟩
theorem DRp.isSome {ko : PyData → Option κ} {K : PySem.W.Frag} {G : Hp} (k : κ) {xs : List (κ × Addr × V)} {kvs : List (PyData × PyData)} (h : DRp ko K G xs kvs) : (valN xs k).isSome = (dFind ko kvs k).isSome := by
  obtain ⟨f1, f2⟩ := h.find k
  cases e : dFind ko kvs k with
  | none => rw [f2 e]; rfl
  | some y => obtain ⟨v, e2, _⟩ := f1 y e; rw [e2]; rfl
theorem DRp.put {ko : PyData → Option κ} {K : PySem.W.Frag} {G : Hp} {k : κ} {b : Addr} {key x : PyData} {v : V} (hk : ko key = some k) (hb : Dp K G (.ref b) key) (hv : Dp K G v x) {xs : List (κ × Addr × V)} {kvs : List (PyData × PyData)} (h : DRp ko K G xs kvs) : DRp ko K G (putX xs k b v) (dPutK ko kvs k key x) := by
  unfold putX dPutK
  rw [h.isSome k]
  by_cases hs : (dFind ko kvs k).isSome = true
  · rw [if_pos hs, if_pos hs]
    clear hs
    induction h with
    | nil => exact .nil
    | @cons p q ps qs h t ih =>
      rw [List.map_cons, List.map_cons]
      refine .cons ?_ ih
      by_cases e : p.1 = k
      · rw [if_pos e, if_pos (by rw [h.1, e])]
        exact ⟨h.1, h.2.1, hv⟩
      · rw [if_neg e, if_neg (by rw [h.1]; exact fun z => e (Option.some.inj z))]
        exact h
  · rw [if_neg hs, if_neg hs]
    exact Paired.snoc h ⟨hk, hb, hv⟩
theorem DRp.mem {ko : PyData → Option κ} {K : PySem.W.Frag} {G : Hp} : ∀ {xs : List (κ × Addr × V)} {kvs : List (PyData × PyData)}, DRp ko K G xs kvs → ∀ x ∈ xs, ∃ q, ko q = some x.1 ∧ Dp K G (.ref x.2.1) q
  | _, _, .nil, x, hx => by cases hx
  | _, _, .cons h t, x, hx => by
    rcases List.mem_cons.mp hx with rfl | hx
    · exact ⟨_, h.1, h.2.1⟩
    · exact DRp.mem t x hx
theorem DRp.len {ko : PyData → Option κ} {K : PySem.W.Frag} {G : Hp} {xs : List (κ × Addr × V)} {kvs : List (PyData × PyData)} (h : DRp ko K G xs kvs) : xs.length = kvs.length := Paired.len h
end
theorem flatKs_vs {K : PySem.W.Frag} {H : Hp} : ∀ {l : List PyData} {ks : List Key} {vs : List V}, flatKs l = some ks → DpAll K H vs l → vs = ks.map kV
  | [], ks, vs, h, d => by cases h; cases d; rfl
  | x :: l, ks, vs, h, d => by
    simp only [flatKs] at h
    cases d with
    | cons d1 d2 =>
      cases e1 : flatK x with
      | none => rw [e1] at h; cases h
      | some k =>
        cases e2 : flatKs l with
        | none => rw [e1, e2] at h; cases h
        | some ks' =>
          rw [e1, e2] at h
          cases h
          rw [List.map_cons, flatKs_vs e2 d2]
          congr 1
          cases x <;> cases e1
          · exact d1.int_inv
          · exact d1.str_inv
section
variable {X : Cx}
structure KO {κ : Type} [DecidableEq κ] (X : Cx) (kd : HeapKind X.prog X.w κ) (ko : PyData → Option κ) : Prop where
  ref : ∀ {H : Hp} {d : PyData} {k : κ} {v : V}, ko d = some k → Dp X.K H v d → ∃ b, v = .ref b
  key : ∀ {H : Hp} {d : PyData} {k : κ} {b : Addr}, ko d = some k → Dp X.K H (.ref b) d → KeyIn X kd H k b
theorem ko_tup : KO X (tupleKind (mixKind X.prog X.w)) fkO := by
  refine ⟨fun {H d k v} h dp => ?_, fun {H d k b} h dp => ?_⟩
  · cases d <;> first | cases h; done | skip
    obtain ⟨a, vs, rfl, _⟩ := dp.tup_inv
    exact ⟨a, rfl⟩
  · cases d <;> first | cases h; done | skip
    obtain ⟨a, vs, e, h1, h2⟩ := dp.tup_inv
    cases e
    rw [flatKs_vs h h2] at h1
    exact keyIn_tup h1
theorem ko_pair : KO X (pairKind (mixKind X.prog X.w)) pkO := by
  have inv : ∀ {d : PyData} {k : Key × List Key}, pkO d = some k → ∃ i l, d = .tuple [i, .tuple l] ∧ flatK i = some k.1 ∧ flatKs l = some k.2 := fun {d k} h => by
    unfold pkO at h
    split at h
    · rename_i i l
      cases e1 : flatK i with
      | none => rw [e1] at h; cases h
      | some a =>
        cases e2 : flatKs l with
        | none => rw [e1, e2] at h; cases h
        | some b =>
          rw [e1, e2] at h
          cases h
          exact ⟨i, l, rfl, e1, e2⟩
    · cases h
  refine ⟨fun {H d k v} h dp => ?_, fun {H d k b} h dp => ?_⟩
  · obtain ⟨i, l, rfl, _⟩ := inv h
    obtain ⟨a, vs, rfl, _⟩ := dp.tup_inv
    exact ⟨a, rfl⟩
  · obtain ⟨i, l, rfl, e1, e2⟩ := inv h
    obtain ⟨a, vs, e, h1, h2⟩ := dp.tup_inv
    cases e
    obtain ⟨v, u, rfl, d1, d2⟩ := DpAll.two h2
    obtain ⟨c, us, rfl, h3, h4⟩ := d2.tup_inv
    rw [flatKs_vs e2 h4] at h3
    have hv : v = kV k.1 := by
      obtain ⟨k1, k2⟩ := k
      cases i <;> cases e1
      · exact d1.int_inv
      · exact d1.str_inv
    rw [hv] at h1
    exact keyIn_pair h1 h3
end
section
variable {X : Cx} {T : Tab} {k : Nat} {Wx : WX} {a b e z : Expr} {pos apos cpos : Pos} {fa fb fz : Env → List Cell → R W}
def DctX (X : Cx) (nd : Bool) (K : PySem.W.Frag) (G H : Hp) (a : Addr) (kvs : List (PyData × PyData)) : Prop :=
  if nd then DR (pairKind (mixKind X.prog X.w)) pkO K G H a kvs else DR (tupleKind (mixKind X.prog X.w)) fkO K G H a kvs
theorem dctX (C : Cold X T k Wx) {nd : Bool} {G H : Hp} {a : Addr} {kvs : List (PyData × PyData)} : DctR T nd G H a kvs ↔ DctX X nd X.K G H a kvs := by
  unfold DctR DctX
  rw [← C.hP, ← C.hw, ← C.hK]
theorem cell_dct (C : Cold X T k Wx) {B G H : Hp} {α : List Addr} {s : List Cell} (S : StM T B G H α s) {i : Nat} {nd : Bool} {kvs : List (PyData × PyData)} {v : V} (e : s[i]? = some (.dct nd kvs)) (r : RW T G α (.h i) v) : ∃ a, v = .ref a ∧ α[i]? = some a ∧ G a = none ∧ B a = none ∧ DctX X nd X.K G H a kvs := by
  obtain ⟨a, ha, rfl⟩ := r
  obtain ⟨h1, h2, h3⟩ := S.cell i a _ ha e
  exact ⟨a, rfl, ha, h1, h2, (dctX C).mp h3⟩
theorem dctOf_ok {s : List Cell} {w : W} {nd : Bool} {kvs : List (PyData × PyData)} (h : dctOf s w = some (nd, kvs)) : ∃ i, w = .h i ∧ s[i]? = some (.dct nd kvs) := by
  unfold dctOf at h
  split at h
  · rename_i i
    split at h
    · rename_i nd' kvs' e
      cases h
      exact ⟨i, rfl, e⟩
    · cases h
  · cases h
/-- the two kinds at once -/
theorem two_kinds (C : Cold X T k Wx) {P : Prop} (h1 : ∀ {κ : Type} [DecidableEq κ] (kd : HeapKind X.prog X.w κ) (ko : PyData → Option κ), KO X kd ko → kd.room X.A.in1 → P) : Bool → P
  | true => h1 _ pkO ko_pair (room_pair C.hu)
  | false => h1 _ fkO ko_tup (room_tup C.hu)
/-- d[key] at one kind -/
theorem gd_at2 {κ : Type} [DecidableEq κ] {kd : HeapKind X.prog X.w κ} {ko : PyData → Option κ} (O : KO X kd ko) {G H : Hp} (gh : Same G H) {a : Addr} {kvs : List (PyData × PyData)} (d : DR kd ko X.K G H a kvs) {key : PyData} {kk : κ} (hk : ko key = some kk) {y : V} (dy : Dp X.K H y key) {R : Addr → List (κ × Addr × V) → κ → Addr → Prop}
    (q : ∀ b xs, y = .ref b → H a = some (gdO kd a xs) → DRp ko X.K G xs kvs → R a xs kk b) : GdAt X kd (.ref a) y H R := by
  obtain ⟨xs, h1, h2⟩ := d
  obtain ⟨b, rfl⟩ := O.ref hk dy
  refine ⟨a, b, xs, kk, rfl, rfl, h1, fun x hx => ?_, O.key hk dy, q b xs rfl h1 h2⟩
  obtain ⟨qd, e1, e2⟩ := DRp.mem h2 x hx
  exact O.key e1 (Dp.mono gh _ _ e2)
/-! ### {} -/
theorem d_dnew (C : Cold X T k Wx) (nd : Bool) : PE X (.Dict [] [] pos) (tE T Wx fun _ s => .ok (.h s.length) (s ++ [.dct nd []])) := by
  cases nd with
  | true =>
    refine PE_imp (pe_gnew (kd := pairKind (mixKind X.prog X.w))) fun σ H Q ⟨B, G, α, ρ, s, S, E, P⟩ p hp => ?_
    have S1 := S.beside (o := gdO (pairKind (mixKind X.prog X.w)) p []) hp
    exact P.at Ext.push (S1.push (S.new_notin hp) (c := .dct true []) ⟨same_none S.gh hp, same_none S.bh hp, (dctX C).mpr (show DR _ _ _ _ _ _ _ from ⟨[], upd_same, .nil⟩)⟩) ⟨p, by rw [← S.len]; simp, rfl⟩
  | false =>
    refine PE_imp (pe_gnew (kd := tupleKind (mixKind X.prog X.w))) fun σ H Q ⟨B, G, α, ρ, s, S, E, P⟩ p hp => ?_
    have S1 := S.beside (o := gdO (tupleKind (mixKind X.prog X.w)) p []) hp
    exact P.at Ext.push (S1.push (S.new_notin hp) (c := .dct false []) ⟨same_none S.gh hp, same_none S.bh hp, (dctX C).mpr (show DR _ _ _ _ _ _ _ from ⟨[], upd_same, .nil⟩)⟩) ⟨p, by rw [← S.len]; simp, rfl⟩
end
/-! ### rules for a dict of either kind -/
section
variable {X : Cx} {o i value e f : Expr} {pos pos' apos cpos : Pos} {td ty tv tx : TE}
def GdX (X : Cx) (x y : V) (H : Hp) (R : ∀ (κ : Type) (inst : DecidableEq κ) (kd : HeapKind X.prog X.w κ), Addr → List (κ × Addr × V) → κ → Addr → Prop) : Prop :=
  ∃ (κ : Type) (inst : DecidableEq κ) (kd : HeapKind X.prog X.w κ), kd.room X.A.in1 ∧ GdAt X kd x y H (R κ inst kd)
theorem pe_xget (ho : PE X o td) (hi : PE X i ty) (hs : NoSl i) : PE X (.Subscript o i pos) (fun σ H Q => td σ H fun x H1 => ty σ H1 fun y H2 => GdX X x y H2 fun κ inst kd a xs k b => ∃ v, valN xs k = some v ∧ Q v H2) := by
  refine ⟨fun pins s σ H Q I h => ?_⟩
  refine subD_of PySem.F.slot_dict_getitem.lookup hs (thn (ho.run pins s σ H _ I h) fun u s1 ⟨x, H1, I1, rx, q1⟩ => thn (hi.run pins s1 σ H1 _ I1 q1) fun iv s2 ⟨y, H2, I2, ry, κ, inst, kd, hu, a, b, xs, k, ex, ey, g, hk, ky, v, l, q2⟩ => ?_)
  subst ex ey
  obtain rfl : u = Value.ref a := rx
  obtain rfl : iv = Value.ref b := ry
  exact ⟨gd_typeIs I2 g, gd_getItem hu I2 g hk ky l fun w' s3 I3 rw' => ⟨v, H2, I3, rw', q2⟩⟩
theorem pc_xin (hi : PE X i ty) (ho : PE X o td) : PC X .In i o (fun σ H Q => ty σ H fun y H1 => td σ H1 fun x H2 => GdX X x y H2 fun κ inst kd a xs k b => Q (.bl (valN xs k).isSome) H2) := by
  refine ⟨fun pins s σ H Q I h => ?_⟩
  refine thn (hi.run pins s σ H _ I h) fun iv s1 ⟨y, H1, I1, ry, q1⟩ => thn (ho.run pins s1 σ H1 _ I1 q1) fun u s2 ⟨x, H2, I2, rx, κ, inst, kd, hu, a, b, xs, k, ex, ey, g, hk, ky, q2⟩ => ?_
  subst ex ey
  obtain rfl : u = Value.ref a := rx
  obtain rfl : iv = Value.ref b := ry
  exact gd_in hu I2 g hk ky fun s3 I3 => ⟨.bl (valN xs k).isSome, H2, I3, rfl, q2⟩
theorem pc_xnotin (hi : PE X i ty) (ho : PE X o td) : PC X .NotIn i o (fun σ H Q => ty σ H fun y H1 => td σ H1 fun x H2 => GdX X x y H2 fun κ inst kd a xs k b => Q (.bl (!(valN xs k).isSome)) H2) := by
  refine ⟨fun pins s σ H Q I h => ?_⟩
  refine thn (hi.run pins s σ H _ I h) fun iv s1 ⟨y, H1, I1, ry, q1⟩ => thn (ho.run pins s1 σ H1 _ I1 q1) fun u s2 ⟨x, H2, I2, rx, κ, inst, kd, hu, a, b, xs, k, ex, ey, g, hk, ky, q2⟩ => ?_
  subst ex ey
  obtain rfl : u = Value.ref a := rx
  obtain rfl : iv = Value.ref b := ry
  exact gd_notIn hu I2 g hk ky fun s3 I3 => ⟨.bl (!(valN xs k).isSome), H2, I3, rfl, q2⟩
theorem ps_xput (ho : PE X o td) (hi : PE X i ty) (hv : PE X value tv) (hs : swapsWith value (some (.Subscript o i pos')) pos.line X.env = pure false) :
    PS X (.Assign [.Subscript o i pos'] value pos) (fun D σ H => tv σ H fun v H1 => td σ H1 fun x H2 => ty σ H2 fun y H3 => GdX X x y H3 fun κ inst kd a xs k b => xs.length < sizeLine ∧ D.nx σ (upd H3 a (gdO kd a (putX xs k b v)))) := by
  refine ⟨fun pins s σ H D I h => ?_⟩
  refine wpAny_Assign_Subscript (thn (hv.run pins s σ H _ I h) fun r s1 ⟨v, H1, I1, rv, q1⟩ => thn (ho.run pins s1 σ H1 _ I1 q1) fun u s2 ⟨x, H2, I2, rx, q2⟩ => thn (hi.run pins s2 σ H2 _ I2 q2) fun iv s3 ⟨y, H3, I3, ry, κ, inst, kd, hu, a, b, xs, k, ex, ey, g, hk, ky, hl, q3⟩ => ?_) hs
  subst ex ey
  obtain rfl : u = Value.ref a := rx
  obtain rfl : iv = Value.ref b := ry
  exact gd_setItem hu I3 g hk ky hl rv fun s4 I4 => ⟨σ, _, I4, q3⟩
theorem pe_xget2 (ho : PE X o td) (he : PE X e ty) (hf : PE X f tx) (m : M2 X o "get" apos e f cpos) : PE X (.Call (.Attribute o "get" apos) [e, f] [] cpos)
    (fun σ H Q => td σ H fun x H1 => (∃ (κ : Type) (inst : DecidableEq κ) (kd : HeapKind X.prog X.w κ) (a : Addr) (xs : List (κ × Addr × V)), x = .ref a ∧ H1 a = some (gdO kd a xs)) ∧ ty σ H1 fun y H2 => tx σ H2 fun z H3 => GdX X x y H3 fun κ inst kd a xs k b => Q ((valN xs k).getD z) H3) := by
  refine ⟨fun pins s σ H Q I h => ?_⟩
  refine wpAny_Call_method m.base m.few m.line PySem.F.plainAttrs_dict PySem.F.slot_dict_get PySem.F.type_dict_get (thn (ho.run pins s σ H _ I h) fun u s1 ⟨x, H1, I1, rx, ⟨κ0, inst0, kd0, a, xs, ex, ea⟩, q1⟩ => ?_)
  subst ex
  obtain rfl : u = Value.ref a := rx
  refine ⟨gd_typeIs I1 ea, gd_noDict I1 ea, ?_⟩
  rw [m.trees]
  refine Calls.callWith_builtin rfl (Calls.evalArgs_plain (Calls.spliced_cons (thn (he.run pins s1 σ H1 _ I1 q1) fun iv s2 ⟨y, H2, I2, ry, q2⟩ =>
    Calls.spliced_cons (thn (hf.run pins s2 σ H2 _ I2 q2) fun fv s3 ⟨z, H3, I3, rz, κ, inst, kd, hu, a', b, xs', k, ex', ey, g, hk, ky, q3⟩ => Calls.spliced_nil ?_))))
  cases ex'
  subst ey
  obtain rfl : iv = Value.ref b := ry
  exact gd_get2 hu I3 g hk ky rz fun w' s4 I4 rw' => ⟨_, H3, I4, rw', q3⟩
end
section
variable {X : Cx} {T : Tab} {k : Nat} {Wx : WX} {a b e z : Expr} {pos apos cpos : Pos} {fa fb fz : Env → List Cell → R W}
/-- d[key], at the store -/
theorem getDW_ok (C : Cold X T k Wx) {B G H : Hp} {α : List Addr} {s : List Cell} (S : StM T B G H α s) {w y : W} {u v : V} (rw' : RW T G α w u) (ry : RW T G α y v) {r : Option PyData} (h : getDW w y s = some r)
    {R : ∀ (κ : Type) (inst : DecidableEq κ) (kd : HeapKind X.prog X.w κ), Addr → List (κ × Addr × V) → κ → Addr → Prop}
    (q : ∀ (κ : Type) (inst : DecidableEq κ) (kd : HeapKind X.prog X.w κ) (a : Addr) (xs : List (κ × Addr × V)) (kk : κ) (b : Addr), (∀ x, r = some x → ∃ t, valN xs kk = some t ∧ Dp T.K G t x) → (r = none → valN xs kk = none) → R κ inst kd a xs kk b) : GdX X u v H R := by
  unfold getDW at h
  split at h
  · rename_i nd kvs key e1 e2
    obtain ⟨i, rfl, e3⟩ := dctOf_ok e1
    obtain ⟨a, rfl, _, _, _, d⟩ := cell_dct C S e3 rw'
    have dk : Dp X.K H v key := by rw [C.hK]; exact see_ok S e2 ry
    have go : ∀ {κ : Type} [inst : DecidableEq κ] (kd : HeapKind X.prog X.w κ) (ko : PyData → Option κ), KO X kd ko → kd.room X.A.in1 → DR kd ko X.K G H a kvs → (ko key).map (dFind ko kvs) = some r → GdX X (.ref a) v H R := fun {κ inst} kd ko O hu d h => by
      obtain ⟨kk, hk, hr⟩ := Option.map_eq_some_iff.mp h
      refine ⟨κ, inst, kd, hu, gd_at2 O S.gh d hk dk fun b xs _ _ dp => q _ _ _ _ _ _ _ ?_ ?_⟩
      · intro x hx
        obtain ⟨f1, _⟩ := dp.find kk
        obtain ⟨t, e, dt⟩ := f1 x (by rw [hr, hx])
        exact ⟨t, e, by rw [← C.hK]; exact dt⟩
      · intro hx
        exact (dp.find kk).2 (by rw [hr, hx])
    cases nd with
    | true => exact go _ pkO ko_pair (room_pair C.hu) d h
    | false => exact go _ fkO ko_tup (room_tup C.hu) d h
  · cases h
def fDin (neg : Bool) (fa fb : Env → List Cell → R W) : Env → List Cell → R W := fun ρ s => (fa ρ s).bind fun x s => (fb ρ s).bind fun y s => match getDW y x s with
    | some r => .ok (.d (.bool (if neg then !r.isSome else r.isSome))) s
    | none => .no
def fDget (fa fb : Env → List Cell → R W) : Env → List Cell → R W := fun ρ s => (fa ρ s).bind fun x s => (fb ρ s).bind fun y s => match getDW x y s with
    | some (some r) => .ok (.d r) s
    | _ => .no
theorem isSome_iff {r : Option PyData} {t : Option V} (h1 : ∀ x, r = some x → ∃ v, t = some v) (h2 : r = none → t = none) : t.isSome = r.isSome := by
  cases r with
  | none => rw [h2 rfl]; rfl
  | some x => obtain ⟨v, e⟩ := h1 x rfl; rw [e]; rfl
theorem din_read (C : Cold X T k Wx) {neg : Bool} {σ : L2.St} {H : Hp} {Q : VK} (h : tE T Wx (fDin neg fa fb) σ H Q) : tE T Wx fa σ H fun y H1 => tE T Wx fb σ H1 fun x H2 => GdX X x y H2 fun κ inst kd a xs k b => Q (.bl (if neg then !(valN xs k).isSome else (valN xs k).isSome)) H2 := by
  refine rd_mono (rd_bind (rel := rW T) (f := fa) (k := fun (ρ : Env) (x : W) s => (fb ρ s).bind fun (y : W) s => match getDW y x s with | some r => R.ok (W.d (.bool (if neg then !r.isSome else r.isSome))) s | none => R.no) h) fun y H1 ⟨B, G, α, ρ, s, w1, r1, M⟩ => ?_
  obtain ⟨B2, G2, α2, ρ2, s2, S2, E2, P2⟩ := M.step (rel := rW T) (f := fb)
  refine ⟨B2, G2, α2, ρ2, s2, S2, E2, P2.mono fun x H2 ⟨G3, α3, s3, w3, x3, r3, M3⟩ => ?_⟩
  have P3 := M3.P
  cases e1 : getDW w3 w1 s3 with
  | none => rw [e1] at P3; exact P3.elim
  | some r =>
    rw [e1] at P3
    refine getDW_ok C M3.S r3 (x3.rw r1) e1 fun κ inst kd a xs kk b f1 f2 => ?_
    have := isSome_iff (r := r) (t := valN xs kk) (fun x hx => let ⟨t, e, _⟩ := f1 x hx; ⟨t, e⟩) f2
    rw [this]
    exact P3.now M3.S (show Dp T.K _ _ _ from .bl _)
theorem d_din (C : Cold X T k Wx) (ha : PE X a (tE T Wx fa)) (hb : PE X b (tE T Wx fb)) (hm : behindInMarks .In b = false) : PE X (.Compare a [.In] [b] pos) (tE T Wx (fDin false fa fb)) :=
  PE_imp (pe_cmp (pc_xin ha hb) hm) fun σ H Q h => din_read C h
theorem d_dnotin (C : Cold X T k Wx) (ha : PE X a (tE T Wx fa)) (hb : PE X b (tE T Wx fb)) (hm : behindInMarks .NotIn b = false) : PE X (.Compare a [.NotIn] [b] pos) (tE T Wx (fDin true fa fb)) :=
  PE_imp (pe_cmp (pc_xnotin ha hb) hm) fun σ H Q h => din_read C h
theorem d_dinT (C : Cold X T k Wx) (ha : PE X a (tE T Wx fa)) (hb : PE X b (tE T Wx fb)) (hm : behindInMarks .In b = false) : PT X (.Compare a [.In] [b] pos) (tT T Wx (fT (fDin false fa fb))) :=
  PT_imp (pt_cmp (pc_xin ha hb) hm) fun σ H Q h => din_read C (tE_bl h)
theorem d_dnotinT (C : Cold X T k Wx) (ha : PE X a (tE T Wx fa)) (hb : PE X b (tE T Wx fb)) (hm : behindInMarks .NotIn b = false) : PT X (.Compare a [.NotIn] [b] pos) (tT T Wx (fT (fDin true fa fb))) :=
  PT_imp (pt_cmp (pc_xnotin ha hb) hm) fun σ H Q h => din_read C (tE_bl h)
theorem d_dget (C : Cold X T k Wx) (ha : PE X a (tE T Wx fa)) (hb : PE X b (tE T Wx fb)) (hs : NoSl b) : PE X (.Subscript a b pos) (tE T Wx (fDget fa fb)) :=
  PE_imp (pe_xget ha hb hs) fun σ H Q h => by
    refine rd_mono (rd_bind (rel := rW T) (f := fa) (k := fun (ρ : Env) (x : W) s => (fb ρ s).bind fun (y : W) s => match getDW x y s with | some (some r) => R.ok (W.d r) s | _ => R.no) h) fun y H1 ⟨B, G, α, ρ, s, w1, r1, M⟩ => ?_
    obtain ⟨B2, G2, α2, ρ2, s2, S2, E2, P2⟩ := M.step (rel := rW T) (f := fb)
    refine ⟨B2, G2, α2, ρ2, s2, S2, E2, P2.mono fun x H2 ⟨G3, α3, s3, w3, x3, r3, M3⟩ => ?_⟩
    have P3 := M3.P
    cases e1 : getDW w1 w3 s3 with
    | none => rw [e1] at P3; exact P3.elim
    | some r =>
      rw [e1] at P3
      cases r with
      | none => exact P3.elim
      | some r =>
        refine getDW_ok C M3.S (x3.rw r1) r3 e1 fun κ inst kd a xs kk b f1 f2 => ?_
        obtain ⟨t, e, dt⟩ := f1 r rfl
        exact ⟨t, e, P3.now M3.S (show Dp T.K _ _ _ from dt)⟩
def fDgetD (fa fb fz : Env → List Cell → R W) : Env → List Cell → R W := fun ρ s => (fa ρ s).bind fun x s => if (dctOf s x).isSome then (fb ρ s).bind fun y s => (fz ρ s).bind fun v s => match getDW x y s with
    | some (some r) => .ok (.d r) s
    | some none => .ok v s
    | none => .no
    else .no
theorem d_dgetD (C : Cold X T k Wx) (ha : PE X a (tE T Wx fa)) (hb : PE X b (tE T Wx fb)) (hz : PE X z (tE T Wx fz)) (m : M2 X a "get" apos b z cpos) : PE X (.Call (.Attribute a "get" apos) [b, z] [] cpos) (tE T Wx (fDgetD fa fb fz)) :=
  PE_imp (pe_xget2 ha hb hz m) fun σ H Q h => by
    refine rd_mono (rd_bind (rel := rW T) (f := fa) h) fun u H1 ⟨B, G, α, ρ, s, w1, r1, M⟩ => ?_
    have M0 := M.P
    by_cases hd : (dctOf s w1).isSome = true
    · rw [if_pos hd] at M0
      refine ⟨?_, ?_⟩
      · obtain ⟨⟨nd, kvs⟩, e⟩ := Option.isSome_iff_exists.mp hd
        obtain ⟨i, rfl, e3⟩ := dctOf_ok e
        obtain ⟨a', rfl, _, _, _, d⟩ := cell_dct C M.S e3 r1
        cases nd with
        | true => obtain ⟨xs, h1, _⟩ := d; exact ⟨_, _, _, a', xs, rfl, h1⟩
        | false => obtain ⟨xs, h1, _⟩ := d; exact ⟨_, _, _, a', xs, rfl, h1⟩
      · have M' : Mid T Wx (rW T) B G α ρ s σ H1 (fun s => (fb ρ s).bind fun y s => (fz ρ s).bind fun v s => match getDW w1 y s with | some (some r) => .ok (.d r) s | some none => .ok v s | none => .no) Q := ⟨M.S, M.E, M0⟩
        obtain ⟨B1, G1, α1, ρ1, s1, S, E, P⟩ := M'.step (rel := rW T) (f := fb)
        refine ⟨B1, G1, α1, ρ1, s1, S, E, P.mono fun y H2 ⟨G2, α2, s2, wy, x2, ry, M2⟩ => ?_⟩
        obtain ⟨B3, G3, α3, ρ3, s3, S3, E3, P3⟩ := M2.step (rel := rW T) (f := fz)
        refine ⟨B3, G3, α3, ρ3, s3, S3, E3, P3.mono fun v H3 ⟨G4, α4, s4, wv, x4, rv, M4⟩ => ?_⟩
        have P4 := M4.P
        cases e1 : getDW w1 wy s4 with
        | none => rw [e1] at P4; exact P4.elim
        | some r =>
          rw [e1] at P4
          refine getDW_ok C M4.S (x4.rw (x2.rw r1)) (x4.rw ry) e1 fun κ inst kd a xs kk b f1 f2 => ?_
          cases r with
          | none =>
            rw [f2 rfl]
            exact P4.now M4.S rv
          | some r =>
            obtain ⟨t, e, dt⟩ := f1 r rfl
            rw [e]
            exact P4.now M4.S (show Dp T.K _ _ _ from dt)
    · rw [if_neg hd] at M0
      exact M0.elim
def fSetD (fo fi fv : Env → List Cell → R W) : Env → List Cell → RS := fun ρ s => ((fv ρ s).bind fun v s => (fo ρ s).bind fun w s => (fi ρ s).bind fun y s => (frzR v s).bind fun x s => (frzR y s).bind fun key s => putDW w key x s).st ρ fun _ s => .ok (.nx, ρ) s
/-- d[key] = x, at the store -/
theorem putDW_ok (C : Cold X T k Wx) {B G H : Hp} {α : List Addr} {s : List Cell} (S : StM T B G H α s) {w : W} {u y v : V} (rw' : RW T G α w u) {key x : PyData} (dk : Dp T.K G y key) (dv : Dp T.K G v x) {s' : List Cell} (h : putDW w key x s = .ok () s') {D : Hp → Prop}
    (q : ∀ H', StM T B G H' α s' → D H') : GdX X u y H fun κ inst kd a xs k b => xs.length < sizeLine ∧ D (upd H a (gdO kd a (putX xs k b v))) := by
  unfold putDW at h
  split at h
  · rename_i i
    split at h
    · rename_i nd kvs e3
      split at h
      · rename_i hl
        obtain ⟨a, rfl, ha, hg, hb, d⟩ := cell_dct C S e3 rw'
        have go : ∀ {κ : Type} [inst : DecidableEq κ] (kd : HeapKind X.prog X.w κ) (ko : PyData → Option κ), KO X kd ko → kd.room X.A.in1 → DR kd ko X.K G H a kvs → (∀ xs H', DR kd ko X.K G H' a xs → DctX X nd X.K G H' a xs) →
            (∀ kk, ko key = some kk → s' = s.set i (.dct nd (dPutK ko kvs kk key x))) → (∃ kk, ko key = some kk) → GdX X (.ref a) y H fun κ inst kd a xs k b => xs.length < sizeLine ∧ D (upd H a (gdO kd a (putX xs k b v))) := fun {κ inst} kd ko O hu d up hs ⟨kk, hk⟩ => by
          refine ⟨κ, inst, kd, hu, gd_at2 O S.gh d hk (by rw [C.hK]; exact Dp.mono S.gh _ _ dk) fun b xs ey _ dp => ?_⟩
          refine ⟨by rw [dp.len]; exact hl, q _ ?_⟩
          rw [hs kk hk]
          refine S.set ha hg hb ⟨hg, hb, (dctX C).mpr (up _ _ ⟨_, upd_same, DRp.put hk ?_ ?_ dp⟩)⟩
          · rw [← ey, C.hK]; exact dk
          · rw [C.hK]; exact dv
        cases nd with
        | true =>
          cases e : pkO key with
          | none => rw [show dPut true kvs key x = none by unfold dPut; rw [e]; rfl] at h; cases h
          | some kk =>
            rw [show dPut true kvs key x = some (dPutK pkO kvs kk key x) by unfold dPut; rw [e]; rfl] at h
            cases h
            exact go _ pkO ko_pair (room_pair C.hu) d (fun xs H' z => z) (fun k' h' => by rw [e] at h'; cases h'; rfl) ⟨kk, e⟩
        | false =>
          cases e : fkO key with
          | none => rw [show dPut false kvs key x = none by unfold dPut; rw [e]; rfl] at h; cases h
          | some kk =>
            rw [show dPut false kvs key x = some (dPutK fkO kvs kk key x) by unfold dPut; rw [e]; rfl] at h
            cases h
            exact go _ fkO ko_tup (room_tup C.hu) d (fun xs H' z => z) (fun k' h' => by rw [e] at h'; cases h'; rfl) ⟨kk, e⟩
      · cases h
    · cases h
  · cases h
theorem putDW_no (w : W) (key x : PyData) (s : List Cell) : putDW w key x s = .no ∨ ∃ s', putDW w key x s = .ok () s' := by
  unfold putDW
  split
  · split
    · split
      · split
        · exact .inr ⟨_, rfl⟩
        · exact .inl rfl
      · exact .inl rfl
    · exact .inl rfl
  · exact .inl rfl
theorem d_setD (C : Cold X T k Wx) {o i value : Expr} {pos' : Pos} {fo fi fv : Env → List Cell → R W} (ho : PE X o (tE T Wx fo)) (hi : PE X i (tE T Wx fi)) (hv : PE X value (tE T Wx fv)) (hs : swapsWith value (some (.Subscript o i pos')) pos.line X.env = pure false) :
    PS X (.Assign [.Subscript o i pos'] value pos) (tS T Wx (fSetD fo fi fv)) :=
  PS_imp (ps_xput ho hi hv hs) fun D σ H h => by
    obtain ⟨B, G, α, ρ, s, S, E, P⟩ := h
    refine ⟨B, G, α, ρ, s, S, E, ?_⟩
    simp only [fSetD] at P
    cases e : fv ρ s with
    | no => rw [e] at P; exact P
    | ex z s1 => rw [e] at P; exact fun G' α' H' cls dx x S' r => P G' α' H' cls dx σ x S' (E.mono x) r
    | ok v s1 =>
      rw [e] at P
      simp only [R.bind_ok] at P
      intro G1 α1 H1 y x1 S1 rv
      refine ⟨B, G1, α1, ρ, s1, S1, E.mono x1, ?_⟩
      cases e2 : fo ρ s1 with
      | no => rw [e2] at P; exact P
      | ex z s2 => rw [e2] at P; exact fun G' α' H' cls dx x S' r => P G' α' H' cls dx σ (x1.trans x) S' (E.mono (x1.trans x)) r
      | ok w s2 =>
        rw [e2] at P
        simp only [R.bind_ok] at P
        intro G2 α2 H2 u x2 S2 rw2
        refine ⟨B, G2, α2, ρ, s2, S2, E.mono (x1.trans x2), ?_⟩
        cases e3 : fi ρ s2 with
        | no => rw [e3] at P; exact P
        | ex z s3 => rw [e3] at P; exact fun G' α' H' cls dx x S' r => P G' α' H' cls dx σ (x1.trans (x2.trans x)) S' (E.mono (x1.trans (x2.trans x))) r
        | ok kv s3 =>
          rw [e3] at P
          simp only [R.bind_ok] at P
          intro G3 α3 H3 iv x3 S3 rk
          have xx := x1.trans (x2.trans x3)
          simp only [frzR] at P
          cases e4 : frz s3 v with
          | none => rw [e4] at P; exact P.elim
          | some q =>
            obtain ⟨xd, s4⟩ := q
            rw [e4] at P
            simp only [R.bind_ok] at P
            obtain ⟨G4, x4, S4, dx⟩ := frz_ok S3 e4 ((x2.trans x3).rw rv)
            cases e5 : frz s4 kv with
            | none => rw [e5] at P; exact P.elim
            | some q =>
              obtain ⟨kd, s5⟩ := q
              rw [e5] at P
              simp only [R.bind_ok] at P
              obtain ⟨G5, x5, S5, dk⟩ := frz_ok S4 e5 (x4.rw rk)
              have x45 := x4.trans x5
              rcases putDW_no w kd xd s5 with e6 | ⟨s6, e6⟩
              · rw [e6] at P; exact P.elim
              · rw [e6] at P
                exact putDW_ok C S5 (x45.rw (x3.rw rw2)) dk (Dp.mono x5.g _ _ dx) e6 (D := fun H' => D.nx σ H') fun H' S6 => P G5 α3 H' σ (xx.trans x45) S6 (E.mono (xx.trans x45))
end
/-! ### C.m(self, ..) -/
section
variable {X : Cx} {T : Tab} {k : Nat} {Wx : WX} {Φ : Phi} {e : Expr} {es : List Expr} {p pos apos : Pos} {fes : Env → List Cell → R (List W)}
theorem pe_clsS {sp : Sp} {E : L2.St → XK} {x m : Str} {C f : Addr} {mc : Value} {fd : FuncData} {ps : List Str} {t : TA} {pl : Sem Bool} (hg : Gl X x) (hm : X.mg x = some (.ref C)) (hdb : (x == ("__debug__" : Str)) = false) (r : ClX.CRead X.K C mc) (fc : PySem.W.findCls X.K (.ref C) mc m = some (.val (.ref f))) (hk : PySem.W.keepIn X.K (.ref f) = true) (hb : Binds X.K fd ps [])
    (F : FnOk X.prog X.w X.K X.mg X.base (L2.CX X.prog X.w) k f fd ps sp) (hr : Room k X.A) (hx : ∀ σ, PassesAt (L2.CX X.prog X.w) X σ (E σ)) (ha : PA X (e :: es) t)
    (hst : starEach (e :: es) X.env = (false, eval e X.env) :: starEach es X.env) (hpl : (backTo pos (starEach es X.env)).any (·.1) = false)
    (ht : eval (.Call (.Attribute (.Name x p) m apos) (e :: es) [] pos) X.env = (do
      let ov ← eval (.Name x p) X.env
      standAt apos.atName
      let (f, first) ← holding [ov] (getMethod ov m pl)
      callWith pos f first (backTo pos (starEach (e :: es) X.env)) (backToKw pos (keywordEach [] X.env)))) :
    PE X (.Call (.Attribute (.Name x p) m apos) (e :: es) [] pos) (tCallS sp E t) := by
  refine ⟨fun pins s σ H Q I h => ?_⟩
  refine PySem.W.methodCall_KW (pl := pl) (ld_glob I hg hm ?_ hdb) ht
  refine PySem.W.method_cls I.kIn r.ga (ClX.getcval_ok I r (v := .ref f) ⟨fc, rfl⟩ fun s1 I1 => ?_)
  refine PySem.W.callWith_K (first := []) (h₀ := X.base) I.ok.mod.kin hk (thn (ha.run pos pins s1 σ H _ I1 h) fun us s2 ⟨vs, H2, I2, r, q2⟩ => ⟨I2.kIn, ?_⟩) hst hpl
  exact run_fnS F hr hb (hx σ) I2 r q2
def fCls (φ : Option Fs) (fes : Env → List Cell → R (List W)) : Env → List Cell → R W := fun ρ s => match φ with
  | some φ => (fes ρ s).bind fun ws s => callF φ ws s
  | none => .no
theorem d_cls {c m : Nat} (C : Cold X T k Wx) (Sd : SndX X T k Φ) (hg : Gl X (T.cn c)) (hdb : (T.cn c == ("__debug__" : Str)) = false) (ha : PA X (e :: es) (tA T Wx fes)) (he : StarOk X pos (e :: es)) (hm : MethOk X (.Name (T.cn c) p) (T.mn m) apos pos (e :: es)) :
    PE X (.Call (.Attribute (.Name (T.cn c) p) (T.mn m) apos) (e :: es) [] pos) (tE T Wx (fCls (Φ.cm c m) fes)) := by
  cases eΦ : Φ.cm c m with
  | none => exact d_no
  | some φ =>
    obtain ⟨Ca, f, fd, ps, mc, h1, h2, h3, h4, h5, h6, h7⟩ := Sd.cm c m φ eΦ
    obtain ⟨pl, hm⟩ := hm
    exact PE_imp (pe_clsS hg h1 hdb h2 h3 h4 h5 h7 C.room (fun σ => passAt C.tk σ) ha (he e es rfl).1 (he e es rfl).2 hm) fun σ H Q h =>
      rd_mono (rd_bind (rel := rWs T) (f := fes) (k := fun _ ws s => callF φ ws s) h) fun us H1 ⟨B, G, α, ρ, s, ws, r, M⟩ => callF_use M.S r M.P
end
end DM

set_option maxRecDepth 100000
/-! DM9: a def keeps its promise. -/
namespace DM
open PySem PySem.Spec PyProof.Rows L2
/-- what is wanted of an exception in a def's body -/
abbrev WD (E : XK) : WX := fun cls d _ H => E cls d H
theorem startR {T : Tab} {G : Hp} {α : List Addr} {N : List Str} : ∀ {ws : List W} {vs : List V}, RWs T G α ws vs → vs.length ≤ N.length → EnvR T G α (startE N.length ws) (L2.start N vs) := by
  intro ws vs r hl
  have e : ws.length = vs.length := Paired.len r
  refine ⟨by unfold startE L2.start; simp [e], fun i w h => ?_⟩
  unfold startE at h
  unfold L2.start
  by_cases hi : i < ws.length
  · rw [List.getElem?_append_left (by simpa using hi), List.getElem?_map] at h
    have h1 : ws[i]? = some ws[i] := List.getElem?_eq_getElem hi
    rw [h1] at h
    simp at h
    have go : ∀ {ws : List W} {vs : List V} {i : Nat} {w : W}, RWs T G α ws vs → ws[i]? = some w → ∃ v, vs[i]? = some v ∧ RW T G α w v := by
      intro ws
      induction ws with
      | nil => intro vs i w r h; simp at h
      | cons a ws ih =>
        intro vs i w r h
        cases r with
        | cons r1 r2 =>
          cases i with
          | zero => simp at h; subst h; exact ⟨_, by simp, r1⟩
          | succ i => simp at h; obtain ⟨v, e1, e2⟩ := ih r2 h; exact ⟨v, by simpa using e1, e2⟩
    obtain ⟨v, e1, e2⟩ := go r (by rw [h1, h])
    refine ⟨v, ?_, e2⟩
    rw [List.getElem?_append_left (by simpa using (List.getElem?_eq_some_iff.mp e1).1), List.getElem?_map, e1]
    rfl
  · rw [List.getElem?_append_right (by simpa using hi), List.getElem?_replicate] at h
    split at h <;> cases h
section
variable {P : Program} {w : World} {K : PySem.W.Frag} {mg : Str → Option Value} {base : Heap} {T : Tab}
abbrev cxD (P : Program) (w : World) (K : PySem.W.Frag) (mg : Str → Option Value) (base : Heap) (N : List Str) (qual : Str) (st : Stmt) (f : Addr) (cdv : Value) (A : Around) (outer : List PySem.Env) (s : Shared) (H : Hp) (E : XK) : Cx := cxOf (L2.CX P w) P w K mg base N qual (defScope st) f cdv A outer s H E
theorem RW.noH {G : Hp} {α α' : List Addr} : ∀ {w : W} {v : V}, (∀ i, w ≠ .h i) → RW T G α w v → RW T G α' w v
  | .d _, _, _, h => h
  | .h i, _, hn, _ => absurd rfl (hn i)
  | .o _ _, _, _, h => h
  | .dc _, _, _, h => h
/-- a def without a look at the store -/
theorem ok_P {x qual : Str} {st : Stmt} {f : Addr} {fd : FuncData} {N ps : List Str} {k : Nat} {g : List W → Option Ro} {run : Nat → Env → List Cell → RS} (F : Fun K x qual st f fd) (S : FnScope N ps (defScope st))
    (body : ∀ (n : Nat) (cdv : Value) (A : Around) (outer : List PySem.Env) (s : Shared) (H : Hp) (E : XK), Room k (A.deeper (envOfC qual (defScope st) s.heap.objs.size f cdv)) → PSs (cxD P w K mg base N qual st f cdv A outer s H E) (defBody st) (tS T (WD E) (run n)))
    (spec : ∀ ws ro, ws.length = ps.length → g ws = some ro → ∃ n, endP (run n (startE N.length ws) []) = some ro) : FnOk P w K mg base (L2.CX P w) (k + 1) f fd ps (spP T ps.length g) := by
  refine F.okX S (fun vs H Q E h => h.1) (fun cdv A outer s H vs Q E hr h => ?_)
  obtain ⟨hl, G, ws, gh, r, h⟩ := h
  cases eg : g ws with
  | none => rw [eg] at h; exact h.elim
  | some ro =>
    rw [eg] at h
    have hw : ws.length = ps.length := by rw [← RWs.len r]; exact hl
    obtain ⟨n, hn⟩ := spec ws ro hw eg
    have hpl : ps.length ≤ N.length := by have := congrArg List.length S.pre; rw [List.length_take] at this; omega
    refine ⟨_, body n cdv A outer s H E hr, H, G, [], startE N.length ws, [], ⟨gh, Same.refl H, rfl, .nil, fun i a c h => by simp at h⟩, startR r (by omega), ?_⟩
    cases er : run n (startE N.length ws) [] with
    | no => rw [er] at hn; cases hn
    | ex z s' => rw [er] at hn; cases hn
    | ok q s' =>
      obtain ⟨o, ρ'⟩ := q
      rw [er] at hn
      have back : ∀ {G' : Hp} {α' : List Addr}, Ext H G [] G' α' → Ext H G [] G' [] := fun x => ⟨x.g, ⟨[], rfl⟩, x.b⟩
      cases o with
      | brk => cases hn
      | ct => cases hn
      | nx =>
        cases hn
        intro G' α' H' σ' x S' E'
        exact h .non H' G' S'.bh (back x) S'.gh (show Dp T.K G' _ _ from .non)
      | ex z =>
        cases hn
        intro G' α' H' cls dx σ' x S' E' rx
        exact h H' cls dx S'.bh rx
      | ret wv =>
        intro G' α' H' v x S' rv
        have hn : finP wv s' = some ro := hn
        cases wv with
        | h i =>
          simp only [finP] at hn
          cases ec : s'[i]? with
          | none => rw [ec] at hn; cases hn
          | some c =>
            rw [ec] at hn
            cases c with
            | lst l =>
              cases hn
              obtain ⟨a, vs', rfl, ha, hg, hb, hH, hd⟩ := cell_list S' ec rv
              exact h (.ref a) H' G' S'.bh (back x) S'.gh ⟨a, vs', rfl, hH, hg, hb, by simp, hd⟩
            | fzl l =>
              cases hn
              obtain ⟨a, ha, rfl⟩ := rv
              obtain ⟨vs', hG, hd⟩ := S'.cell i a _ ha ec
              exact h (.ref a) H' G' S'.bh (back x) S'.gh (show Dp T.K G' _ _ from .lst (SqL.of hG) hd)
            | _ => cases hn
        | d y => cases hn; exact h v H' G' S'.bh (back x) S'.gh rv
        | o c fs => cases hn; exact h v H' G' S'.bh (back x) S'.gh rv
        | dc y => cases hn; exact h v H' G' S'.bh (back x) S'.gh rv
/-! ### upon the store -/
theorem closedW_of {G : Hp} {α : List Addr} {w : W} {v : V} (h : RW T G α w v) : closedW α.length w = true := by
  cases w with
  | h i => obtain ⟨a, ha, _⟩ := h; exact decide_eq_true (List.getElem?_eq_some_iff.mp ha).1
  | _ => rfl
theorem closedFs_of {G : Hp} {α : List Addr} {c : Nat} : ∀ {fvs : List (Str × V)} {fs : List (Nat × W)}, FsW T c G α fvs fs → (fs.all fun p => closedW α.length p.2) = true
  | _, _, .nil => rfl
  | _, _, .cons ⟨_, _, h⟩ t => by rw [List.all_cons, closedW_of h, closedFs_of t]; rfl
theorem closedS_of {B G H : Hp} {α : List Addr} {s : List Cell} (S : StM T B G H α s) : closedS s.length s = true := by
  unfold closedS
  rw [List.all_eq_true]
  intro c hc
  obtain ⟨i, hi, e⟩ := List.getElem_of_mem hc
  obtain ⟨a, ha, h⟩ := S.at (show s[i]? = some c by rw [List.getElem?_eq_getElem hi, e])
  cases c with
  | ins c fs =>
    obtain ⟨_, _, C, dx, fvs, _, _, h⟩ := h
    have := closedFs_of h
    rw [S.len] at this
    exact this
  | _ => rfl
theorem RW.trim {G : Hp} {α : List Addr} {w : W} {v : V} {k : Nat} (h : RW T G α w v) (c : closedW k w = true) : RW T G (α.take k) w v := by
  cases w with
  | h i =>
    obtain ⟨a, ha, e⟩ := h
    exact ⟨a, by rw [List.getElem?_take_of_lt (of_decide_eq_true c)]; exact ha, e⟩
  | d y => exact h
  | o c fs => exact h
  | dc y => exact h
theorem FsW.trim {G : Hp} {α : List Addr} {c k : Nat} : ∀ {fvs : List (Str × V)} {fs : List (Nat × W)}, FsW T c G α fvs fs → (fs.all fun p => closedW k p.2) = true → FsW T c G (α.take k) fvs fs
  | _, _, .nil, _ => .nil
  | _, _, .cons ⟨a, b, h⟩ t, z => by
    rw [List.all_cons, Bool.and_eq_true] at z
    exact .cons ⟨a, b, RW.trim h z.1⟩ (FsW.trim t z.2)
theorem StM.trim {B G H : Hp} {α : List Addr} {s : List Cell} (S : StM T B G H α s) {k : Nat} (c : closedS k (s.take k) = true) : StM T B G H (α.take k) (s.take k) := by
  refine ⟨S.gh, S.bh, by simp [S.len], S.nd.sublist (List.take_sublist _ _), fun i a cc h1 h2 => ?_⟩
  have hi : i < k := by
    have := (List.getElem?_eq_some_iff.mp h1).1
    simp at this; omega
  rw [List.getElem?_take_of_lt hi] at h1 h2
  have hc := S.cell i a cc h1 h2
  have hm : closedC k cc = true := by
    unfold closedS at c
    rw [List.all_eq_true] at c
    exact c cc (List.mem_of_getElem? (by rw [List.getElem?_take_of_lt hi]; exact h2))
  cases cc with
  | ins c fs =>
    obtain ⟨g1, g2, C, dx, fvs, g3, g4, g5⟩ := hc
    exact ⟨g1, g2, C, dx, fvs, g3, g4, FsW.trim g5 hm⟩
  | lst l => exact hc
  | dct nd l => exact hc
  | fzl l => exact hc
  | gone => exact hc
theorem Ext.trim {B G G' : Hp} {α α' : List Addr} {k : Nat} (x : Ext B G α G' α') (h : α.length ≤ k) : Ext B G α G' (α'.take k) := by
  obtain ⟨t, rfl⟩ := x.a
  exact ⟨x.g, ⟨t.take (k - α.length), by rw [List.take_append, List.take_of_length_le h]⟩, x.b⟩
theorem ok_M {x qual : Str} {st : Stmt} {f : Addr} {fd : FuncData} {N ps : List Str} {k ext : Nat} {g : List W → List Cell → R Rv} {run : Nat → Env → List Cell → RS} (F : Fun K x qual st f fd) (S : FnScope N ps (defScope st))
    (body : ∀ (n : Nat) (cdv : Value) (A : Around) (outer : List PySem.Env) (s : Shared) (H : Hp) (E : XK), Room k (A.deeper (envOfC qual (defScope st) s.heap.objs.size f cdv)) → PSs (cxD P w K mg base N qual st f cdv A outer s H E) (defBody st) (tS T (WD E) (run n)))
    (spec : ∀ ws s, ws.length = ps.length → closedS s.length s = true → g ws s ≠ .no → ∃ n, endM (s.length + ext) (run n (startE N.length ws) s) = g ws s) : FnOk P w K mg base (L2.CX P w) (k + 1) f fd ps (spM T ps.length g) := by
  refine F.okX S (fun vs H Q E h => h.1) (fun cdv A outer s H vs Q E hr h => ?_)
  obtain ⟨hl, B, G, α, ws, st', S0, r, h⟩ := h
  have hw : ws.length = ps.length := by rw [← RWs.len r]; exact hl
  have hne : g ws st' ≠ .no := fun z => by rw [z] at h; exact h
  obtain ⟨n, hn⟩ := spec ws st' hw (closedS_of S0) hne
  have hpl : ps.length ≤ N.length := by have := congrArg List.length S.pre; rw [List.length_take] at this; omega
  refine ⟨_, body n cdv A outer s H E hr, B, G, α, startE N.length ws, st', S0, startR r (by omega), ?_⟩
  rw [← hn] at h hne
  have hk : α.length ≤ st'.length + ext := by rw [S0.len]; omega
  have base' : ∀ {G' H' : Hp} {α' : List Addr} {s' : List Cell}, Ext B G α G' α' → StM T B G' H' α' s' → (closedS (st'.length + ext) (s'.take (st'.length + ext)) && decide (st'.length + ext ≤ s'.length)) = true →
      Ext B G α G' (α'.take (st'.length + ext)) ∧ StM T B G' H' (α'.take (st'.length + ext)) (s'.take (st'.length + ext)) := fun x S' c => by
    rw [Bool.and_eq_true] at c
    exact ⟨x.trim hk, S'.trim c.1⟩
  cases er : run n (startE N.length ws) st' with
  | no => rw [er] at hne; exact absurd rfl hne
  | ex z s' => rw [er] at hne; exact absurd rfl hne
  | ok q s' =>
    obtain ⟨o, ρ'⟩ := q
    rw [er] at h hne
    cases o with
    | brk => exact absurd rfl hne
    | ct => exact absurd rfl hne
    | ex z =>
      simp only [endM] at h hne
      by_cases hc : (closedS (st'.length + ext) (s'.take (st'.length + ext)) && decide (st'.length + ext ≤ s'.length)) = true
      · rw [if_pos hc] at h
        intro G' α' H' cls dx σ' x S' E' rx
        obtain ⟨x2, S2⟩ := base' x S' hc
        exact h G' _ H' cls dx x2 S2 rx
      · rw [if_neg hc] at hne
        exact absurd rfl hne
    | nx =>
      simp only [endM, finM] at h hne
      by_cases hc : (closedS (st'.length + ext) (s'.take (st'.length + ext)) && decide (st'.length + ext ≤ s'.length)) = true
      · rw [if_pos hc] at h
        intro G' α' H' σ' x S' E'
        obtain ⟨x2, S2⟩ := base' x S' hc
        exact h G' _ H' .non x2 S2 (show Dp T.K G' _ _ from .non)
      · rw [if_neg hc] at hne
        exact absurd rfl hne
    | ret wv =>
      simp only [endM, finM] at h hne
      by_cases hc : (closedS (st'.length + ext) (s'.take (st'.length + ext)) && decide (st'.length + ext ≤ s'.length)) = true
      · rw [if_pos hc] at h hne
        intro G' α' H' v x S' rv
        obtain ⟨x2, S2⟩ := base' x S' hc
        cases wv with
        | h i =>
          simp only at h hne
          by_cases hi : i < st'.length + ext
          · rw [if_pos hi] at h
            exact h G' _ H' v x2 S2 (show RW T G' _ (.h i) v from RW.trim rv (decide_eq_true hi))
          · rw [if_neg hi] at h hne
            cases ec : s'[i]? with
            | none => rw [ec] at hne; exact absurd rfl hne
            | some c =>
              rw [ec] at h hne
              cases c with
              | lst l =>
                obtain ⟨a, vs', rfl, ha, hg, hb, hH, hd⟩ := cell_list S' ec rv
                refine h G' _ H' _ x2 S2 ⟨a, vs', rfl, hH, hg, hb, fun hm => ?_, hd⟩
                obtain ⟨j, hj, ej⟩ := List.getElem_of_mem hm
                have hj' : j < st'.length + ext := by simp at hj; omega
                have e1 : α'[j]? = some a := by rw [← List.getElem?_take_of_lt hj', List.getElem?_eq_getElem hj, ej]
                obtain ⟨l1, q1⟩ := List.getElem?_eq_some_iff.mp e1
                obtain ⟨l2, q2⟩ := List.getElem?_eq_some_iff.mp ha
                have := (List.getElem_inj S'.nd).mp (q1.trans q2.symm)
                omega
              | fzl l =>
                obtain ⟨a, ha, rfl⟩ := rv
                obtain ⟨vs', hG, hd⟩ := S'.cell i a _ ha ec
                exact h G' _ H' _ x2 S2 (show Dp T.K G' _ _ from .lst (SqL.of hG) hd)
              | dct _ _ => exact absurd rfl hne
              | ins _ _ => exact absurd rfl hne
              | gone => exact absurd rfl hne
        | d y => exact h G' _ H' v x2 S2 rv
        | o c fs => exact h G' _ H' v x2 S2 rv
        | dc y => exact h G' _ H' v x2 S2 rv
      · rw [if_neg hc] at hne
        exact absurd rfl hne
/-! ### an __init__ whose instance is frozen -/
theorem fldsD_ok {B G H : Hp} {α : List Addr} {s : List Cell} {c : Nat} (S : StM T B G H α s) : ∀ {fs : List (Nat × W)} {fds : List (Nat × PyData)} {fvs : List (Str × V)}, fldsD s fs = some fds → FsW T c G α fvs fs →
    ∃ Gv, Same G Gv ∧ Same Gv H ∧ (∀ b, G b = none → Gv b ≠ none → B b = none ∧ ∃ vs, H b = some (.lst vs)) ∧ FsD T c Gv fvs fds
  | [], fds, fvs, h, r => by cases h; cases r; exact ⟨G, Same.refl G, S.gh, fun b h1 h2 => absurd h1 h2, .nil⟩
  | (f, w) :: fs, fds, fvs, h, r => by
    simp only [fldsD] at h
    cases r with
    | @cons p _ fvs _ r1 r2 =>
      cases e1 : see s w with
      | none => rw [e1] at h; cases h
      | some x =>
        cases e2 : fldsD s fs with
        | none => rw [e1, e2] at h; cases h
        | some l =>
          rw [e1, e2] at h
          cases h
          obtain ⟨Gv, g1, g2, g3, g4⟩ := fldsD_ok S e2 r2
          obtain ⟨q1, q2, q3⟩ := r1
          cases w with
          | d y => cases e1; exact ⟨Gv, g1, g2, g3, .cons ⟨q1, q2, Dp.mono g1 _ _ q3⟩ g4⟩
          | o _ _ => cases e1
          | dc _ => cases e1
          | h i =>
            simp only [see] at e1
            obtain ⟨a, ha, hp⟩ := q3
            cases e3 : s[i]? with
            | none => rw [e3] at e1; cases e1
            | some cc =>
              rw [e3] at e1
              have hc := S.cell i a cc ha e3
              cases cc with
              | lst m =>
                cases e1
                obtain ⟨hg, hb, vs, hH, hd⟩ := hc
                by_cases hga : Gv a = none
                · refine ⟨upd Gv a (.lst vs), g1.trans (Same.upd hga), fun b u e => ?_, fun b h1 h2 => ?_, .cons ⟨q1, q2, by rw [hp]; exact .lst (SqL.of upd_same) (DpAll.mono (g1.trans (Same.upd hga)) _ _ hd)⟩ (FsD.mono (Same.upd hga) g4)⟩
                  · by_cases hb : b = a
                    · subst hb; rw [upd_same] at e; cases e; exact hH
                    · rw [upd_ne hb] at e; exact g2 b u e
                  · by_cases hb' : b = a
                    · subst hb'; exact ⟨hb, vs, hH⟩
                    · rw [upd_ne hb'] at h2; exact g3 b h1 h2
                · obtain ⟨o, ho⟩ := Option.ne_none_iff_exists'.mp hga
                  have := g2 _ _ ho
                  rw [hH] at this
                  cases this
                  exact ⟨Gv, g1, g2, g3, .cons ⟨q1, q2, by rw [hp]; exact .lst (SqL.of ho) (DpAll.mono g1 _ _ hd)⟩ g4⟩
              | fzl m =>
                cases e1
                obtain ⟨vs, hG, hd⟩ := hc
                exact ⟨Gv, g1, g2, g3, .cons ⟨q1, q2, by rw [hp]; exact .lst (SqL.of (g1 _ _ hG)) (DpAll.mono g1 _ _ hd)⟩ g4⟩
              | dct _ _ => cases e1
              | ins _ _ => cases e1
              | gone => cases e1
theorem ok_I {x qual : Str} {st : Stmt} {f : Addr} {fd : FuncData} {N ps : List Str} {k c n : Nat} {g : List W → Option (Except Xc (List (Nat × PyData)))} {run : Nat → Env → List Cell → RS} (F : Fun K x qual st f fd) (S : FnScope N ps (defScope st)) (hps : ps.length = n + 1)
    (body : ∀ (n : Nat) (cdv : Value) (A : Around) (outer : List PySem.Env) (s : Shared) (H : Hp) (E : XK), Room k (A.deeper (envOfC qual (defScope st) s.heap.objs.size f cdv)) → PSs (cxD P w K mg base N qual st f cdv A outer s H E) (defBody st) (tS T (WD E) (run n)))
    (spec : ∀ ws r, ws.length = n → g ws = some r → ∃ m, endI c (run m (startE N.length (.h 0 :: ws)) [.ins c []]) = some r) : FnOk P w K mg base (L2.CX P w) (k + 1) f fd ps (spI T c n g) := by
  refine F.okX S (fun vs H Q E ⟨G, ws, y, dx, C, us, h1, h2, _⟩ => by rw [h1, hps]; simp [h2]) (fun cdv A outer s H vs Q E hr h => ?_)
  obtain ⟨G, ws, y, dx, C, us, rfl, hl, hC, hy, hgy, gh, r, h⟩ := h
  cases eg : g ws with
  | none => rw [eg] at h; exact h.elim
  | some ro =>
    rw [eg] at h
    have hw : ws.length = n := by rw [← RWs.len r]; exact hl
    obtain ⟨m, hn⟩ := spec ws ro hw eg
    have hpl : ps.length ≤ N.length := by have := congrArg List.length S.pre; rw [List.length_take] at this; omega
    have hbut : Same (Hbut H y) H := fun b o e => by
      by_cases hb : b = y
      · subst hb
        have : Hbut H b b = none := by unfold Hbut; rw [if_pos rfl]
        rw [this] at e; cases e
      · rw [Hbut_ne hb] at e; exact e
    have hby : Hbut H y y = none := by unfold Hbut; rw [if_pos rfl]
    have S0 : StM T (Hbut H y) G H [y] [.ins c []] := ⟨gh, hbut, rfl, by simp, fun i a cc h1 h2 => by
      cases i with
      | zero =>
        simp at h1 h2
        subst h1; subst h2
        exact ⟨hgy, hby, C, dx, [], hy, hC, .nil⟩
      | succ i => simp at h1⟩
    refine ⟨_, body m cdv A outer s H E hr, Hbut H y, G, [y], startE N.length (.h 0 :: ws), [.ins c []], S0, startR (ws := .h 0 :: ws) (.cons ⟨y, rfl, rfl⟩ (RWs.mono (Same.refl G) ⟨[y], rfl⟩ r)) (by simp; omega), ?_⟩
    cases er : run m (startE N.length (.h 0 :: ws)) [.ins c []] with
    | no => rw [er] at hn; cases hn
    | ex z s' => rw [er] at hn; cases hn
    | ok q s' =>
      obtain ⟨o, ρ'⟩ := q
      rw [er] at hn
      cases o with
      | brk => cases hn
      | ct => cases hn
      | ret _ => cases hn
      | ex z =>
        cases hn
        intro G' α' H' cls d σ' x S' E' rx
        exact h H' cls d S'.bh rx
      | nx =>
        intro G' α' H' σ' x S' E'
        simp only [endI] at hn
        cases e0 : s'[0]? with
        | none => rw [e0] at hn; cases hn
        | some cc =>
          rw [e0] at hn
          cases cc with
          | ins c' fs =>
            simp only at hn
            by_cases hcc : c' = c
            · subst hcc
              rw [if_pos rfl] at hn
              cases ef : fldsD s' fs with
              | none => rw [ef] at hn; cases hn
              | some fds =>
                rw [ef] at hn
                cases hn
                have ha0 : α'[0]? = some y := by
                  obtain ⟨t, rfl⟩ := x.a
                  simp
                obtain ⟨hg0, hb0, C', dx', fvs, hH, hC', hF⟩ := S'.cell 0 y _ ha0 e0
                rw [hC] at hC'
                cases hC'
                obtain ⟨Gv, g1, g2, g3, g4⟩ := fldsD_ok S' ef hF
                refine h H' Gv fvs dx' S'.bh ⟨x.g.trans g1, ⟨[], rfl⟩, fun b h1 h2 => ?_⟩ g2 hH g4
                -- no new knowledge where H stood
                have hG'b : G' b = none := by
                  by_cases hb : b = y
                  · subst hb; exact hg0
                  · exact x.b b (by rw [Hbut_ne hb]; exact h1) h2
                cases q : Gv b with
                | none => rfl
                | some u =>
                  obtain ⟨hbb, vs', hv⟩ := g3 b hG'b (by rw [q]; exact fun z => by cases z)
                  by_cases hb : b = y
                  · subst hb; rw [hH] at hv; cases hv
                  · rw [Hbut_ne hb] at hbb; exact absurd hbb h1
            · rw [if_neg hcc] at hn; cases hn
          | _ => cases hn
end
end DM

set_option maxRecDepth 100000
/-! DM10: a def's text as a text of the machine; it computes what the text does. -/
namespace DM
open PySem PySem.Spec PyProof.Rows L2

/-- what a text is read against: the slots, the scope, the names -/
structure CC where
  N : List Str
  sc : Scope
  own : Str → Bool
  fns : List Str
  cls : List Str
  mns : List Str
  fls : List Str
  blt : List Str
  gl : List (Str × PyData)
  mu : List Str
  lsts : List Str
  dcts : List Str
  retF : Bool

def ixOf (x : Str) : List Str → Option Nat
  | [] => none
  | y :: r => if x = y then some 0 else (ixOf x r).map (· + 1)
theorem ixOf_some {x : Str} : ∀ {l : List Str} {i : Nat}, ixOf x l = some i → l[i]? = some x
  | [], _, h => by cases h
  | y :: r, i, h => by
    unfold ixOf at h
    by_cases e : x = y
    · rw [if_pos e] at h; cases h; simp [e]
    · rw [if_neg e] at h
      cases q : ixOf x r with
      | none => rw [q] at h; cases h
      | some j => rw [q] at h; cases h; simpa using ixOf_some q
def isVis (sc : Scope) (x : Str) : Bool := match sc.names.lookup x with
  | some .local => true
  | some .cell => true
  | some .free => true
  | _ => false
theorem isVis_ok {sc : Scope} {x : Str} (h : isVis sc x = true) : Vis sc x := by
  unfold isVis at h
  unfold Vis
  split at h <;> simp_all
def isLoc (sc : Scope) (x : Str) : Bool := match sc.names.lookup x with
  | some .local => true
  | some .cell => true
  | _ => false
theorem isLoc_ok {sc : Scope} {x : Str} (h : isLoc sc x = true) : L2.Loc sc x := by
  unfold isLoc at h
  unfold L2.Loc
  split at h <;> simp_all
def isG (sc : Scope) (x : Str) : Bool := match sc.names.lookup x with
  | some .globalImplicit => !(x == ("__debug__" : Str))
  | _ => false
theorem isG_ok {sc : Scope} {x : Str} (h : isG sc x = true) : sc.names.lookup x = some .globalImplicit ∧ (x == ("__debug__" : Str)) = false := by
  unfold isG at h
  split at h
  · rename_i e; exact ⟨e, by simpa using h⟩
  · cases h
/-! ### forms -/
def isStar : Expr → Bool
  | .Starred .. => true
  | _ => false
theorem star_cons {e : Expr} {es : List Expr} {env : PySem.Env} (h : isStar e = false) : starEach (e :: es) env = (false, eval e env) :: starEach es env := by
  cases e <;> first | rfl | cases h
def noStar (es : List Expr) : Bool := es.all fun e => !isStar e
theorem noStar_cons {e : Expr} {es : List Expr} (h : noStar (e :: es) = true) : isStar e = false ∧ noStar es = true := by
  unfold noStar at h ⊢
  rw [List.all_cons, Bool.and_eq_true] at h
  exact ⟨by simpa using h.1, h.2⟩
theorem star_any {env : PySem.Env} : ∀ {es : List Expr}, noStar es = true → (starEach es env).any (·.1) = false
  | [], _ => rfl
  | e :: es, h => by
    obtain ⟨h1, h2⟩ := noStar_cons h
    rw [star_cons h1, List.any_cons, star_any h2]
    rfl
theorem back_any {env : PySem.Env} {pos : Pos} {es : List Expr} (h : noStar es = true) : (backTo pos (starEach es env)).any (·.1) = false := by
  unfold backTo
  rw [List.any_map]
  exact star_any h
theorem starOk {X : Cx} {pos : Pos} {es : List Expr} (h : noStar es = true) : StarOk X pos es := fun e es' e' => by
  subst e'
  obtain ⟨h1, h2⟩ := noStar_cons h
  exact ⟨star_cons h1, back_any h2⟩
def supC : Expr → Bool
  | .Call (.Name _ _) [] [] _ => true
  | _ => false
theorem base_ok {o : Expr} {a : Str} {env : PySem.Env} (h : supC o = false) : attributeBase o a env (eval o env) = eval o env := by
  cases o <;> try rfl
  rename_i f args kws p
  cases f <;> try rfl
  cases args <;> try rfl
  cases kws <;> try rfl
  cases h
def isSlice : Expr → Bool
  | .Slice .. => true
  | _ => false
theorem plainIx {b : Expr} (h : isSlice b = false) : PlainIx b := by
  intro o i
  cases b <;> first | rfl | cases h
def isSet : Expr → Bool
  | .Set .. => true
  | _ => false
theorem behind_ok {op : CmpOp} {b : Expr} (h : isSet b = false) : behindInMarks op b = false := by
  cases b <;> first | rfl | cases h
theorem folded_ok {e : Expr} {env : PySem.Env} (h : isSet e = false) : ∀ x, foldedSetIterable e env x = pure x := by
  intro x
  cases e <;> first | rfl | cases h
theorem meth_form {X : Cx} {o : Expr} {m : Str} {apos pos : Pos} {es : List Expr} (h1 : supC o = false) (h2 : noStar es = true) (h3 : es.length < 30) (h4 : (apos.endLine == pos.line) = true) : MethOk X o m apos pos es := by
  refine ⟨(do return (← importBound o X.env).getD true), ?_⟩
  have hf : methodCallForm (es.length + ([] : List Keyword).length) (backTo pos (starEach es X.env)) (backToKw pos (keywordEach [] X.env)) = true := by
    unfold methodCallForm
    have : ((backTo pos (starEach es X.env)).all fun x => !x.1) = true := by
      have q := back_any (env := X.env) (pos := pos) h2
      rw [List.any_eq_false] at q
      rw [List.all_eq_true]
      intro x hx
      have := q x hx
      simpa using this
    rw [this]
    simp [backToKw, keywordEach]
    omega
  have e0 : eval (.Call (.Attribute o m apos) es [] pos) X.env = (do
    let ov ← attributeBase o m X.env (eval o X.env)
    standAt apos.atName
    methodCall o m apos pos X.env ov (es.length + ([] : List Keyword).length) (backTo pos (starEach es X.env)) (backToKw pos (keywordEach [] X.env))) := by rfl
  rw [e0, base_ok h1]
  congr 1
  funext ov
  congr 1
  funext _
  unfold methodCall calleeOf methodCallPos
  rw [hf, h4]
  rfl
def isIte : Expr → Bool
  | .IfExp .. => true
  | _ => false

/-! ### operators -/
def opK : Operator → Option BinK
  | .Add => some .add
  | .Sub => some .sub
  | .Mult => some .mul
  | .FloorDiv => some .fdiv
  | .Mod => some .mod
  | .Pow => some .pow
  | _ => none
theorem opK_ok {o : Operator} {k : BinK} (h : opK o = some k) : o = opOf k := by cases o <;> first | (cases h; rfl) | cases h
def cmpKk : CmpOp → Option CmpK
  | .Eq => some .eq
  | .NotEq => some .ne
  | .Lt => some .lt
  | .LtE => some .le
  | .Gt => some .gt
  | .GtE => some .ge
  | .Is => some .isN
  | .IsNot => some .notN
  | .In => some .in_
  | .NotIn => some .notIn
theorem cmpKk_ok {o : CmpOp} {k : CmpK} (h : cmpKk o = some k) : o = cmpOf k := by cases o <;> (cases h; rfl)

/-! ### expressions -/
/-- a dict's form -/
def isDx (c : CC) : Expr → Bool
  | .Name x _ => c.dcts.contains x
  | .Attribute _ f _ => c.dcts.contains f
  | _ => false
/-- fields that hold a dict whose keys are pairs -/
def isNd (f : Str) : Bool := decide (f = "bad") || decide (f = "known")
def isEmptyD : Expr → Bool
  | .Dict [] [] _ => true
  | _ => false
/-- a class of the program -/
def clsE (c : CC) : Expr → Option Nat
  | .Name x _ => if isG c.sc x then ixOf x c.cls else none
  | _ => none
def isLx (c : CC) : Nat → Expr → Bool
  | n + 1, .BinOp a .Add b _ => isLx c n a || isLx c n b
  | n + 1, .BinOp a .Mult _ _ => isLx c n a
  | n + 1, .Subscript a (.Slice ..) _ => isLx c n a
  | _, .List .. => true
  | _, .ListComp .. => true
  | _, .Name x _ => c.lsts.contains x
  | _, .Attribute _ f _ => c.lsts.contains f
  | _, .Call (.Name x _) _ _ _ => decide (x = "list")
  | _, _ => false
/-- a fresh list's form -/
def isFx (c : CC) (e : Expr) : Bool := match e with
  | .List .. => true
  | .ListComp .. => true
  | .Call .. => true
  | .BinOp .. => isLx c 9 e
  | .Subscript a (.Slice ..) _ => isLx c 9 a
  | _ => false
def esOf (g : Expr → E) : List Expr → Es
  | [] => .nil
  | e :: es => .cons (g e) (esOf g es)
def nt (g : Expr → E) (e : Expr) : E := if isIte e then .no else g e
def andE (g : Expr → E) : List Expr → E
  | [] => .no
  | [a] => nt g a
  | a :: b :: r => .and (nt g a) (andE g (b :: r))
def orE (g : Expr → E) : List Expr → E
  | [] => .no
  | [a] => nt g a
  | a :: b :: r => .or (nt g a) (orE g (b :: r))
def parE (g : Expr → E) : Option Expr → Oe
  | none => .none
  | some e => .some (g e)
def tyK (x : Str) : Option TyK := if x = "str" then some .str else if x = "int" then some .int else if x = "bool" then some .bool else if x = "tuple" then some .tuple else if x = "list" then some .list else if x = "dict" then some .dict else none
theorem tyK_ok {x : Str} {t : TyK} (h : tyK x = some t) : x = Str.ofString (tyS t) := by
  unfold tyK at h
  repeat' split at h
  all_goals first | (cases h; subst_vars; rfl) | cases h
/-- a call by name -/
def callE (c : CC) (g : Expr → E) (h : Expr → F) (x : Str) (args : List Expr) (whole : Expr) : E :=
  if isG c.sc x && noStar args then match ixOf x c.fns with
    | some i => .call i (esOf g args)
    | none => match ixOf x c.cls with
      | some i => (match args with | [] => .no | _ :: _ => .mk i (esOf g args))
      | none => if c.blt.contains x then (match args with
          | [] => .no
          | [a] => if x = "len" then .bi .len (esOf g args) else if x = "int" then .bi .int (esOf g args) else if x = "tuple" then .tupOf (g a) else if x = "list" then .fr (h whole) else if x = "sum" then .bi .sum (esOf g args) else if x = "max" then .bi .maxl (esOf g args) else .no
          | [a, b] => if x = "max" then .bi .max2 (esOf g args) else if x = "min" then .bi .min2 (esOf g args) else if x = "isinstance" then (match b with
              | .Name y _ => (match tyK y with | some t => if isG c.sc y && c.blt.contains y then .isi t (g a) else .no | none => .no)
              | _ => .no) else .no
          | _ => .no) else .no
  else .no
/-- a method's call -/
def methE (c : CC) (g : Expr → E) (o : Expr) (m : Str) (apos pos : Pos) (args : List Expr) : E :=
  if noStar args && !supC o && decide (args.length < 30) && (apos.endLine == pos.line) then match clsE c o with
    | some i => (match args with
      | [] => .no
      | _ :: _ => (match ixOf m c.mns with | some j => .cls i j (esOf g args) | none => .no))
    | none =>
    if m = "append" then (match args with | [b] => .app (g o) (g b) | _ => .no)
    else if m = "pop" then (match args with | [] => .pop (g o) | _ => .no)
    else if m = "get" then (match args with | [b, z] => if isDx c o then .dgetD (g o) (g b) (g z) else .no | _ => .no)
    else if m = "clear" then (match args with | [] => .clr (g o) | _ => .no)
    else match ixOf m c.mns with
      | some i => .meth (g o) i (esOf g args)
      | none => .no
  else .no
def binE (c : CC) (g : Expr → E) (h : Expr → F) (a : Expr) (op : Operator) (b : Expr) (whole : Expr) : E :=
  match opK op with
    | some .mul => if isLx c 9 a then .fr (h whole) else .bin .mul (g a) (g b)
    | some k => .bin k (g a) (g b)
    | none => .no
def cmpE (c : CC) (g : Expr → E) (a : Expr) (ops : List CmpOp) (es : List Expr) : E := match ops, es with
  | [o], [b] => if isDx c b then (match o with | .In => .din false (g a) (g b) | .NotIn => .din true (g a) (g b) | _ => .no) else (match cmpKk o with | some k => if isSet b then .no else .cmp k (g a) (g b) | none => .no)
  | [o, o'], [b, d] => (match cmpKk o, cmpKk o' with | some k, some k' => if isSet d then .no else .chain k k' (g a) (g b) (g d) | _, _ => .no)
  | _, _ => .no
def constE : Const → E
  | .none => .cst .none
  | .bool b => .cst (.bool b)
  | .int i => .cst (.int i)
  | .str x => .cst (.str x)
  | _ => .no
def nameE (c : CC) (x : Str) : E :=
  if isVis c.sc x then (if (x == ("__debug__" : Str)) || (x == ("__classdict__" : Str)) then .no else match ixOf x c.N with | some i => .var i | none => .no)
  else if isG c.sc x then (match c.gl.lookup x with | some d => .cst d | none => .no) else .no
def subE (c : CC) (g : Expr → E) (a b : Expr) : E := match b with
  | .Slice lo hi none _ => .slc (g a) (parE g lo) (parE g hi)
  | .Slice .. => .no
  | b => if isDx c a then .dget (g a) (g b) else .idx (g a) (g b)
def compE0 (g : CC → Expr → E) (h : CC → Expr → F) (c : CC) (e : Expr) : E := match e with
  | .Name x _ => nameE c x
  | .Constant v _ _ => constE v
  | .BinOp a op b _ => binE c (g c) (h c) a op b e
  | .UnaryOp .Not a _ => .not (nt (g c) a)
  | .UnaryOp .USub a _ => .neg (g c a)
  | .BoolOp .And es _ => andE (g c) es
  | .BoolOp .Or es _ => orE (g c) es
  | .IfExp t a b _ => .ite (nt (g c) t) (g c a) (g c b)
  | .Compare a ops es _ => cmpE c (g c) a ops es
  | .Call (.Name x _) args [] _ => callE c (g c) (h c) x args e
  | .Call (.Attribute o m apos) args [] pos => methE c (g c) o m apos pos args
  | .Attribute o f _ => if supC o then .no else match ixOf f c.fls with | some i => .fld (g c o) i | none => .no
  | .Subscript a b _ => subE c (g c) a b
  | .Tuple es _ _ => if noStar es then .tup (esOf (g c) es) else .no
  | .Dict [] [] _ => .dnew false
  | .List _ _ => .fr (h c e)
  | .ListComp _ _ _ _ => .fr (h c e)
  | _ => .no
/-! ### iterables, targets, comprehensions -/
def iterE (c : CC) (g : Expr → E) (e : Expr) : It := match e with
  | .Call (.Name x _) [a] [] _ => if decide (x = "range") && isG c.sc x && c.blt.contains x && !isStar a then .rng1 (g a) else .seq (g e)
  | .Call (.Name x _) [a, b] [] _ => if decide (x = "range") && isG c.sc x && c.blt.contains x && !isStar a && !isStar b then .rng2 (g a) (g b) else .seq (g e)
  | e => .seq (g e)
def tgN (c : CC) (x : Str) : Option Nat := if isLoc c.sc x && (c.own x || decide (c.sc.names.lookup x = some .local)) then ixOf x c.N else none
def tgNs (c : CC) : List Expr → Option (List Nat)
  | [] => some []
  | .Name x _ :: r => match tgN c x, tgNs c r with
    | some i, some is => some (i :: is)
    | _, _ => none
  | _ => none
def tgOf (c : CC) (e : Expr) : Option Tg := match e with
  | .Name x _ => (tgN c x).map .n
  | .Tuple es _ _ => (tgNs c es).map .t
  | _ => none
def ownOf (N : List Str) (scope : Scope) : List (Str × Nat) := scope.names.filterMap fun y => match y.2 with
  | .local => (ixOf y.1 N).map fun i => (y.1, i)
  | .cell => (ixOf y.1 N).map fun i => (y.1, i)
  | _ => none
def blkCC (c : CC) (scope : Scope) : CC := { c with sc := relS scope c.sc, own := fun x => scope.names.lookup x == some .cell }
def fno : F := .list .no
def ifsE (g : Expr → E) : List Expr → Oe
  | [] => .none
  | [t] => .some (nt g t)
  | _ => .some .no
def compC (g : CC → Expr → E) (c : CC) (elt tg iter : Expr) (ifs : List Expr) (scope : Scope) : F := match tgOf (blkCC c scope) tg with
  | some t => if blkC c.N c.sc scope (ownOf c.N scope) && !isSet iter && ((tgSlots t).all fun i => decide (i ∈ (ownOf c.N scope).map (·.2))) then
      .comp (iterE c (g c) iter) t ((ownOf c.N scope).map (·.2)) (ifsE (g (blkCC c scope)) ifs) (g (blkCC c scope) elt)
    else fno
  | none => fno
/-- list(e) -/
def lstF (c : CC) (g : Expr → E) (a : Expr) : F := match a with
  | .Call (.Name y p) [b] [] q => if decide (y = "range") && isG c.sc y && c.blt.contains y && !isStar b then .lrng (g b) else .list (g (.Call (.Name y p) [b] [] q))
  | a => .list (g a)
def compF0 (g : CC → Expr → E) (h : CC → Expr → F) (c : CC) (e : Expr) : F := match e with
  | .List es _ => if noStar es then .lst (esOf (g c) es) else fno
  | .ListComp elt [⟨tg, iter, ifs, 0⟩] scope _ => compC g c elt tg iter ifs scope
  | .Call (.Name x _) args [] _ => if isG c.sc x && noStar args then (match ixOf x c.fns with
    | some i => .call i (esOf (g c) args)
    | none => (match args with | [a] => if decide (x = "list") && c.blt.contains x then lstF c (g c) a else fno | _ => fno)) else fno
  | .Call (.Attribute o m apos) args [] pos => if noStar args && !supC o && decide (args.length < 30) && (apos.endLine == pos.line) then (match ixOf m c.mns with
    | some i => .meth (g c o) i (esOf (g c) args)
    | none => fno) else fno
  | .Subscript a (.Slice lo hi none _) _ => .sll (g c a) (parE (g c) lo) (parE (g c) hi)
  | .BinOp a .Add b _ => .add (g c a) (g c b)
  | .BinOp a .Mult b _ => .mul (h c a) (g c b)
  | _ => fno
def comp : Nat → (CC → Expr → E) × (CC → Expr → F)
  | 0 => (fun _ _ => .no, fun _ _ => fno)
  | n + 1 => (compE0 (comp n).1 (comp n).2, compF0 (comp n).1 (comp n).2)
end DM

set_option maxRecDepth 100000
/-! DM10b: a, b = x, y. -/
namespace DM
open PySem PySem.Spec PyProof.Rows L2
def isLo (sc : Scope) (x : Str) : Bool := decide (sc.names.lookup x = some .local)
def parOk2 (sc : Scope) (x y : Str) (px py : Pos) (a b : Expr) : Bool := isLo sc x && isLo sc y && (py.line == px.line) && !(x == y) && noStar [a, b] && !([a, b].all (foldedForSure 8)) && !([a, b].all (constantsAlone 8))
theorem starAny {es : List Expr} (h : noStar es = true) : (es.any fun | .Starred .. => true | _ => false) = false := by
  rw [List.any_eq_false]
  intro e he
  unfold noStar at h
  rw [List.all_eq_true] at h
  have := h e he
  cases e <;> first | (exact Bool.false_ne_true) | cases this
theorem swapped2 {x y : Str} {px py kp kp2 : Pos} {kt k2 : Nat} {a b : Expr} {env : PySem.Env} (hk : env.scope.kind = .function) (h : parOk2 env.scope x y px py a b = true) : swappedStores [.Tuple [.Name x px, .Name y py] kt kp] (.Tuple [a, b] k2 kp2) env = pure (some [x, y]) := by
  unfold parOk2 isLo at h
  simp only [Bool.and_eq_true, decide_eq_true_eq, Bool.not_eq_true'] at h
  obtain ⟨⟨⟨⟨⟨⟨hx, hy⟩, hl⟩, hne⟩, hs⟩, hf⟩, hc⟩ := h
  have hb : env.blockKind = .function := by unfold Env.blockKind; rw [hk]; rfl
  have kx : (env.kindOf x == some .local) = true := by unfold Env.kindOf; rw [hx]; rfl
  have ky : (env.kindOf y == some .local) = true := by unfold Env.kindOf; rw [hy]; rfl
  have hne' : (y == x) = false := by
    rw [beq_eq_false_iff_ne] at hne ⊢
    exact fun e => hne e.symm
  have hst := starAny hs
  unfold swappedStores
  simp only [hb, hst, hf, hc, List.filterMap_cons, kx, ky, Expr.pos, hl, beq_self_eq_true, Bool.and_self, if_true, List.head?_cons, Option.map_some, Option.getD_some, List.filterMap_nil]
  have q1 : ([x, y].eraseDups) = [x, y] := by
    simp [List.eraseDups_cons, hne']
  simp [q1]
  have sa := (noStar_cons hs).1
  have sb := (noStar_cons (noStar_cons hs).2).1
  rintro (h | h)
  · cases a <;> first | (cases h; done) | (cases sa; done)
  · cases b <;> first | (cases h; done) | (cases sb; done)
def parOk3 (sc : Scope) (x y z : Str) (px py pz : Pos) (a b c : Expr) : Bool := isLo sc x && isLo sc y && isLo sc z && (py.line == px.line) && (pz.line == px.line) && !(x == y) && !(x == z) && !(y == z) && noStar [a, b, c] && !([a, b, c].all (foldedForSure 8)) && !([a, b, c].all (constantsAlone 8))
theorem swapped3 {x y z : Str} {px py pz kp kp2 : Pos} {kt k2 : Nat} {a b c : Expr} {env : PySem.Env} (hk : env.scope.kind = .function) (h : parOk3 env.scope x y z px py pz a b c = true) : swappedStores [.Tuple [.Name x px, .Name y py, .Name z pz] kt kp] (.Tuple [a, b, c] k2 kp2) env = pure (some [x, y, z]) := by
  unfold parOk3 isLo at h
  simp only [Bool.and_eq_true, decide_eq_true_eq, Bool.not_eq_true'] at h
  obtain ⟨⟨⟨⟨⟨⟨⟨⟨⟨⟨hx, hy⟩, hz⟩, hl⟩, hl2⟩, n1⟩, n2⟩, n3⟩, hs⟩, hf⟩, hc⟩ := h
  have hb : env.blockKind = .function := by unfold Env.blockKind; rw [hk]; rfl
  have kx : (env.kindOf x == some .local) = true := by unfold Env.kindOf; rw [hx]; rfl
  have ky : (env.kindOf y == some .local) = true := by unfold Env.kindOf; rw [hy]; rfl
  have kz : (env.kindOf z == some .local) = true := by unfold Env.kindOf; rw [hz]; rfl
  have fl : ∀ {u v : Str}, (u == v) = false → (v == u) = false := fun h => by
    rw [beq_eq_false_iff_ne] at h ⊢
    exact fun e => h e.symm
  have m1 := fl n1
  have m2 := fl n2
  have m3 := fl n3
  unfold swappedStores
  simp only [hb, hf, hc, List.filterMap_cons, kx, ky, kz, Expr.pos, hl, hl2, beq_self_eq_true, Bool.and_self, if_true, List.head?_cons, Option.map_some, Option.getD_some, List.filterMap_nil]
  have q1 : ([x, y, z].eraseDups) = [x, y, z] := by
    simp [List.eraseDups_cons, m1, m2, m3]
  simp [q1]
  have sa := (noStar_cons hs).1
  have sb := (noStar_cons (noStar_cons hs).2).1
  have sc := (noStar_cons (noStar_cons (noStar_cons hs).2).2).1
  rintro (h | h | h)
  · cases a <;> first | (cases h; done) | (cases sa; done)
  · cases b <;> first | (cases h; done) | (cases sb; done)
  · cases c <;> first | (cases h; done) | (cases sc; done)
section
variable {X : Cx} {T : Tab} {k : Nat} {Wx : WX} {pos : Pos} {fes : Env → List Cell → R (List W)}
def fPar (is : List Nat) (fes : Env → List Cell → R (List W)) : Env → List Cell → RS := fun ρ s => (fes ρ s).st ρ fun ws s => match setWs ρ is ws with
    | some ρ => .ok (.nx, ρ) s
    | none => .no
theorem d_par2 {i j : Nat} {x y : Str} {a b : Expr} {px py pt : Pos} {kt k2 pt2} (hc : X.calm = true) (hN : X.N.Nodup) (hi : X.N[i]? = some x) (hj : X.N[j]? = some y) (hk : X.env.scope.kind = .function) (h : parOk2 X.env.scope x y px py a b = true) (ha : PA X [a, b] (tA T Wx fes)) :
    PS X (.Assign [.Tuple [.Name x px, .Name y py] kt pt] (.Tuple [a, b] k2 pt2) pos) (tS T Wx (fPar [i, j] fes)) := by
  have h0 := h
  unfold parOk2 isLo at h0
  simp only [Bool.and_eq_true, decide_eq_true_eq, Bool.not_eq_true', beq_eq_false_iff_ne] at h0
  refine PS_imp (ps_par hc hN hi hj ?_ h0.1.1.1.1.1.1 h0.1.1.1.1.1.2 ha (swapped2 hk h) rfl) fun D σ H q => ?_
  · rintro rfl
    rw [hi] at hj
    exact h0.1.1.1.2 (Option.some.inj hj)
  · refine rd_mono (st_read (rel := rWs T) (k := fun ρ ws s => match setWs ρ [i, j] ws with | some ρ => .ok (.nx, ρ) s | none => .no) q) fun vs H1 ⟨B, G, α, ρ, s, ws, r, S, E, P⟩ => ?_
    cases r with
    | nil => exact P.elim
    | cons r1 r =>
      cases r with
      | nil => exact P.elim
      | cons r2 r =>
        cases r with
        | nil => exact ⟨_, _, rfl, P G α H1 _ Ext.refl' S ((E.set i r1).set j r2)⟩
        | cons r3 r => exact P.elim
theorem d_par3 {i j l : Nat} {x y z : Str} {a b c : Expr} {px py pz pt : Pos} {kt k2 pt2} (hc : X.calm = true) (hN : X.N.Nodup) (hi : X.N[i]? = some x) (hj : X.N[j]? = some y) (hl : X.N[l]? = some z) (hk : X.env.scope.kind = .function) (h : parOk3 X.env.scope x y z px py pz a b c = true) (ha : PA X [a, b, c] (tA T Wx fes)) :
    PS X (.Assign [.Tuple [.Name x px, .Name y py, .Name z pz] kt pt] (.Tuple [a, b, c] k2 pt2) pos) (tS T Wx (fPar [i, j, l] fes)) := by
  have h0 := h
  unfold parOk3 isLo at h0
  simp only [Bool.and_eq_true, decide_eq_true_eq, Bool.not_eq_true', beq_eq_false_iff_ne] at h0
  obtain ⟨⟨⟨⟨⟨⟨⟨⟨⟨⟨hx, hy⟩, hz⟩, hl1⟩, hl2⟩, n1⟩, n2⟩, n3⟩, hs⟩, hf⟩, hcc⟩ := h0
  have ne : ∀ {i j : Nat} {x y : Str}, X.N[i]? = some x → X.N[j]? = some y → x ≠ y → i ≠ j := fun hi hj n e => by
    subst e
    rw [hi] at hj
    exact n (Option.some.inj hj)
  refine PS_imp (ps_par3 hc hN hi hj hl (ne hi hj n1) (ne hi hl n2) (ne hj hl n3) hx hy hz ha (swapped3 hk h) rfl) fun D σ H q => ?_
  refine rd_mono (st_read (rel := rWs T) (k := fun ρ ws s => match setWs ρ [i, j, l] ws with | some ρ => .ok (.nx, ρ) s | none => .no) q) fun vs H1 ⟨B, G, α, ρ, s, ws, r, S, E, P⟩ => ?_
  cases r with
  | nil => exact P.elim
  | cons r1 r =>
    cases r with
    | nil => exact P.elim
    | cons r2 r =>
      cases r with
      | nil => exact P.elim
      | cons r3 r =>
        cases r with
        | nil => exact ⟨_, _, _, rfl, P G α H1 _ Ext.refl' S (((E.set i r1).set j r2).set l r3)⟩
        | cons r4 r => exact P.elim
end
end DM

set_option maxRecDepth 100000
/-! DM11: expressions are read as the machine runs them. -/
namespace DM
open PySem PySem.Spec PyProof.Rows L2
structure Okk (X : Cx) (c : CC) (T : Tab) (k : Nat) (Wx : WX) (Φ : Phi) : Prop where
  C : Cold X T (k + 1) Wx
  ok : TabOk T
  Sd : SndX X T k Φ
  N : X.N = c.N
  sc : X.env.scope = c.sc
  kd : c.sc.kind = .function
  fn : X.fn = c.own
  gn : ∀ i x, c.fns[i]? = some x → T.gn i = x
  cn : ∀ i x, c.cls[i]? = some x → T.cn i = x
  mn : ∀ i x, c.mns[i]? = some x → T.mn i = x
  fl : ∀ i x, c.fls[i]? = some x → T.fn i = x
  blt : ∀ x, c.blt.contains x = true → X.mg x = none
  gl : ∀ x d, c.gl.lookup x = some d → ∃ u v, X.mg x = some u ∧ RelV v u ∧ ∀ G, Dp T.K G v d
section
variable {X : Cx} {c : CC} {T : Tab} {k : Nat} {Wx : WX} {Φ : Phi}
theorem Cold.mono {j : Nat} (C : Cold X T k Wx) (h : j ≤ k) : Cold X T j Wx := ⟨C.hP, C.hw, C.hK, C.calm, C.room.mono h, C.tk, C.hN⟩
theorem Okk.gl_ok (O : Okk X c T k Wx Φ) {x : Str} (h : isG c.sc x = true) : Gl X x ∧ (x == ("__debug__" : Str)) = false := by
  obtain ⟨h1, h2⟩ := isG_ok h
  exact ⟨by show X.env.scope.names.lookup x = _; rw [O.sc]; exact h1, h2⟩
theorem Okk.blk (O : Okk X c T k Wx Φ) (s : Shared) (H : Hp) (C : Addr) (cl : List (Str × Addr)) (fp : List Addr) (scope : Scope) (hs : scope.kind = .function) : Okk (X.blk s H scope (compEnvC scope cl C X.env) fp) (blkCC c scope) T k W0 Φ := by
  refine ⟨⟨O.C.hP, O.C.hw, O.C.hK, O.C.calm, O.C.room, fun u s' x => ?_, O.C.hN⟩, O.ok, O.Sd, O.N, ?_, hs, rfl, O.gn, O.cn, O.mn, O.fl, O.blt, O.gl⟩
  · obtain ⟨a, B, sI, pins, σ, H, cls, d, e, I, nb, up, sky, na, os, ag, w⟩ := x
    exact w
  · show relS scope X.env.scope = relS scope c.sc
    rw [O.sc]
variable {g : Expr → E} {h : Expr → F}
/-- values, tests, new lists -/
structure Rd (X : Cx) (T : Tab) (Wx : WX) (Φ : Phi) (g : Expr → E) (h : Expr → F) : Prop where
  e : ∀ e, PE X e (tE T Wx (runE Φ (g e)))
  t : ∀ e, isIte e = false → PT X e (tT T Wx (fT (runE Φ (g e))))
  f : ∀ e, PE X e (tF T Wx (runF Φ (h e)))
theorem runE_no : runE Φ .no = fun _ _ => .no := rfl
theorem d_noE {e : Expr} : PE X e (tE T Wx (runE Φ .no)) := d_no
theorem d_noF {e : Expr} : PE X e (tF T Wx (runF Φ fno)) := ⟨fun pins s σ H Q I ⟨B, G, α, ρ, s', S, E, P⟩ => P.elim⟩
theorem d_noT {e : Expr} : PT X e (tT T Wx (fT (runE Φ .no))) := ⟨fun pins s σ H Q I ⟨B, G, α, ρ, s', S, E, P⟩ => P.elim⟩
theorem Rd.ntT (R : Rd X T Wx Φ g h) (e : Expr) : PT X e (tT T Wx (fT (runE Φ (DM.nt g e)))) := by
  unfold DM.nt
  by_cases hi : isIte e = true
  · rw [if_pos hi]; exact d_noT
  · rw [if_neg hi]; exact R.t e (by simpa using hi)
theorem Rd.ntE (R : Rd X T Wx Φ g h) (e : Expr) : PE X e (tE T Wx (runE Φ (DM.nt g e))) := by
  unfold DM.nt
  by_cases hi : isIte e = true
  · rw [if_pos hi]; exact d_noE
  · rw [if_neg hi]; exact R.e e
theorem es_ok (R : Rd X T Wx Φ g h) : ∀ {es : List Expr}, noStar es = true → PA X es (tA T Wx (runEs Φ (esOf g es)))
  | [], _ => d_nil
  | e :: es, hs => d_cons (R.e e) (es_ok R (noStar_cons hs).2) (star_cons (noStar_cons hs).1)
theorem es_nil {es : List Expr} (e : es = []) : runEs Φ (esOf g es) = fun _ s => .ok [] s := by subst e; rfl
theorem par_ok (R : Rd X T Wx Φ g h) : ∀ e : Option Expr, PO X e (tO T Wx (runO Φ (parE g e)))
  | none => d_noPart
  | some e => d_part (R.e e)
theorem name_ok (O : Okk X c T k Wx Φ) {x : Str} {pos : Pos} : PE X (.Name x pos) (tE T Wx (runE Φ (nameE c x))) := by
  unfold nameE
  by_cases hv : isVis c.sc x = true
  · rw [if_pos hv]
    by_cases hd : ((x == ("__debug__" : Str)) || (x == ("__classdict__" : Str))) = true
    · rw [if_pos hd]; exact d_noE
    · rw [if_neg hd]
      have hd : (x == ("__debug__" : Str)) = false ∧ (x == ("__classdict__" : Str)) = false := by simpa using hd
      cases e : ixOf x c.N with
      | none => exact d_noE
      | some i => exact d_var (by rw [O.N]; exact ixOf_some e) (by rw [O.sc]; exact isVis_ok hv) hd.1 hd.2
  · rw [if_neg hv]
    by_cases hg : isG c.sc x = true
    · rw [if_pos hg]
      cases e : c.gl.lookup x with
      | none => exact d_noE
      | some d =>
        obtain ⟨u, v, h1, h2, h3⟩ := O.gl _ _ e
        exact d_cst (pe_glob (O.gl_ok hg).1 h1 h2 (O.gl_ok hg).2) h3
    · rw [if_neg hg]; exact d_noE
theorem const_ok {v : Const} {j : Nat} {pos : Pos} : PE X (.Constant v j pos) (tE T Wx (runE Φ (constE v))) := by
  cases v with
  | none => exact d_cst pe_non fun G => .non
  | bool b => exact d_cst pe_bl fun G => .bl b
  | int i => exact d_cst pe_int fun G => .int i
  | str x => exact d_cst pe_str fun G => .str x
  | _ => exact d_noE
theorem bin_ok (O : Okk X c T k Wx Φ) (R : Rd X T Wx Φ g h) {a b : Expr} {op : Operator} {pos : Pos} : PE X (.BinOp a op b pos) (tE T Wx (runE Φ (binE c g h a op b (.BinOp a op b pos)))) := by
  unfold binE
  have go : ∀ k', opK op = some k' → PE X (.BinOp a op b pos) (tE T Wx (runE Φ (.bin k' (g a) (g b)))) := fun k' e => by
    obtain rfl := opK_ok e
    exact d_bin O.C.hK k' (R.e a) (R.e b)
  cases e : opK op with
  | none => exact d_noE
  | some k' =>
    cases k' with
    | mul =>
      show PE X _ (tE T Wx (runE Φ (if isLx c 9 a = true then _ else _)))
      by_cases hl : isLx c 9 a = true
      · rw [if_pos hl]; exact d_fr (R.f _)
      · rw [if_neg hl]; exact go _ e
    | _ => exact go _ e
theorem and_ok (R : Rd X T Wx Φ g h) {pos : Pos} : ∀ es, PE X (.BoolOp .And es pos) (tE T Wx (runE Φ (andE g es)))
  | [] => d_noE
  | [a] => ⟨fun pins s σ H Q I q => (R.ntE a).run pins s σ H Q I q⟩
  | a :: b :: r => d_and (R.ntE a) (and_ok R (b :: r))
theorem or_ok (R : Rd X T Wx Φ g h) {pos : Pos} : ∀ es, PE X (.BoolOp .Or es pos) (tE T Wx (runE Φ (orE g es)))
  | [] => d_noE
  | [a] => ⟨fun pins s σ H Q I q => (R.ntE a).run pins s σ H Q I q⟩
  | a :: b :: r => d_or (R.ntE a) (or_ok R (b :: r))
theorem d_noW {e : Expr} : PW X e (tT T Wx (fT (runE Φ .no))) := ⟨fun whole pins s σ H Q I ⟨B, G, α, ρ, s', S, E, P⟩ => P.elim⟩
theorem andT_ok (R : Rd X T Wx Φ g h) {pos : Pos} : ∀ es, PW X (.BoolOp .And es pos) (tT T Wx (fT (runE Φ (andE g es))))
  | [] => d_noW
  | [a] => pw_and1 (R.ntT a)
  | a :: b :: r => d_andT (q := a) (R.ntT a) (andT_ok R (b :: r))
theorem orT_ok (R : Rd X T Wx Φ g h) {pos : Pos} : ∀ es, PW X (.BoolOp .Or es pos) (tT T Wx (fT (runE Φ (orE g es))))
  | [] => d_noW
  | [a] => pw_or1 (R.ntT a)
  | a :: b :: r => d_orT (R.ntT a) (orT_ok R (b :: r))
theorem cmp_ok (O : Okk X c T k Wx Φ) (R : Rd X T Wx Φ g h) {a : Expr} {ops : List CmpOp} {es : List Expr} {pos : Pos} : PE X (.Compare a ops es pos) (tE T Wx (runE Φ (cmpE c g a ops es))) := by
  unfold cmpE
  split
  · rename_i o b
    by_cases hd : isDx c b = true
    · rw [if_pos hd]
      have hset : isSet b = false := by cases b <;> first | rfl | cases hd
      cases o with
      | In => exact d_din O.C (R.e a) (R.e b) (behind_ok hset)
      | NotIn => exact d_dnotin O.C (R.e a) (R.e b) (behind_ok hset)
      | _ => exact d_noE
    rw [if_neg hd]
    cases e : cmpKk o with
    | none => exact d_noE
    | some k' =>
      obtain rfl := cmpKk_ok e
      simp only
      by_cases hs : isSet b = true
      · rw [if_pos hs]; exact d_noE
      · rw [if_neg hs]; exact d_cmp O.C.hK O.C.hu5 k' (R.e a) (R.e b) (behind_ok (by simpa using hs))
  · rename_i o o' b d
    split
    · rename_i k1 k2 e1 e2
      obtain rfl := cmpKk_ok e1
      obtain rfl := cmpKk_ok e2
      by_cases hs : isSet d = true
      · rw [if_pos hs]; exact d_noE
      · rw [if_neg hs]; exact d_chain O.C.hK O.C.hu5 k1 k2 (R.e a) (R.e b) (R.e d) (behind_ok (by simpa using hs))
    · exact d_noE
  · exact d_noE
theorem cmpT_ok (O : Okk X c T k Wx Φ) (R : Rd X T Wx Φ g h) {a : Expr} {ops : List CmpOp} {es : List Expr} {pos : Pos} : PT X (.Compare a ops es pos) (tT T Wx (fT (runE Φ (cmpE c g a ops es)))) := by
  unfold cmpE
  split
  · rename_i o b
    by_cases hd : isDx c b = true
    · rw [if_pos hd]
      have hset : isSet b = false := by cases b <;> first | rfl | cases hd
      cases o with
      | In => exact d_dinT O.C (R.e a) (R.e b) (behind_ok hset)
      | NotIn => exact d_dnotinT O.C (R.e a) (R.e b) (behind_ok hset)
      | _ => exact d_noT
    rw [if_neg hd]
    cases e : cmpKk o with
    | none => exact d_noT
    | some k' =>
      obtain rfl := cmpKk_ok e
      simp only
      by_cases hs : isSet b = true
      · rw [if_pos hs]; exact d_noT
      · rw [if_neg hs]; exact d_cmpT O.C.hK O.C.hu5 k' (R.e a) (R.e b) (behind_ok (by simpa using hs))
  · rename_i o o' b d
    split
    · rename_i k1 k2 e1 e2
      obtain rfl := cmpKk_ok e1
      obtain rfl := cmpKk_ok e2
      by_cases hs : isSet d = true
      · rw [if_pos hs]; exact d_noT
      · rw [if_neg hs]; exact d_chainT O.C.hK O.C.hu5 k1 k2 (R.e a) (R.e b) (R.e d) (behind_ok (by simpa using hs))
    · exact d_noT
  · exact d_noT
theorem ty_ok (O : Okk X c T k Wx Φ) {y : Str} {t : TyK} {pos : Pos} (e : tyK y = some t) (hg : isG c.sc y = true) (hb : c.blt.contains y = true) : PE X (.Name y pos) (tC (.ty (tyS t))) := by
  have hy := tyK_ok e
  have hn : y ≠ "__name__" := by subst hy; cases t <;> decide
  exact pe_bltn (O.gl_ok hg).1 (O.blt _ hb) (by rw [hy]; exact boot_ty t) rfl hn (O.gl_ok hg).2
theorem call_ok (O : Okk X c T k Wx Φ) (R : Rd X T Wx Φ g h) {x : Str} {p pos : Pos} {args : List Expr} : PE X (.Call (.Name x p) args [] pos) (tE T Wx (runE Φ (callE c g h x args (.Call (.Name x p) args [] pos)))) := by
  unfold callE
  by_cases hg : (isG c.sc x && noStar args) = true
  · rw [if_pos hg]
    rw [Bool.and_eq_true] at hg
    obtain ⟨hgl, hst⟩ := hg
    cases e : ixOf x c.fns with
    | some i =>
      have hx := O.gn _ _ (ixOf_some e)
      subst hx
      exact d_call (O.C.mono (Nat.le_succ k)) O.Sd (O.gl_ok hgl).1 (O.gl_ok hgl).2 (es_ok R hst) es_nil (starOk hst)
    | none =>
      simp only
      cases e2 : ixOf x c.cls with
      | some i =>
        have hx := O.cn _ _ (ixOf_some e2)
        subst hx
        cases args with
        | nil => exact d_noE
        | cons a r => exact d_mk O.C O.Sd (O.gl_ok hgl).1 (O.gl_ok hgl).2 (es_ok R hst) (starOk hst)
      | none =>
        simp only
        by_cases hb : c.blt.contains x = true
        · rw [if_pos hb]
          split
          · exact d_noE
          · rename_i a
            have h1 := star_cons (es := []) (env := X.env) (noStar_cons hst).1
            split
            · subst_vars; exact d_len O.C.hK (O.gl_ok hgl).1 (O.blt _ hb) (es_ok R hst) h1 rfl
            · split
              · subst_vars; exact d_int (O.gl_ok hgl).1 (O.blt _ hb) (es_ok R hst) h1 rfl
              · split
                · subst_vars; exact d_tupOf O.C.hK (O.gl_ok hgl).1 (O.blt _ hb) (R.e a) h1
                · split
                  · subst_vars; exact d_fr (R.f _)
                  · split
                    · subst_vars; exact d_sum O.C.calm O.C.hK (O.gl_ok hgl).1 (O.blt _ hb) (es_ok R hst) h1 rfl
                    · split
                      · subst_vars; exact d_maxl O.C.calm O.C.hu O.C.hK (O.gl_ok hgl).1 (O.blt _ hb) (es_ok R hst) h1 rfl
                      · exact d_noE
          · rename_i a b
            have h1 := star_cons (es := [b]) (env := X.env) (noStar_cons hst).1
            have h2 := star_cons (es := []) (env := X.env) (noStar_cons (noStar_cons hst).2).1
            split
            · subst_vars; exact d_max2 O.C.calm (O.gl_ok hgl).1 (O.blt _ hb) (es_ok R hst) h1 (back_any (noStar_cons hst).2)
            · split
              · subst_vars; exact d_min2 O.C.calm (O.gl_ok hgl).1 (O.blt _ hb) (es_ok R hst) h1 (back_any (noStar_cons hst).2)
              · split
                · subst_vars
                  split
                  · rename_i y p2
                    split
                    · rename_i t et
                      split
                      · rename_i hh
                        rw [Bool.and_eq_true] at hh
                        exact d_isi O.C.hK t (O.gl_ok hgl).1 (O.blt _ hb) (R.e a) (ty_ok O et hh.1 hh.2) h1 h2 (back_any (noStar_cons hst).2)
                      · exact d_noE
                    · exact d_noE
                  · exact d_noE
                · exact d_noE
          · exact d_noE
        · rw [if_neg hb]; exact d_noE
  · rw [if_neg hg]; exact d_noE
theorem clsE_ok (O : Okk X c T k Wx Φ) {o : Expr} {i : Nat} (h : clsE c o = some i) : ∃ p, o = .Name (T.cn i) p ∧ Gl X (T.cn i) ∧ (T.cn i == ("__debug__" : Str)) = false := by
  unfold clsE at h
  split at h
  · rename_i x p
    split at h
    · rename_i hg
      have hx := O.cn _ _ (ixOf_some h)
      subst hx
      exact ⟨p, rfl, O.gl_ok hg⟩
    · cases h
  · cases h
theorem m2_ok {o b z : Expr} {apos pos : Pos} (h1 : noStar [b, z] = true) (h2 : supC o = false) (h4 : (apos.endLine == pos.line) = true) : M2 X o "get" apos b z pos := by
  have e1 := star_cons (es := [z]) (env := X.env) (noStar_cons h1).1
  have e2 := star_cons (es := []) (env := X.env) (noStar_cons (noStar_cons h1).2).1
  have et : backTo pos (starEach [b, z] X.env) = [(false, eval b X.env), (false, eval z X.env)] := by rw [e1, e2]; rfl
  exact ⟨base_ok h2, by rw [et]; rfl, h4, et⟩
theorem meth_ok (O : Okk X c T k Wx Φ) (R : Rd X T Wx Φ g h) {o : Expr} {m : Str} {apos pos : Pos} {args : List Expr} : PE X (.Call (.Attribute o m apos) args [] pos) (tE T Wx (runE Φ (methE c g o m apos pos args))) := by
  unfold methE
  split
  · rename_i hh
    simp only [Bool.and_eq_true, decide_eq_true_eq, Bool.not_eq_true'] at hh
    obtain ⟨⟨⟨h1, h2⟩, h3⟩, h4⟩ := hh
    split
    · rename_i i ec
      split
      · exact d_noE
      · rename_i b r
        split
        · rename_i j e
          obtain ⟨p, rfl, hgl, hdb⟩ := clsE_ok O ec
          have hx := O.mn _ _ (ixOf_some e)
          subst hx
          exact d_cls (O.C.mono (Nat.le_succ k)) O.Sd hgl hdb (es_ok R h1) (starOk h1) (meth_form h2 h1 h3 h4)
        · exact d_noE
    split
    · subst_vars
      split
      · rename_i b
        exact d_app O.C.hK (R.e o) (R.e b) (base_ok h2) h4 (star_cons (noStar_cons h1).1)
      · exact d_noE
    split
    · subst_vars
      split
      · exact d_pop O.C.hK (R.e o) (base_ok h2) h4
      · exact d_noE
    split
    · subst_vars
      split
      · rename_i b z
        split
        · exact d_dgetD O.C (R.e o) (R.e b) (R.e z) (m2_ok h1 h2 h4)
        · exact d_noE
      · exact d_noE
    split
    · subst_vars
      split
      · exact d_clr O.C.hK (R.e o) (base_ok h2) h4
      · exact d_noE
    · split
      · rename_i i e
        have hx := O.mn _ _ (ixOf_some e)
        subst hx
        exact d_meth (O.C.mono (Nat.le_succ k)) O.ok O.Sd (R.e o) (es_ok R h1) es_nil (starOk h1) (meth_form h2 h1 h3 h4)
      · exact d_noE
  · exact d_noE
theorem noSl {b : Expr} (h : isSlice b = false) : NoSl b := by
  intro o i
  cases b <;> first | rfl | cases h
theorem sub_ok (O : Okk X c T k Wx Φ) (R : Rd X T Wx Φ g h) {a b : Expr} {pos : Pos} : PE X (.Subscript a b pos) (tE T Wx (runE Φ (subE c g a b))) := by
  unfold subE
  split
  · exact d_slc O.C.hK (R.e a) (par_ok R _) (par_ok R _)
  · exact d_noE
  · rename_i hn1 hn2
    have hsl : isSlice b = false := by
      cases b <;> first | rfl | skip
      rename_i lo hi st p
      exact absurd rfl (hn2 _ _ _ _)
    split
    · exact d_dget O.C (R.e a) (R.e b) (noSl hsl)
    · exact d_idx O.C.hK (R.e a) (R.e b) (plainIx hsl)
theorem lst_ok (O : Okk X c T k Wx Φ) (R : Rd X T Wx Φ g h) {a : Expr} {p pos : Pos} (hg : Gl X "list") (hm : X.mg "list" = none) (hs : starEach [a] X.env = (false, eval a X.env) :: starEach [] X.env) : PE X (.Call (.Name "list" p) [a] [] pos) (tF T Wx (runF Φ (lstF c g a))) := by
  unfold lstF
  split
  · rename_i y p2 b q
    split
    · rename_i hh
      simp only [Bool.and_eq_true, decide_eq_true_eq, Bool.not_eq_true'] at hh
      obtain ⟨⟨⟨rfl, h1⟩, h2⟩, h3⟩ := hh
      exact d_lrng O.C.calm hg hm (O.gl_ok h1).1 (O.blt _ h2) (R.e b) (star_cons h3) hs
    · exact d_list O.C.hK hg hm (R.e _) hs
  · exact d_list O.C.hK hg hm (R.e _) hs
theorem iter_ok (O : Okk X c T k Wx Φ) (R : Rd X T Wx Φ g h) {e tg : Expr} : PI X tg e (tI T Wx (runI Φ (iterE c g e))) := by
  unfold iterE
  split
  · split
    · rename_i x p a p2 hh
      simp only [Bool.and_eq_true, decide_eq_true_eq, Bool.not_eq_true'] at hh
      obtain ⟨⟨⟨rfl, h1⟩, h2⟩, h3⟩ := hh
      exact d_rng1 (O.gl_ok h1).1 (O.blt _ h2) (R.e a) (star_cons h3)
    · exact d_seq O.C.hK (R.e _)
  · split
    · rename_i x p a b p2 hh
      simp only [Bool.and_eq_true, decide_eq_true_eq, Bool.not_eq_true'] at hh
      obtain ⟨⟨⟨⟨rfl, h1⟩, h2⟩, h3⟩, h4⟩ := hh
      have e2 : starEach [b] X.env = [(false, eval b X.env)] := star_cons h4
      exact d_rng2 (O.gl_ok h1).1 (O.blt _ h2) (R.e a) (R.e b) (by rw [star_cons h3, e2]) e2
    · exact d_seq O.C.hK (R.e _)
  · exact d_seq O.C.hK (R.e _)
end
end DM

set_option maxRecDepth 100000
/-! DM12: comprehensions; all expressions. -/
namespace DM
open PySem PySem.Spec PyProof.Rows L2
section
variable {X : Cx} {c : CC} {T : Tab} {k : Nat} {Wx : WX} {Φ : Phi}
theorem tgN_ok (O : Okk X c T k Wx Φ) {x : Str} {i : Nat} {pos : Pos} (e : tgN c x = some i) : PG X (.Name x pos) (gName i) := by
  unfold tgN at e
  split at e
  · rename_i hh
    simp only [Bool.and_eq_true, Bool.or_eq_true, decide_eq_true_eq] at hh
    refine pg_name O.C.hN (by rw [O.N]; exact ixOf_some e) (by rw [O.sc]; exact isLoc_ok hh.1) ?_
    rw [O.sc, O.fn]
    exact hh.2
  · cases e
theorem tgNs_ok (O : Okk X c T k Wx Φ) : ∀ {es : List Expr} {is : List Nat}, tgNs c es = some is → PGs X es (gAll is) ∧ (assignEach es X.env).length = is.length ∧ (assignEach es X.env).findIdx? (·.1) = none
  | [], is, e => by cases e; exact ⟨pgs_nil, rfl, rfl⟩
  | a :: r, is, e => by
    cases a <;> first | (cases e; done) | skip
    rename_i x p
    simp only [tgNs] at e
    split at e
    · rename_i i is' e1 e2
      cases e
      obtain ⟨h1, h2, h3⟩ := tgNs_ok O e2
      have eq : assignEach (.Name x p :: r) X.env = (false, assign (.Name x p) X.env) :: assignEach r X.env := rfl
      refine ⟨pgs_cons (tgN_ok O e1) h1, ?_, ?_⟩
      · rw [eq]; simp [h2]
      · rw [eq, List.findIdx?_cons]; simp [h3]
    · cases e
theorem tg_ok (O : Okk X c T k Wx Φ) {e : Expr} {t : Tg} (h : tgOf c e = some t) : PG X e (gT T.K t) := by
  unfold tgOf at h
  split at h
  · rename_i x p
    cases q : tgN c x with
    | none => rw [q] at h; cases h
    | some i => rw [q] at h; cases h; exact tgN_ok O q
  · rename_i es j p
    cases q : tgNs c es with
    | none => rw [q] at h; cases h
    | some is =>
      rw [q] at h; cases h
      obtain ⟨h1, h2, h3⟩ := tgNs_ok O q
      rw [← O.C.hK]
      exact pg_tup O.C.calm h1 h2 h3
  · cases h
/-- everything read -/
def RdAll (T : Tab) (k : Nat) (Φ : Phi) (g : CC → Expr → E) (h : CC → Expr → F) : Prop := ∀ (X : Cx) (c : CC) (Wx : WX), Okk X c T k Wx Φ → Rd X T Wx Φ (g c) (h c)
theorem ifs_ok {g : Expr → E} {h : Expr → F} (R : Rd X T Wx Φ g h) : ∀ ifs : List Expr, PTs X ifs (tT T Wx (runC Φ (ifsE g ifs)))
  | [] => ⟨fun pins s σ H Q I q => by
      obtain ⟨B, G, α, ρ, s', S, E, P⟩ := q
      exact pts_nil.run pins s σ H Q I (P.now S rfl)⟩
  | [t] => pts_one (R.ntT t)
  | a :: b :: r => ⟨fun pins s σ H Q I ⟨B, G, α, ρ, s', S, E, P⟩ => P.elim⟩
variable {g : CC → Expr → E} {h : CC → Expr → F}
theorem comp_ok (A : RdAll T k Φ g h) (O : Okk X c T k Wx Φ) {elt tg iter : Expr} {ifs : List Expr} {scope : Scope} {pos : Pos} : PE X (.ListComp elt [⟨tg, iter, ifs, 0⟩] scope pos) (tF T Wx (runF Φ (compC g c elt tg iter ifs scope))) := by
  unfold compC
  split
  · rename_i t et
    split
    · rename_i hh
      simp only [Bool.and_eq_true, Bool.not_eq_true', List.all_eq_true, decide_eq_true_eq] at hh
      obtain ⟨⟨h1, h2⟩, h3⟩ := hh
      have bo := blkOk_by h1
      have ob := fun s H C cl fp => O.blk s H C cl fp scope bo.kind
      exact d_comp (fcnd := runC Φ (ifsE (g (blkCC c scope)) ifs)) (fe := runE Φ (g (blkCC c scope) elt)) O.C.calm O.C.hN (iter_ok O (A _ _ _ O)) (by rw [O.N, O.sc]; exact bo)
        (fun s H C cl fp => tg_ok (ob s H C cl fp) et) (fun s H C cl fp => ifs_ok (A _ _ _ (ob s H C cl fp)) ifs) (fun s H C cl fp => (A _ _ _ (ob s H C cl fp)).e elt) (folded_ok h2) h3
    · exact d_noF
  · exact d_noF
theorem compF_ok (A : RdAll T k Φ g h) (O : Okk X c T k Wx Φ) (e : Expr) : PE X e (tF T Wx (runF Φ (compF0 g h c e))) := by
  have R := A _ _ _ O
  unfold compF0
  split
  · split
    · rename_i hs; exact d_lst (es_ok R hs)
    · exact d_noF
  · exact comp_ok A O
  · split
    · rename_i x p args p2 hh
      rw [Bool.and_eq_true] at hh
      obtain ⟨hgl, hst⟩ := hh
      split
      · rename_i i e
        have hx := O.gn _ _ (ixOf_some e)
        subst hx
        exact d_callL (O.C.mono (Nat.le_succ k)) O.Sd (O.gl_ok hgl).1 (O.gl_ok hgl).2 (es_ok R hst) es_nil (starOk hst)
      · split
        · rename_i a
          split
          · rename_i hh
            simp only [Bool.and_eq_true, decide_eq_true_eq] at hh
            obtain ⟨rfl, hb⟩ := hh
            exact lst_ok O R (O.gl_ok hgl).1 (O.blt _ hb) (star_cons (noStar_cons hst).1)
          · exact d_noF
        · exact d_noF
    · exact d_noF
  · split
    · rename_i o m apos args pos hh
      simp only [Bool.and_eq_true, decide_eq_true_eq, Bool.not_eq_true'] at hh
      obtain ⟨⟨⟨h1, h2⟩, h3⟩, h4⟩ := hh
      split
      · rename_i i e
        have hx := O.mn _ _ (ixOf_some e)
        subst hx
        exact d_methL (O.C.mono (Nat.le_succ k)) O.ok O.Sd (R.e o) (es_ok R h1) es_nil (starOk h1) (meth_form h2 h1 h3 h4)
      · exact d_noF
    · exact d_noF
  · exact d_sll O.C.hK (R.e _) (par_ok R _) (par_ok R _)
  · exact d_addL O.C.hK (R.e _) (R.e _)
  · exact d_mulL (R.f _) (R.e _)
  · exact d_noF
theorem compE_ok (A : RdAll T k Φ g h) (O : Okk X c T k Wx Φ) (e : Expr) : PE X e (tE T Wx (runE Φ (compE0 g h c e))) := by
  have R := A _ _ _ O
  unfold compE0
  split
  · exact name_ok O
  · exact const_ok
  · exact bin_ok O R
  · exact d_not (R.ntE _)
  · exact d_neg (R.e _)
  · exact and_ok R _
  · exact or_ok R _
  · exact d_ite (R.ntT _) (R.e _) (R.e _)
  · exact cmp_ok O R
  · exact call_ok O R
  · exact meth_ok O R
  · split
    · exact d_noE
    · rename_i o f p hs
      split
      · rename_i i e
        have hx := O.fl _ _ (ixOf_some e)
        subst hx
        exact d_fld O.C.hK O.ok (R.e o) (base_ok (by simpa using hs))
      · exact d_noE
  · exact sub_ok O R
  · split
    · rename_i hs; exact d_tup (es_ok R hs)
    · exact d_noE
  · exact d_dnew O.C false
  · exact d_fr (R.f _)
  · exact d_fr (R.f _)
  · exact d_noE
theorem compT_ok (A : RdAll T k Φ g h) (O : Okk X c T k Wx Φ) (e : Expr) (hi : isIte e = false) : PT X e (tT T Wx (fT (runE Φ (compE0 g h c e)))) := by
  have R := A _ _ _ O
  have P := compE_ok A O e
  cases e with
  | IfExp t a b p => cases hi
  | BoolOp op es p =>
    cases op with
    | And => exact (andT_ok R es).pt
    | Or => exact (orT_ok R es).pt
  | UnaryOp op a p =>
    cases op with
    | Not => exact d_notT (R.ntT a)
    | _ => exact d_val P fun whole => rfl
  | Compare a ops es p => exact cmpT_ok O R
  | _ => exact d_val P fun whole => rfl
theorem comp_all : ∀ n, RdAll T k Φ (comp n).1 (comp n).2
  | 0 => fun X c Wx O => ⟨fun e => d_noE, fun e _ => d_noT, fun e => d_noF⟩
  | n + 1 => fun X c Wx O => ⟨compE_ok (comp_all n) O, compT_ok (comp_all n) O, compF_ok (comp_all n) O⟩
end
end DM

set_option maxRecDepth 100000
/-! DM13: statements. -/
namespace DM
open PySem PySem.Spec PyProof.Rows L2
def isComp : Expr → Bool
  | .ListComp .. => true
  | .SetComp .. => true
  | .DictComp .. => true
  | _ => false
theorem swaps_no {v : Expr} {t : Option Expr} {n : Nat} {env : PySem.Env} (h : isComp v = false) : swapsWith v t n env = pure false := by
  cases v <;> first | rfl | cases h
def isName : Expr → Bool
  | .Name .. => true
  | _ => false
theorem swaps_tg {v t : Expr} {n : Nat} {env : PySem.Env} (h : isName t = false) : swapsWith v (some t) n env = pure false := by
  cases v <;> cases t <;> first | rfl | cases h
/-- the store into a comprehension's own place -/
def swapB (sc : Scope) (x : Str) (py vp : Pos) (scope : Scope) : Bool := decide (sc.names.lookup x = some .local) && (py.line == vp.line) && !(scope.names.any fun (n, k) => n == x && (k == .local || k == .cell))
theorem swap_lc {elt : Expr} {gens : List Comprehension} {scope : Scope} {vp py : Pos} {x : Str} {n : Nat} {env : PySem.Env} (hk : env.scope.kind = .function) : swapsWith (.ListComp elt gens scope vp) (some (.Name x py)) n env = pure (swapB env.scope x py vp scope) := by
  have hb : env.blockKind = .function := by unfold Env.blockKind; rw [hk]; rfl
  show (pure (env.blockKind == .function && env.kindOf x == some .local && py.line == vp.line && !(scope.names.any fun (n, k) => n == x && (k == .local || k == .cell))) : Sem Bool) = _
  rw [hb]
  unfold swapB Env.kindOf
  congr 1
  congr 1
  congr 1
  simp only [beq_self_eq_true, Bool.true_and]
  by_cases h : env.scope.names.lookup x = some .local <;> simp [h]
/-- a call that may hand back a new list -/
def thcE (c : CC) (g : Expr → E) (v : Expr) : E := match v with
  | .Call (.Name x _) args [] _ => if isG c.sc x && noStar args then (match ixOf x c.fns with
    | some i => .thc i (esOf g args)
    | none => .no) else .no
  | .Call (.Attribute o m apos) args [] pos => if noStar args && !supC o && decide (args.length < 30) && (apos.endLine == pos.line) then (match ixOf m c.mns with
    | some i => .thm (g o) i (esOf g args)
    | none => .no) else .no
  | _ => .no
def isCall : Expr → Bool
  | .Call (.Name x _) _ _ _ => !decide (x = "list")
  | .Call .. => true
  | _ => false
/-- what is put under a name that may hold a cell -/
def putE (c : CC) (g : CC → Expr → E) (h : CC → Expr → F) (x : Str) (v : Expr) : E := if c.dcts.contains "?" && c.mu.contains x && isCall v then thcE c (g c) v else if c.mu.contains x && isFx c v then .th (h c v) else g c v
def retE (c : CC) (g : CC → Expr → E) (h : CC → Expr → F) (v : Expr) : E := match v with
  | .Call .. => if c.retF then .th (h c v) else g c v
  | v => if isFx c v then .th (h c v) else g c v
/-- .. under a field -/
def fldE (c : CC) (g : CC → Expr → E) (h : CC → Expr → F) (f : Str) (v : Expr) : E := if isNd f && isEmptyD v then .dnew true else putE c g h f v
def gE : CC → Expr → E := (comp 20).1
def hE : CC → Expr → F := (comp 20).2
def isTup : Expr → Bool
  | .Tuple .. => true
  | _ => false
/-- a, b = x, y -/
def parS (c : CC) (es : List Expr) (v : Expr) : S := match es, v with
  | [.Name x px, .Name y py], .Tuple [a, b] _ _ => if parOk2 c.sc x y px py a b then (match ixOf x c.N, ixOf y c.N with
    | some i, some j => .par [i, j] (.cons (putE c gE hE x a) (.cons (putE c gE hE y b) .nil))
    | _, _ => .no) else .no
  | [.Name x px, .Name y py, .Name z pz], .Tuple [a, b, d] _ _ => if parOk3 c.sc x y z px py pz a b d then (match ixOf x c.N, ixOf y c.N, ixOf z c.N with
    | some i, some j, some l => .par [i, j, l] (.cons (putE c gE hE x a) (.cons (putE c gE hE y b) (.cons (putE c gE hE z d) .nil)))
    | _, _, _ => .no) else .no
  | _, _ => .no
def asgE (c : CC) (t v : Expr) : S := match t with
  | .Name x py => match tgN c x with
    | some i => (match v with
      | .ListComp elt [⟨tg, iter, ifs, 0⟩] scope vp => .asg (.n i) (if c.mu.contains x then .th (hE c v) else .fr (hE c v))
      | v => if isComp v then .no else .asg (.n i) (putE c gE hE x v))
    | none => .no
  | .Tuple es _ _ => if isTup v then parS c es v else if isComp v then .no else (match tgNs c es with | some is => .asg (.t is) (gE c v) | none => .no)
  | .Attribute o f _ => (match ixOf f c.fls with | some i => .setF (gE c o) i (fldE c gE hE f v) | none => .no)
  | .Subscript o i _ => if isSlice i then .no else if isDx c o then .setD (gE c o) (gE c i) (gE c v) else .setI (gE c o) (gE c i) (gE c v)
  | _ => .no
def compS0 (B : List Stmt → List S) (c : CC) (st : Stmt) : S := match st with
  | .Expr (.Constant (.str _) _ _) _ => .pass
  | .Expr e _ => if isComp e then .no else .ex (gE c e)
  | .Return none _ => .retN
  | .Return (some v) _ => .ret (retE c gE hE v)
  | .If t a b _ => .ite (nt (gE c) t) (B a) (B b)
  | .While t b [] _ => .while (nt (gE c) t) (B b)
  | .For tg it b [] _ => if isSet it then .no else (match tgOf c tg with | some t => .for t (iterE c (gE c) it) (B b) | none => .no)
  | .Assign [t] v _ => asgE c t v
  | .Pass _ => .pass
  | .Break _ => .brk
  | .Continue _ => .ct
  | _ => .no
def blockE (f : Stmt → S) : List Stmt → List S
  | [] => []
  | st :: r => f st :: blockE f r
def compS (c : CC) : Nat → Stmt → S
  | 0 => fun _ => .no
  | n + 1 => compS0 (blockE (compS c n)) c
/-- a body -/
def compB (c : CC) (b : List Stmt) : List S := blockE (compS c 9) b

section
variable {X : Cx} {c : CC} {T : Tab} {k : Nat} {Wx : WX} {Φ : Phi} {n : Nat}
theorem noS {st : Stmt} : PS X st (tS T Wx (runS Φ n .no)) := d_stNo
theorem gE_ok (O : Okk X c T k Wx Φ) : Rd X T Wx Φ (gE c) (hE c) := comp_all 20 _ _ _ O
theorem thc_ok (O : Okk X c T k Wx Φ) (v : Expr) : PE X v (tE T Wx (runE Φ (thcE c (gE c) v))) := by
  have R := gE_ok O
  unfold thcE
  split
  · split
    · rename_i x p args p2 hh
      rw [Bool.and_eq_true] at hh
      obtain ⟨hgl, hst⟩ := hh
      split
      · rename_i i e
        have hx := O.gn _ _ (ixOf_some e)
        subst hx
        exact d_callT (O.C.mono (Nat.le_succ k)) O.Sd (O.gl_ok hgl).1 (O.gl_ok hgl).2 (es_ok R hst) es_nil (starOk hst)
      · exact d_noE
    · exact d_noE
  · split
    · rename_i o m apos args pos hh
      simp only [Bool.and_eq_true, decide_eq_true_eq, Bool.not_eq_true'] at hh
      obtain ⟨⟨⟨h1, h2⟩, h3⟩, h4⟩ := hh
      split
      · rename_i i e
        have hx := O.mn _ _ (ixOf_some e)
        subst hx
        exact d_methT (O.C.mono (Nat.le_succ k)) O.ok O.Sd (R.e o) (es_ok R h1) es_nil (starOk h1) (meth_form h2 h1 h3 h4)
      · exact d_noE
    · exact d_noE
  · exact d_noE
theorem put_ok (O : Okk X c T k Wx Φ) {x : Str} (v : Expr) : PE X v (tE T Wx (runE Φ (putE c gE hE x v))) := by
  unfold putE
  split
  · exact thc_ok O v
  split
  · exact d_th ((gE_ok O).f v)
  · exact (gE_ok O).e v
theorem fld_ok (O : Okk X c T k Wx Φ) {x : Str} (v : Expr) : PE X v (tE T Wx (runE Φ (fldE c gE hE x v))) := by
  unfold fldE
  split
  · rename_i hh
    rw [Bool.and_eq_true] at hh
    have : ∃ p, v = .Dict [] [] p := by
      cases v <;> first | (cases hh.2; done) | skip
      rename_i ks vs p
      cases ks <;> cases vs <;> first | exact ⟨_, rfl⟩ | cases hh.2
    obtain ⟨p, rfl⟩ := this
    exact d_dnew O.C true
  · exact put_ok O v
theorem ret_ok (O : Okk X c T k Wx Φ) (v : Expr) : PE X v (tE T Wx (runE Φ (retE c gE hE v))) := by
  unfold retE
  split
  · split
    · exact d_th ((gE_ok O).f _)
    · exact (gE_ok O).e _
  · split
    · exact d_th ((gE_ok O).f _)
    · exact (gE_ok O).e _
theorem asg_name (O : Okk X c T k Wx Φ) {x : Str} {i : Nat} {py pos : Pos} {v : Expr} {e : E} (hi : tgN c x = some i) (hv : PE X v (tE T Wx (runE Φ e))) (hs : swapsWith v (some (.Name x py)) pos.line X.env = pure false) :
    PS X (.Assign [.Name x py] v pos) (tS T Wx (runS Φ n (.asg (.n i) e))) :=
  d_asg (tg := .Name x py) (t := .n i) hv (tgN_ok O hi) (show swapsWithSole [.Name x py] v pos.line X.env = pure false from hs) (by cases v <;> rfl) rfl
theorem fr_imp {f : Env → List Cell → R (List PyData)} {σ : L2.St} {H : Hp} {Q : VK} (q : tE T Wx (fun ρ s => (f ρ s).bind fun l s => .ok (.d (.list l)) s) σ H Q) : tF T Wx f σ H Q := by
  refine rd_mono (rd_bind (rel := rF T) (f := f) q) fun v H1 ⟨B, G, α, ρ, s, l, r, M⟩ => ?_
  obtain ⟨G', x, S', d⟩ := freezeF M.S r
  exact M.P.at x S' d
theorem th_imp {f : Env → List Cell → R (List PyData)} {σ : L2.St} {H : Hp} {Q : VK} (q : tE T Wx (fun ρ s => (f ρ s).bind fun l s => .ok (.h s.length) (s ++ [.lst l])) σ H Q) : tF T Wx f σ H Q := by
  refine rd_mono (rd_bind (rel := rF T) (f := f) q) fun v H1 ⟨B, G, α, ρ, s, l, r, M⟩ => ?_
  obtain ⟨a, rfl, S'⟩ := pushF M.S r
  exact M.P.at Ext.push S' ⟨a, by rw [← M.S.len]; simp, rfl⟩
theorem asg_lc (O : Okk X c T k Wx Φ) {x : Str} {i : Nat} {py pos vp : Pos} {elt tg iter : Expr} {ifs : List Expr} {scope : Scope} {e : E} (hi : tgN c x = some i)
    (he : e = .th (hE c (.ListComp elt [⟨tg, iter, ifs, 0⟩] scope vp)) ∨ e = .fr (hE c (.ListComp elt [⟨tg, iter, ifs, 0⟩] scope vp))) :
    PS X (.Assign [.Name x py] (.ListComp elt [⟨tg, iter, ifs, 0⟩] scope vp) pos) (tS T Wx (runS Φ n (.asg (.n i) e))) := by
  have R := gE_ok O
  have hv : PE X (.ListComp elt [⟨tg, iter, ifs, 0⟩] scope vp) (tE T Wx (runE Φ e)) := by
    rcases he with rfl | rfl
    · exact d_th (R.f _)
    · exact d_fr (R.f _)
  have sw := swap_lc (elt := elt) (gens := [⟨tg, iter, ifs, 0⟩]) (scope := scope) (vp := vp) (py := py) (x := x) (n := pos.line) (env := X.env) (by rw [O.sc]; exact O.kd)
  cases hb : swapB X.env.scope x py vp scope with
  | false =>
    rw [hb] at sw
    exact asg_name O hi hv sw
  | true =>
    rw [hb] at sw
    have hxl : X.env.scope.names.lookup x = some .local := by
      unfold swapB at hb
      simp only [Bool.and_eq_true, decide_eq_true_eq] at hb
      exact hb.1.1
    have hN : X.N[i]? = some x := by
      rw [O.N]
      unfold tgN at hi
      split at hi
      · exact ixOf_some hi
      · cases hi
    have hF : hE c (.ListComp elt [⟨tg, iter, ifs, 0⟩] scope vp) = compC (comp 19).1 c elt tg iter ifs scope := rfl
    have A := comp_all (T := T) (k := k) (Φ := Φ) 19
    rw [hF] at he
    unfold compC at he
    split at he
    · rename_i t et
      split at he
      · rename_i hh
        simp only [Bool.and_eq_true, Bool.not_eq_true', List.all_eq_true, decide_eq_true_eq] at hh
        obtain ⟨⟨h1, h2⟩, h3⟩ := hh
        have bo := blkOk_by h1
        have ob := fun s H C cl fp => O.blk s H C cl fp scope bo.kind
        refine d_setLc (fcnd := runC Φ (ifsE ((comp 19).1 (blkCC c scope)) ifs)) (fe := runE Φ ((comp 19).1 (blkCC c scope) elt)) O.C.calm O.C.hN hN hxl sw (iter_ok O (A _ _ _ O)) (by rw [O.N, O.sc]; exact bo)
          (fun s H C cl fp => tg_ok (ob s H C cl fp) et) (fun s H C cl fp => ifs_ok (A _ _ _ (ob s H C cl fp)) ifs) (fun s H C cl fp => (A _ _ _ (ob s H C cl fp)).e elt) (folded_ok h2) h3 (runE Φ e) (fun σ H Q q => ?_)
        rcases he with rfl | rfl
        · exact th_imp q
        · exact fr_imp q
      · have : runE Φ e = fun _ _ => .no := by rcases he with rfl | rfl <;> rfl
        exact PS_imp ps_never fun D σ H ⟨B, G, α, ρ, s, S, E, P⟩ => by
          have P' : PostS T Wx B G α ((runE Φ e ρ s).st ρ fun w s => match asgT ρ (.n i) w with | some ρ => DM.R.ok (DM.O.nx, ρ) s | none => .no) D := P
          rw [this] at P'
          exact P'
    · have : runE Φ e = fun _ _ => .no := by rcases he with rfl | rfl <;> rfl
      exact PS_imp ps_never fun D σ H ⟨B, G, α, ρ, s, S, E, P⟩ => by
        have P' : PostS T Wx B G α ((runE Φ e ρ s).st ρ fun w s => match asgT ρ (.n i) w with | some ρ => DM.R.ok (DM.O.nx, ρ) s | none => .no) D := P
        rw [this] at P'
        exact P'
theorem par_ok2 (O : Okk X c T k Wx Φ) {es : List Expr} {j : Nat} {p : Pos} {v : Expr} {pos : Pos} : PS X (.Assign [.Tuple es j p] v pos) (tS T Wx (runS Φ n (parS c es v))) := by
  have kd : X.env.scope.kind = .function := by rw [O.sc]; exact O.kd
  unfold parS
  split
  · rename_i x px y py a b k2 pt2
    split
    · rename_i h
      split
      · rename_i i j e1 e2
        have hs : noStar [a, b] = true := by
          have h := h
          unfold parOk2 at h
          simp only [Bool.and_eq_true] at h
          exact h.1.1.2
        exact d_par2 (fes := runEs Φ (.cons (putE c gE hE x a) (.cons (putE c gE hE y b) .nil))) O.C.calm O.C.hN (by rw [O.N]; exact ixOf_some e1) (by rw [O.N]; exact ixOf_some e2) kd (by rw [O.sc]; exact h) (d_cons (put_ok O a) (d_cons (put_ok O b) d_nil (star_cons (noStar_cons (noStar_cons hs).2).1)) (star_cons (noStar_cons hs).1))
      · exact noS
    · exact noS
  · rename_i x px y py z pz a b d k2 pt2
    split
    · rename_i h
      split
      · rename_i i j l e1 e2 e3
        have hs : noStar [a, b, d] = true := by
          have h := h
          unfold parOk3 at h
          simp only [Bool.and_eq_true] at h
          exact h.1.1.2
        exact d_par3 (fes := runEs Φ (.cons (putE c gE hE x a) (.cons (putE c gE hE y b) (.cons (putE c gE hE z d) .nil)))) O.C.calm O.C.hN (by rw [O.N]; exact ixOf_some e1) (by rw [O.N]; exact ixOf_some e2) (by rw [O.N]; exact ixOf_some e3) kd (by rw [O.sc]; exact h)
          (d_cons (put_ok O a) (d_cons (put_ok O b) (d_cons (put_ok O d) d_nil (star_cons (noStar_cons (noStar_cons (noStar_cons hs).2).2).1)) (star_cons (noStar_cons (noStar_cons hs).2).1)) (star_cons (noStar_cons hs).1))
      · exact noS
    · exact noS
  · exact noS
theorem asgE_ok (O : Okk X c T k Wx Φ) {t v : Expr} {pos : Pos} : PS X (.Assign [t] v pos) (tS T Wx (runS Φ n (asgE c t v))) := by
  have R := gE_ok O
  unfold asgE
  split
  · split
    · rename_i x py i hi
      split
      · refine asg_lc O hi ?_
        split
        · exact .inl rfl
        · exact .inr rfl
      · split
        · exact noS
        · rename_i hc
          exact asg_name O hi (put_ok O _) (swaps_no (by simpa using hc))
    · exact noS
  · split
    · exact par_ok2 O
    split
    · exact noS
    · rename_i es j p hh1 hh2
      have hh : isTup v = false ∧ isComp v = false := ⟨by simpa using hh1, by simpa using hh2⟩
      split
      · rename_i is hi
        refine d_asg (t := .t is) (R.e v) (tg_ok O (by show (tgNs c es).map Tg.t = _; rw [hi]; rfl)) (show swapsWith v (some (.Tuple es j p)) pos.line X.env = pure false from swaps_no hh.2) ?_ rfl
        have := hh.1
        cases v <;> first | rfl | cases this
      · exact noS
  · split
    · rename_i i hi
      rename_i o f p _
      have hx := O.fl _ _ (ixOf_some hi)
      subst hx
      exact d_setF O.C.hK O.ok O.Sd.has (R.e o) (fld_ok O v) (swaps_tg rfl)
    · exact noS
  · split
    · exact noS
    · rename_i o i p hh
      split
      · exact d_setD O.C (R.e o) (R.e i) (R.e v) (swaps_tg rfl)
      refine d_setI (R.e o) (R.e i) (R.e v) ?_ (show swapsWith v (some (.Subscript o i p)) pos.line X.env = pure false from swaps_tg rfl) rfl rfl
      intro u
      cases i <;> first | rfl | exact absurd rfl hh
  · exact noS
theorem block_ok {f : Stmt → S} (hf : ∀ st, PS X st (tS T Wx (runS Φ n (f st)))) : ∀ b : List Stmt, PSs X b (tS T Wx (runB Φ n (blockE f b)))
  | [] => d_nilS
  | st :: r => d_consS (hf st) (block_ok hf r)
theorem compS0_ok (O : Okk X c T k Wx Φ) (hp : PassesOwn (model X.prog X.w) X.A X.env X.xe) {B : List Stmt → List S} (hB : ∀ b, PSs X b (tS T Wx (runB Φ n (B b)))) (st : Stmt) : PS X st (tS T Wx (runS Φ n (compS0 B c st))) := by
  have R := gE_ok O
  unfold compS0
  split
  · exact d_doc
  · split
    · exact noS
    · rename_i hc; exact d_ex (R.e _) (swaps_no (by simpa using hc))
  · exact d_retN
  · exact d_ret (ret_ok O _)
  · exact d_if (R.ntT _) (hB _) (hB _)
  · exact d_while hp (R.ntT _) (hB _)
  · split
    · exact noS
    · rename_i hs
      split
      · rename_i t et
        exact d_for hp O.C.calm (iter_ok O R) (tg_ok O et) (hB _) (folded_ok (by simpa using hs))
      · exact noS
  · exact asgE_ok O
  · exact d_pass
  · exact d_brk
  · exact d_ct
  · exact noS
theorem compS_ok (O : Okk X c T k Wx Φ) (hp : PassesOwn (model X.prog X.w) X.A X.env X.xe) : ∀ (m : Nat) (st : Stmt), PS X st (tS T Wx (runS Φ n (compS c m st)))
  | 0, _ => noS
  | m + 1, st => compS0_ok O hp (block_ok (compS_ok O hp m)) st
theorem compB_ok (O : Okk X c T k Wx Φ) (hp : PassesOwn (model X.prog X.w) X.A X.env X.xe) (b : List Stmt) : PSs X b (tS T Wx (runB Φ n (compB c b))) := block_ok (compS_ok O hp 9) b
end
end DM

set_option maxRecDepth 100000
/-! DM14: defs, classes, the law. -/
namespace DM
open PySem PySem.Spec PyProof.Rows L2
/-- the names of a program, by number; each class's fields -/
structure Nms where
  fns : List Str
  cls : List Str
  mns : List Str
  fls : List Str
  blt : List Str
  gl : List (Str × PyData)
  hs : List (List Nat)
def ccOf (M : Nms) (st : Stmt) (N mu lsts dcts : List Str) (retF : Bool) : CC := ⟨N, defScope st, fun _ => true, M.fns, M.cls, M.mns, M.fls, M.blt, M.gl, mu, lsts, dcts, retF⟩
def gtS (l : List Str) (i : Nat) : Str := (l[i]?).getD Str.empty
def tabOf (P : Program) (w : World) (K : PySem.W.Frag) (M : Nms) (as : List (Nat × Addr)) : Tab := ⟨P, w, K, gtS M.fls, M.fls.length, gtS M.mns, gtS M.fns, gtS M.cls, fun c => as.lookup c, fun c f => decide (f < M.fls.length) && ((M.hs[c]?).getD []).contains f⟩
def phi0 (M : Nms) : Phi := ⟨fun _ => none, fun _ _ => none, fun _ => none, fun _ _ => none, fun c f => decide (f < M.fls.length) && ((M.hs[c]?).getD []).contains f⟩
def Phi.setFn (Φ : Phi) (i : Nat) (φ : Fs) : Phi := { Φ with fn := fun j => if j = i then some φ else Φ.fn j }
def Phi.setMt (Φ : Phi) (c m : Nat) (φ : Fs) : Phi := { Φ with mt := fun j i => if j = c ∧ i = m then some φ else Φ.mt j i }
def Phi.setCm (Φ : Phi) (c m : Nat) (φ : Fs) : Phi := { Φ with cm := fun j i => if j = c ∧ i = m then some φ else Φ.cm j i }
def Phi.setCl (Φ : Phi) (c : Nat) (φ : Ms) : Phi := { Φ with cl := fun j => if j = c then some φ else Φ.cl j }
theorem gtS_at {l : List Str} {i : Nat} {x : Str} (h : l[i]? = some x) : gtS l i = x := by unfold gtS; rw [h]; rfl
/-- what the head says of the classes -/
def ClsAll (K : PySem.W.Frag) (M : Nms) (as : List (Nat × Addr)) : Prop := ∀ p ∈ as, Cls K p.2 ∧ ∀ f ∈ (M.hs[p.1]?).getD [], NoAttr K p.2 (gtS M.fls f)
theorem lookup_mem {β γ : Type} [BEq β] [LawfulBEq β] {c : β} {C : γ} : ∀ {as : List (β × γ)}, as.lookup c = some C → (c, C) ∈ as
  | [], h => by cases h
  | (d, D) :: r, h => by
    rw [List.lookup_cons] at h
    cases e : c == d with
    | true => rw [e] at h; cases h; have := eq_of_beq e; subst this; exact List.mem_cons_self
    | false => rw [e] at h; exact List.mem_cons_of_mem _ (lookup_mem h)
theorem tab_ok {P : Program} {w : World} {K : PySem.W.Frag} {M : Nms} {as : List (Nat × Addr)} (nd : M.fls.Nodup) (nm : ∀ x ∈ M.fls, x ≠ Str.empty ∧ ∀ y ∈ M.mns, x ≠ y) (h : ClsAll K M as) : TabOk (tabOf P w K M as) := by
  have at_ : ∀ {i : Nat}, i < M.fls.length → M.fls[i]? = some (gtS M.fls i) := fun {i} hi => by
    unfold gtS; rw [List.getElem?_eq_getElem hi]; rfl
  refine ⟨fun i j hi hj e => ?_, fun c f h => ?_, fun c C f h1 h2 => ?_, fun c C f h1 h2 => (h _ (lookup_mem h1)).1, fun f m hf => ?_⟩
  · have e : gtS M.fls i = gtS M.fls j := e
    have hi : i < M.fls.length := hi
    have hj : j < M.fls.length := hj
    have a := at_ hi
    have b := at_ hj
    rw [List.getElem?_eq_getElem hi] at a
    rw [List.getElem?_eq_getElem hj] at b
    have := Option.some.inj a
    have b := Option.some.inj b
    exact (List.getElem_inj nd).mp (this.trans (e.trans b.symm))
  · have h : (decide (f < M.fls.length) && ((M.hs[c]?).getD []).contains f) = true := h
    rw [Bool.and_eq_true, decide_eq_true_eq] at h
    exact h.1
  · have h2 : (decide (f < M.fls.length) && ((M.hs[c]?).getD []).contains f) = true := h2
    rw [Bool.and_eq_true] at h2
    exact (h _ (lookup_mem h1)).2 f (by simpa using h2.2)
  · have hf : f < M.fls.length := hf
    have hm := List.mem_of_getElem? (at_ hf)
    show gtS M.fls f ≠ gtS M.mns m
    cases e : M.mns[m]? with
    | none => unfold gtS at *; rw [e]; exact (nm _ hm).1
    | some y => rw [gtS_at e]; exact (nm _ hm).2 y (List.mem_of_getElem? e)
section
variable {P : Program} {w : World} {K : PySem.W.Frag} {mg : Str → Option Value} {base : Heap} {M : Nms} {as : List (Nat × Addr)} {k : Nat} {Φ : Phi}
/-- what stands around every def -/
structure Amb (P : Program) (w : World) (K : PySem.W.Frag) (mg : Str → Option Value) (M : Nms) (as : List (Nat × Addr)) : Prop where
  ok : TabOk (tabOf P w K M as)
  blt : ∀ x, M.blt.contains x = true → mg x = none
  gl : ∀ x d, M.gl.lookup x = some d → ∃ u v, mg x = some u ∧ RelV v u ∧ ∀ G, Dp K G v d
abbrev SndA (P : Program) (w : World) (K : PySem.W.Frag) (mg : Str → Option Value) (base : Heap) (M : Nms) (as : List (Nat × Addr)) (k : Nat) (Φ : Phi) : Prop := Snd P w K mg base (tabOf P w K M as) k Φ
theorem blt_of {l : List Str} (h : ∀ x ∈ l, mg x = none) : ∀ x, l.contains x = true → mg x = none := fun x hx => h x (by simpa using hx)
theorem gl_of {l : List (Str × PyData)} (h : ∀ p ∈ l, ∃ u v, mg p.1 = some u ∧ RelV v u ∧ ∀ G, Dp K G v p.2) : ∀ x d, l.lookup x = some d → ∃ u v, mg x = some u ∧ RelV v u ∧ ∀ G, Dp K G v d := fun x d hx => h _ (lookup_mem hx)
theorem Snd.mono {T : Tab} {j : Nat} (S : Snd P w K mg base T j Φ) (h : j ≤ k) : Snd P w K mg base T k Φ := by
  refine ⟨fun i φ e => ?_, fun c m φ e => ?_, fun c n g e => ?_, fun c n g e => ?_, S.has, fun c n g e => ?_⟩
  · obtain ⟨f, fd, ps, h1, h2, h3, h4, h5⟩ := S.fn i φ e
    exact ⟨f, fd, ps, h1, h2, h3, h4, h5.mono h⟩
  · obtain ⟨C, f, fd, ps, h1, h2, h3, h4, h5, h6⟩ := S.mt c m φ e
    exact ⟨C, f, fd, ps, h1, h2, h3, h4, h5, h6.mono h⟩
  · obtain ⟨C, f, fd, ps, h1, h2, h3, h4, h5, h6⟩ := S.clp c n g e
    exact ⟨C, f, fd, ps, h1, h2, h3, h4, h5, h6.mono h⟩
  · obtain ⟨C, f, fd, ps, h1, h2, h3, h4, h5, h6⟩ := S.clm c n g e
    exact ⟨C, f, fd, ps, h1, h2, h3, h4, h5, h6.mono h⟩
  · obtain ⟨C, f, fd, ps, mc, h1, h2, h3, h4, h5, h6, h7⟩ := S.cm c n g e
    exact ⟨C, f, fd, ps, mc, h1, h2, h3, h4, h5, h6, h7.mono h⟩
theorem snd0 : SndA P w K mg base M as 0 (phi0 M) := ⟨fun _ _ e => (nomatch e), fun _ _ _ e => (nomatch e), fun _ _ _ e => (nomatch e), fun _ _ _ e => (nomatch e), fun _ _ e => e, fun _ _ _ e => (nomatch e)⟩
theorem Snd.setFn {T : Tab} {i : Nat} {φ : Fs} {f : Addr} {fd : FuncData} {ps : List Str} (S : Snd P w K mg base T k Φ) (h1 : mg (T.gn i) = some (.ref f)) (h2 : PySem.W.keepIn K (.ref f) = true) (h3 : Binds K fd ps []) (h4 : ps.length = (spF T φ).1) (h5 : FnOk P w K mg base (L2.CX P w) k f fd ps (spF T φ).2) : Snd P w K mg base T k (Φ.setFn i φ) := by
  refine ⟨fun j ψ e => ?_, S.mt, S.clp, S.clm, S.has, S.cm⟩
  have e : (if j = i then some φ else Φ.fn j) = some ψ := e
  by_cases hj : j = i
  · rw [if_pos hj] at e; cases e; subst hj
    exact ⟨f, fd, ps, h1, h2, h3, h4, h5⟩
  · rw [if_neg hj] at e; exact S.fn j ψ e
theorem Snd.setMt {T : Tab} {c m : Nat} {φ : Fs} {C f : Addr} {fd : FuncData} {ps : List Str} (S : Snd P w K mg base T k Φ) (h1 : T.cls c = some C) (hc : Cls K C) (h2 : Meth K C (T.mn m) f) (h3 : Binds K fd ps []) (h4 : ps.length = (spF T φ).1) (h5 : FnOk P w K mg base (L2.CX P w) k f fd ps (spF T φ).2) : Snd P w K mg base T k (Φ.setMt c m φ) := by
  refine ⟨S.fn, fun j i ψ e => ?_, S.clp, S.clm, S.has, S.cm⟩
  have e : (if j = c ∧ i = m then some φ else Φ.mt j i) = some ψ := e
  by_cases hj : j = c ∧ i = m
  · rw [if_pos hj] at e; cases e; obtain ⟨rfl, rfl⟩ := hj
    exact ⟨C, f, fd, ps, h1, hc, h2, h3, h4, h5⟩
  · rw [if_neg hj] at e; exact S.mt j i ψ e
theorem Snd.setCm {T : Tab} {c m : Nat} {φ : Fs} {C f : Addr} {fd : FuncData} {ps : List Str} {mc : Value} (S : Snd P w K mg base T k Φ) (h1 : mg (T.cn c) = some (.ref C)) (hr : ClX.CRead K C mc) (h2 : PySem.W.findCls K (.ref C) mc (T.mn m) = some (.val (.ref f))) (hk : PySem.W.keepIn K (.ref f) = true) (h3 : Binds K fd ps []) (h4 : ps.length = (spF T φ).1) (h5 : FnOk P w K mg base (L2.CX P w) k f fd ps (spF T φ).2) : Snd P w K mg base T k (Φ.setCm c m φ) := by
  refine ⟨S.fn, S.mt, S.clp, S.clm, S.has, fun j i ψ e => ?_⟩
  have e : (if j = c ∧ i = m then some φ else Φ.cm j i) = some ψ := e
  by_cases hj : j = c ∧ i = m
  · rw [if_pos hj] at e; cases e; obtain ⟨rfl, rfl⟩ := hj
    exact ⟨C, f, fd, ps, mc, h1, hr, h2, hk, h3, h4, h5⟩
  · rw [if_neg hj] at e; exact S.cm j i ψ e
theorem Snd.setClP {T : Tab} {c n : Nat} {g : List W → Option (Except Xc (List (Nat × PyData)))} {C f : Addr} {fd : FuncData} {ps : List Str} (S : Snd P w K mg base T k Φ) (h1 : T.cls c = some C) (h2 : mg (T.cn c) = some (.ref C)) (hm : Mk K C f) (h3 : Binds K fd ps []) (h4 : ps.length = n + 1) (h5 : FnOk P w K mg base (L2.CX P w) k f fd ps (spI T c n g)) : Snd P w K mg base T k (Φ.setCl c (.p n g)) := by
  refine ⟨S.fn, S.mt, fun j n' g' e => ?_, fun j n' g' e => ?_, S.has, S.cm⟩
  · have e : (if j = c then some (.p n g) else Φ.cl j) = some (.p n' g') := e
    by_cases hj : j = c
    · rw [if_pos hj] at e; cases e; subst hj
      exact ⟨C, f, fd, ps, h1, h2, hm, h3, h4, h5⟩
    · rw [if_neg hj] at e; exact S.clp j n' g' e
  · have e : (if j = c then some (.p n g) else Φ.cl j) = some (.m n' g') := e
    by_cases hj : j = c
    · rw [if_pos hj] at e; cases e
    · rw [if_neg hj] at e; exact S.clm j n' g' e
theorem Snd.setClM {T : Tab} {c n : Nat} {g : List W → List Cell → R Rv} {C f : Addr} {fd : FuncData} {ps : List Str} (S : Snd P w K mg base T k Φ) (h1 : T.cls c = some C) (h2 : mg (T.cn c) = some (.ref C)) (hm : Mk K C f) (h3 : Binds K fd ps []) (h4 : ps.length = n + 1) (h5 : FnOk P w K mg base (L2.CX P w) k f fd ps (spM T (n + 1) g)) : Snd P w K mg base T k (Φ.setCl c (.m n g)) := by
  refine ⟨S.fn, S.mt, fun j n' g' e => ?_, fun j n' g' e => ?_, S.has, S.cm⟩
  · have e : (if j = c then some (.m n g) else Φ.cl j) = some (.p n' g') := e
    by_cases hj : j = c
    · rw [if_pos hj] at e; cases e
    · rw [if_neg hj] at e; exact S.clp j n' g' e
  · have e : (if j = c then some (.m n g) else Φ.cl j) = some (.m n' g') := e
    by_cases hj : j = c
    · rw [if_pos hj] at e; cases e; subst hj
      exact ⟨C, f, fd, ps, h1, h2, hm, h3, h4, h5⟩
    · rw [if_neg hj] at e; exact S.clm j n' g' e
/-! ### a def's body -/
theorem body_ok {st : Stmt} {N mu lsts dcts : List Str} {retF : Bool} {b : List S} {qual : Str} {f : Addr} (A : Amb P w K mg M as) (Sd : SndA P w K mg base M as k Φ) (nd : N.Nodup) (kd : (defScope st).kind = .function) (hb : compB (ccOf M st N mu lsts dcts retF) (defBody st) = b)
    (n : Nat) (cdv : Value) (Ar : Around) (outer : List PySem.Env) (s : Shared) (H : Hp) (E : XK) (hr : Room (k + 1) (Ar.deeper (envOfC qual (defScope st) s.heap.objs.size f cdv))) :
    PSs (cxD P w K mg base N qual st f cdv Ar outer s H E) (defBody st) (tS (tabOf P w K M as) (WD E) (runB Φ n b)) := by
  rw [← hb]
  refine compB_ok (k := k) ⟨⟨rfl, rfl, rfl, rfl, hr, takes_of rfl rfl rfl rfl, nd⟩, A.ok, Sd, rfl, rfl, kd, rfl, fun i x e => gtS_at e, fun i x e => gtS_at e, fun i x e => gtS_at e, fun i x e => gtS_at e, A.blt, A.gl⟩ (passes_of rfl) _
theorem fn_P {x qual : Str} {st : Stmt} {f : Addr} {fd : FuncData} {N ps mu lsts dcts : List Str} {retF : Bool} {b : List S} {g : List W → Option Ro} (F : Fun K x qual st f fd) (S : FnScope N ps (defScope st)) (A : Amb P w K mg M as) (Sd : SndA P w K mg base M as k Φ) (hb : compB (ccOf M st N mu lsts dcts retF) (defBody st) = b)
    (spec : ∀ ws ro, ws.length = ps.length → g ws = some ro → ∃ n, endP (runB Φ n b (startE N.length ws) []) = some ro) : FnOk P w K mg base (L2.CX P w) (k + 2) f fd ps (spP (tabOf P w K M as) ps.length g) :=
  ok_P F S (run := fun n => runB Φ n b) (fun n cdv Ar outer s H E hr => body_ok A Sd S.nd S.kind hb n cdv Ar outer s H E hr) spec
theorem fn_M {x qual : Str} {st : Stmt} {f : Addr} {fd : FuncData} {N ps mu lsts dcts : List Str} {retF : Bool} {b : List S} {ext : Nat} {g : List W → List Cell → R Rv} (F : Fun K x qual st f fd) (S : FnScope N ps (defScope st)) (A : Amb P w K mg M as) (Sd : SndA P w K mg base M as k Φ) (hb : compB (ccOf M st N mu lsts dcts retF) (defBody st) = b)
    (spec : ∀ ws s, ws.length = ps.length → closedS s.length s = true → g ws s ≠ .no → ∃ n, endM (s.length + ext) (runB Φ n b (startE N.length ws) s) = g ws s) : FnOk P w K mg base (L2.CX P w) (k + 2) f fd ps (spM (tabOf P w K M as) ps.length g) :=
  ok_M F S (run := fun n => runB Φ n b) (fun n cdv Ar outer s H E hr => body_ok A Sd S.nd S.kind hb n cdv Ar outer s H E hr) spec
theorem fn_I {x qual : Str} {st : Stmt} {f : Addr} {fd : FuncData} {N ps mu lsts dcts : List Str} {retF : Bool} {b : List S} {c n : Nat} {g : List W → Option (Except Xc (List (Nat × PyData)))} (F : Fun K x qual st f fd) (S : FnScope N ps (defScope st)) (hps : ps.length = n + 1) (A : Amb P w K mg M as) (Sd : SndA P w K mg base M as k Φ) (hb : compB (ccOf M st N mu lsts dcts retF) (defBody st) = b)
    (spec : ∀ ws r, ws.length = n → g ws = some r → ∃ m, endI c (runB Φ m b (startE N.length (.h 0 :: ws)) [.ins c []]) = some r) : FnOk P w K mg base (L2.CX P w) (k + 2) f fd ps (spI (tabOf P w K M as) c n g) :=
  ok_I F S hps (run := fun n => runB Φ n b) (fun n cdv Ar outer s H E hr => body_ok A Sd S.nd S.kind hb n cdv Ar outer s H E hr) spec
/-! ### the law -/
def spLaw (K : PySem.W.Frag) : Sp := fun vs H Q _ => ∃ (a : Addr) (ns : List Int), vs = [.ref a] ∧ SqL K H a (ns.map V.int) ∧ ns.length ≤ 63 ∧ ∀ H', Q (.bl true) H'
theorem ints_dp {G : Hp} : ∀ ns : List Int, DpAll K G (ns.map V.int) (ns.map PyData.int)
  | [] => .nil
  | n :: ns => .cons (.int n) (ints_dp ns)
theorem law_P {f : Addr} {fd : FuncData} {x : Str} {g : List W → Option Ro} (F : FnOk P w K mg base (L2.CX P w) k f fd [x] (spP (tabOf P w K M as) 1 g))
    (h : ∀ ns : List Int, ns.length ≤ 63 → g [.d (.list (ns.map .int))] = some (.ret (.d (.bool true)))) : FnOk P w K mg base (L2.CX P w) k f fd [x] (spLaw K) :=
  F.imp fun vs H Q E ⟨a, ns, e, hS, hl, q⟩ => by
    subst e
    refine ⟨rfl, H, [.d (.list (ns.map .int))], Same.refl H, .cons (show Dp K H (.ref a) (.list (ns.map .int)) from .lst hS (ints_dp ns)) .nil, ?_⟩
    rw [h ns hl]
    intro v H' G' _ _ _ rv
    obtain rfl := (show Dp K G' v (.bool true) from rv).bl_inv
    exact q H'
theorem walkX {l : PySem.W.OpenLaw} {q : Program} {loose : List Str} {XP : (Str → Option Value) → Heap → Prop} {YP : World → Heap → Prop} {d : DefRec} {K : Params → PySem.W.Frag} {x : Str} (k : Nat)
    (hn : l.most = some 63) (hdf : d.params.defaults = []) (hr : Room k callerA)
    (hY : ∀ (w : World) (h : Heap), YP w h → (K w.params).In h)
    (F : ∀ (w : World) (mg : Str → Option Value) (fa : Addr) (h : Heap), (K w.params).In h → XP mg h → h.Ns mainGlobals mg → mg d.name = some (.ref fa) →
      ∃ fd : FuncData, (∀ (s : Shared) (u : Value), BindsTo s fd ⟨[u], []⟩ [(x, u)]) ∧
        ∀ base : Heap, (K w.params).In base → base.Ns mainGlobals mg → FnOk l.prog w (K w.params) mg base (L2.CX l.prog w) k fa fd [x] (spLaw (K w.params))) :
    PySem.W.WalkO q loose XP YP l.row.toRowW d [] (fun f vs => PySem.call f vs) := by
  refine Att.attach_call hn hdf fun w s₀ s₁ mg mb fa o pm cd doc a vs ns G Y ho hd hcd hmg hobj hints hlen hg => ?_
  have KX := hY w _ Y
  obtain ⟨fd, hb, hF⟩ := F w mg fa _ KX G.X G.T.g hmg
  refine law_call KX G.T.g G.T.b G.T.builtins G.T.nolimit hg hobj hints (Nat.le_trans hlen (by decide)) hr hF hb (fun H hO hS => ⟨a, ns, rfl, hS, hlen, fun _ => rfl⟩) fun H e s' h => ?_
  obtain ⟨a', B, H', cls, dd, _, _, _, _, _, _, _, h⟩ := h
  exact h
theorem loose_int {p : Program} {lv : List (Str × PySem.W.WData)} {h : Heap} {x : Str} {i : Int} (X : PySem.W.XL p lv mg h) (hm : (x, PySem.W.WData.int i) ∈ lv) : ∃ u v, mg x = some u ∧ RelV v u ∧ ∀ G, Dp K G v (.int i) := by
  obtain ⟨u, h1, h2⟩ := X.2.val _ hm
  cases h2
  exact ⟨_, .int i, h1, ⟨_, rfl⟩, fun G => .int i⟩
theorem con_int {x : Str} {i : Int} {t : Tok} (h : mg x = some (.int i t)) : ∃ u v, mg x = some u ∧ RelV v u ∧ ∀ G, Dp K G v (.int i) := ⟨_, .int i, h, ⟨_, rfl⟩, fun G => .int i⟩
end
end DM

set_option maxRecDepth 100000
/-! L1: what a def is worth, as its run; the dice. -/
namespace DM
open PySem
def gP (Φ : Phi) (n : Nat) (b : List S) (N : Nat) : List W → Option Ro := fun ws => endP (runB Φ n b (startE N ws) [])
def gM (Φ : Phi) (n : Nat) (b : List S) (N ext : Nat) : List W → List Cell → R Rv := fun ws s => endM (s.length + ext) (runB Φ n b (startE N ws) s)
def gI (c : Nat) (Φ : Phi) (n : Nat) (b : List S) (N : Nat) : List W → Option (Except Xc (List (Nat × PyData))) := fun ws => endI c (runB Φ n b (startE N (.h 0 :: ws)) [.ins c []])
/-! running by simp: what comes later is looked at later -/
@[simp ↓] theorem bind_m {β γ : Type} (r : R β) (k : β → List Cell → R γ) : r.bind k = (match r with | .ok a s => k a s | .ex x s => .ex x s | .no => .no) := by cases r <;> rfl
@[simp ↓] theorem st_m {β : Type} (r : R β) (ρ : Env) (k : β → List Cell → RS) : r.st ρ k = (match r with | .ok a s => k a s | .ex x s => .ok (.ex x, ρ) s | .no => .no) := by cases r <;> rfl
@[simp ↓] theorem sq_m (r : RS) (k : Env → List Cell → RS) : R.sq r k = (match r with | .ok (.nx, ρ) s => k ρ s | r => r) := by
  cases r with
  | ok q s => obtain ⟨o, ρ⟩ := q; cases o <;> rfl
  | _ => rfl
@[simp ↓] theorem lp_m (r : RS) (k : Env → List Cell → RS) : R.lp r k = (match r with | .ok (.nx, ρ) s => k ρ s | .ok (.ct, ρ) s => k ρ s | .ok (.brk, ρ) s => .ok (.nx, ρ) s | r => r) := by
  cases r with
  | ok q s => obtain ⟨o, ρ⟩ := q; cases o <;> rfl
  | _ => rfl
/-- a loop's turns -/
def forK (Φ : Phi) (n : Nat) (t : Tg) (b : List S) (items : List PyData) (ρ : Env) (s : List Cell) : RS := forL (fun ρ x => asgT ρ t (.d x)) (fun ρ s => runB Φ n b ρ s) items ρ s
@[simp] theorem forK_nil (Φ : Phi) (n : Nat) (t : Tg) (b : List S) (ρ : Env) (s : List Cell) : forK Φ n t b [] ρ s = .ok (.nx, ρ) s := Eq.trans rfl rfl
theorem forK_cons (Φ : Phi) (n : Nat) (t : Tg) (b : List S) (x : PyData) (xs : List PyData) (ρ : Env) (s : List Cell) : forK Φ n t b (x :: xs) ρ s = (match asgT ρ t (.d x) with | some ρ => R.lp (runB Φ n b ρ s) (forK Φ n t b xs) | none => .no) := Eq.trans rfl rfl
def whileK (Φ : Phi) (n : Nat) (c : E) (b : List S) (m : Nat) (ρ : Env) (s : List Cell) : RS := whileL (fun ρ s => (runE Φ c ρ s).bind tt) (fun ρ s => runB Φ n b ρ s) m ρ s
theorem whileK_succ (Φ : Phi) (n : Nat) (c : E) (b : List S) (m : Nat) (ρ : Env) (s : List Cell) : whileK Φ n c b (m + 1) ρ s = ((runE Φ c ρ s).bind tt).st ρ fun k s => if k then R.lp (runB Φ n b ρ s) (whileK Φ n c b m) else .ok (.nx, ρ) s := Eq.trans rfl rfl
/-- a comprehension's turns -/
def compK (Φ : Phi) (tg : Tg) (own : List Nat) (c : Oe) (e : E) (ρ : Env) (items : List PyData) (s : List Cell) : R (List PyData) := compL (fun x s => match asgT (wipeE ρ own) tg (.d x) with
    | some ρ' => (runC Φ c ρ' s).bind fun b s => if b then (runE Φ e ρ' s).bind fun w s => (frzR w s).bind fun y s => .ok (some y) s else .ok none s
    | none => .no) items s
@[simp] theorem compK_nil (Φ : Phi) (tg : Tg) (own : List Nat) (c : Oe) (e : E) (ρ : Env) (s : List Cell) : compK Φ tg own c e ρ [] s = .ok [] s := Eq.trans rfl rfl
def forS (Φ : Phi) (n : Nat) (t : Tg) (b : List S) (ρ : Env) (r : R (List PyData)) : RS := r.st ρ fun items s => forK Φ n t b items ρ s
@[simp] theorem forS_ok (Φ : Phi) (n : Nat) (t : Tg) (b : List S) (ρ : Env) (items : List PyData) (s : List Cell) : forS Φ n t b ρ (.ok items s) = forK Φ n t b items ρ s := Eq.trans rfl rfl
@[simp] theorem forS_ex (Φ : Phi) (n : Nat) (t : Tg) (b : List S) (ρ : Env) (x : Xc) (s : List Cell) : forS Φ n t b ρ (.ex x s) = .ok (.ex x, ρ) s := Eq.trans rfl rfl
def compT (Φ : Phi) (tg : Tg) (own : List Nat) (c : Oe) (e : E) (ρ : Env) (r : R (List PyData)) : R (List PyData) := r.bind fun items s => if items.length < sizeLine then compK Φ tg own c e ρ items s else .no
theorem compT_ok1 (Φ : Phi) (tg : Tg) (own : List Nat) (c : Oe) (e : E) (ρ : Env) (items : List PyData) (s : List Cell) (h : items.length < sizeLine) : compT Φ tg own c e ρ (.ok items s) = compK Φ tg own c e ρ items s := by
  show (if items.length < sizeLine then compK Φ tg own c e ρ items s else .no) = _
  rw [if_pos h]
section
variable (Φ : Phi) (ρ : Env) (s : List Cell)
@[simp] theorem rE_var (i : Nat) : runE Φ (.var i) ρ s = (match ρ[i]? with | some (some w) => .ok w s | _ => .no) := Eq.trans rfl rfl
@[simp] theorem rE_cst (x : PyData) : runE Φ (.cst x) ρ s = .ok (.d x) s := Eq.trans rfl rfl
@[simp] theorem rE_bin (op : BinK) (a b : E) : runE Φ (.bin op a b) ρ s = (runE Φ a ρ s).bind fun x s => (runE Φ b ρ s).bind fun y s => match see s x, see s y with | some x, some y => lift ((binD op x y).map .d) s | _, _ => .no := Eq.trans rfl rfl
@[simp] theorem rE_cmp (op : CmpK) (a b : E) : runE Φ (.cmp op a b) ρ s = (runE Φ a ρ s).bind fun x s => (runE Φ b ρ s).bind fun y s => match see s x, see s y with | some x, some y => lift ((cmpD op x y).map fun b => .d (.bool b)) s | _, _ => .no := Eq.trans rfl rfl
@[simp] theorem rE_chain (op op' : CmpK) (a b c : E) : runE Φ (.chain op op' a b c) ρ s = (runE Φ a ρ s).bind fun x s => (runE Φ b ρ s).bind fun y s => match see s x, see s y with
    | some x', some y' => match cmpD op x' y' with
      | some true => (runE Φ c ρ s).bind fun z s => match see s y, see s z with
        | some y, some z => lift ((cmpD op' y z).map fun b => .d (.bool b)) s
        | _, _ => .no
      | some false => .ok (.d (.bool false)) s
      | none => .no
    | _, _ => .no := Eq.trans rfl rfl
@[simp] theorem rE_and (a b : E) : runE Φ (.and a b) ρ s = (runE Φ a ρ s).bind fun x s => (tt x s).bind fun c s => if c then runE Φ b ρ s else .ok (.d (.bool false)) s := Eq.trans rfl rfl
@[simp] theorem rE_or (a b : E) : runE Φ (.or a b) ρ s = (runE Φ a ρ s).bind fun x s => (tt x s).bind fun c s => if c then .ok (.d (.bool true)) s else runE Φ b ρ s := Eq.trans rfl rfl
@[simp] theorem rE_not (a : E) : runE Φ (.not a) ρ s = (runE Φ a ρ s).bind fun x s => (tt x s).bind fun c s => .ok (.d (.bool (!c))) s := Eq.trans rfl rfl
@[simp] theorem rE_ite (c a b : E) : runE Φ (.ite c a b) ρ s = (runE Φ c ρ s).bind fun x s => (tt x s).bind fun c s => if c then runE Φ a ρ s else runE Φ b ρ s := Eq.trans rfl rfl
@[simp] theorem rE_tup (es : Es) : runE Φ (.tup es) ρ s = (runEs Φ es ρ s).bind fun ws s => (frzsR ws s).bind fun xs s => if xs.length ≤ sizeLine then .ok (.d (.tuple xs)) s else .no := Eq.trans rfl rfl
@[simp] theorem rE_idx (a i : E) : runE Φ (.idx a i) ρ s = (runE Φ a ρ s).bind fun x s => (runE Φ i ρ s).bind fun y s => (ii y s).bind fun j s => match see s x with
    | some (.list l) => lift ((atD l j).map .d) s
    | some (.tuple l) => lift ((atD l j).map .d) s
    | _ => .no := Eq.trans rfl rfl
@[simp] theorem rE_slc (a : E) (lo hi : Oe) : runE Φ (.slc a lo hi) ρ s = (runE Φ a ρ s).bind fun x s => (runO Φ lo ρ s).bind fun l s => (runO Φ hi ρ s).bind fun h s => match see s x with
    | some (.tuple xs) => .ok (.d (.tuple (cut xs l h))) s
    | some (.list xs) => .ok (.d (.list (cut xs l h))) s
    | _ => .no := Eq.trans rfl rfl
@[simp] theorem rE_neg (a : E) : runE Φ (.neg a) ρ s = (runE Φ a ρ s).bind fun x s => (ii x s).bind fun i s => .ok (.d (.int (-i))) s := Eq.trans rfl rfl
@[simp] theorem rE_fld (a : E) (f : Nat) : runE Φ (.fld a f) ρ s = (runE Φ a ρ s).bind fun x s => lift (fldW s f x) s := Eq.trans rfl rfl
@[simp] theorem rE_call (f : Nat) (es : Es) : runE Φ (.call f es) ρ s = (match Φ.fn f with | some φ => (runEs Φ es ρ s).bind fun ws s => callF φ ws s | none => .no) := Eq.trans rfl rfl
@[simp] theorem rE_meth (o : E) (m : Nat) (es : Es) : runE Φ (.meth o m es) ρ s = (runE Φ o ρ s).bind fun w s => match clsOf s w with
    | some c => match Φ.mt c m with
      | some φ => (runEs Φ es ρ s).bind fun ws s => callF φ (w :: ws) s
      | none => .no
    | none => .no := Eq.trans rfl rfl
@[simp] theorem rE_mk (c : Nat) (es : Es) : runE Φ (.mk c es) ρ s = (match Φ.cl c with | some φ => (runEs Φ es ρ s).bind fun ws s => mkF φ c ws s | none => .no) := Eq.trans rfl rfl
@[simp] theorem rE_bi (b : BiK) (es : Es) : runE Φ (.bi b es) ρ s = (runEs Φ es ρ s).bind fun ws s => match seeAll s ws with | some xs => lift ((biD b xs).map .d) s | none => .no := Eq.trans rfl rfl
@[simp] theorem rE_tupOf (e : E) : runE Φ (.tupOf e) ρ s = (runE Φ e ρ s).bind fun w s => match see s w with
    | some (.list l) => .ok (.d (.tuple l)) s
    | some (.tuple l) => .ok (.d (.tuple l)) s
    | _ => .no := Eq.trans rfl rfl
@[simp] theorem rE_isi (t : TyK) (e : E) : runE Φ (.isi t e) ρ s = (runE Φ e ρ s).bind fun w s => match see s w with | some x => .ok (.d (.bool (isiD t x))) s | none => .no := Eq.trans rfl rfl
@[simp] theorem rE_app (o e : E) : runE Φ (.app o e) ρ s = (runE Φ o ρ s).bind fun w s => if isL w s then (runE Φ e ρ s).bind fun v s => (frzR v s).bind fun x s => appW w x s else .no := Eq.trans rfl rfl
@[simp] theorem rE_pop (o : E) : runE Φ (.pop o) ρ s = (runE Φ o ρ s).bind fun w s => popW w s := Eq.trans rfl rfl
@[simp] theorem rE_clr (o : E) : runE Φ (.clr o) ρ s = (runE Φ o ρ s).bind fun w s => clrW w s := Eq.trans rfl rfl
@[simp] theorem rE_dnew (nd : Bool) : runE Φ (.dnew nd) ρ s = .ok (.h s.length) (s ++ [.dct nd []]) := Eq.trans rfl rfl
@[simp] theorem rE_din (neg : Bool) (a b : E) : runE Φ (.din neg a b) ρ s = (runE Φ a ρ s).bind fun x s => (runE Φ b ρ s).bind fun y s => match getDW y x s with
    | some r => .ok (.d (.bool (if neg then !r.isSome else r.isSome))) s
    | none => .no := Eq.trans rfl rfl
@[simp] theorem rE_dget (a k : E) : runE Φ (.dget a k) ρ s = (runE Φ a ρ s).bind fun x s => (runE Φ k ρ s).bind fun y s => match getDW x y s with
    | some (some r) => .ok (.d r) s
    | _ => .no := Eq.trans rfl rfl
@[simp] theorem rE_dgetD (a k z : E) : runE Φ (.dgetD a k z) ρ s = (runE Φ a ρ s).bind fun x s => if (dctOf s x).isSome then (runE Φ k ρ s).bind fun y s => (runE Φ z ρ s).bind fun v s => match getDW x y s with
    | some (some r) => .ok (.d r) s
    | some none => .ok v s
    | none => .no
    else .no := Eq.trans rfl rfl
@[simp] theorem rE_cls (c m : Nat) (es : Es) : runE Φ (.cls c m es) ρ s = (match Φ.cm c m with | some φ => (runEs Φ es ρ s).bind fun ws s => callF φ ws s | none => .no) := Eq.trans rfl rfl
@[simp] theorem rE_thc (f : Nat) (es : Es) : runE Φ (.thc f es) ρ s = (match Φ.fn f with | some φ => (runEs Φ es ρ s).bind fun ws s => callT φ ws s | none => .no) := Eq.trans rfl rfl
@[simp] theorem rE_thm (o : E) (m : Nat) (es : Es) : runE Φ (.thm o m es) ρ s = (runE Φ o ρ s).bind fun w s => match clsOf s w with
    | some c => match Φ.mt c m with
      | some φ => (runEs Φ es ρ s).bind fun ws s => callT φ (w :: ws) s
      | none => .no
    | none => .no := Eq.trans rfl rfl
@[simp] theorem rF_lrng (a : E) : runF Φ (.lrng a) ρ s = (runE Φ a ρ s).bind fun x s => (ii x s).bind fun j s => if decide (j ≤ 16777216) && decide (-4611686018427387904 ≤ j) then .ok (upTo 0 j.toNat) s else .no := Eq.trans rfl rfl
@[simp] theorem rE_fr (f : F) : runE Φ (.fr f) ρ s = (runF Φ f ρ s).bind fun l s => .ok (.d (.list l)) s := Eq.trans rfl rfl
@[simp] theorem rE_th (f : F) : runE Φ (.th f) ρ s = (runF Φ f ρ s).bind fun l s => .ok (.h s.length) (s ++ [.lst l]) := Eq.trans rfl rfl
@[simp] theorem rE_no : runE Φ .no ρ s = .no := Eq.trans rfl rfl
@[simp] theorem rF_lst (es : Es) : runF Φ (.lst es) ρ s = (runEs Φ es ρ s).bind fun ws s => (frzsR ws s).bind fun xs s => if xs.length ≤ sizeLine then .ok xs s else .no := Eq.trans rfl rfl
@[simp] theorem rF_comp (it : It) (tg : Tg) (own : List Nat) (c : Oe) (e : E) : runF Φ (.comp it tg own c e) ρ s = compT Φ tg own c e ρ (runI Φ it ρ s) := Eq.trans rfl rfl
@[simp] theorem rF_call (f : Nat) (es : Es) : runF Φ (.call f es) ρ s = (match Φ.fn f with | some φ => (runEs Φ es ρ s).bind fun ws s => callL φ ws s | none => .no) := Eq.trans rfl rfl
@[simp] theorem rF_meth (o : E) (m : Nat) (es : Es) : runF Φ (.meth o m es) ρ s = (runE Φ o ρ s).bind fun w s => match clsOf s w with
    | some c => match Φ.mt c m with
      | some φ => (runEs Φ es ρ s).bind fun ws s => callL φ (w :: ws) s
      | none => .no
    | none => .no := Eq.trans rfl rfl
@[simp] theorem rF_list (e : E) : runF Φ (.list e) ρ s = (runE Φ e ρ s).bind fun w s => match see s w with | some x => lift (seqOf x) s | none => .no := Eq.trans rfl rfl
@[simp] theorem rF_sll (a : E) (lo hi : Oe) : runF Φ (.sll a lo hi) ρ s = (runE Φ a ρ s).bind fun x s => (runO Φ lo ρ s).bind fun l s => (runO Φ hi ρ s).bind fun h s => match see s x with
    | some (.list xs) => .ok (cut xs l h) s
    | _ => .no := Eq.trans rfl rfl
@[simp] theorem rF_add (a b : E) : runF Φ (.add a b) ρ s = (runE Φ a ρ s).bind fun x s => (runE Φ b ρ s).bind fun y s => match see s x, see s y with
    | some (.list xs), some (.list ys) => if xs.length + ys.length ≤ sizeLine then .ok (xs ++ ys) s else .no
    | _, _ => .no := Eq.trans rfl rfl
@[simp] theorem rF_mul (a : F) (b : E) : runF Φ (.mul a b) ρ s = (runF Φ a ρ s).bind fun xs s => (runE Φ b ρ s).bind fun y s => (ii y s).bind fun k s =>
    if decide (-(2 ^ 63) ≤ k) && decide (k < 2 ^ 63) && decide (xs.length * k.toNat ≤ sizeLine) then .ok (List.replicate k.toNat xs).flatten s else .no := Eq.trans rfl rfl
@[simp] theorem rEs_nil : runEs Φ .nil ρ s = .ok [] s := Eq.trans rfl rfl
@[simp] theorem rEs_cons (e : E) (es : Es) : runEs Φ (.cons e es) ρ s = (runE Φ e ρ s).bind fun w s => (runEs Φ es ρ s).bind fun ws s => .ok (w :: ws) s := Eq.trans rfl rfl
@[simp] theorem rO_none : runO Φ .none ρ s = .ok none s := Eq.trans rfl rfl
@[simp] theorem rO_some (e : E) : runO Φ (.some e) ρ s = (runE Φ e ρ s).bind fun w s => (ii w s).bind fun i s => .ok (some i) s := Eq.trans rfl rfl
@[simp] theorem rC_none : runC Φ .none ρ s = .ok true s := Eq.trans rfl rfl
@[simp] theorem rC_some (e : E) : runC Φ (.some e) ρ s = (runE Φ e ρ s).bind fun w s => tt w s := Eq.trans rfl rfl
@[simp] theorem rI_seq (e : E) : runI Φ (.seq e) ρ s = (runE Φ e ρ s).bind fun w s => (frzR w s).bind fun x s => lift (seqOf x) s := Eq.trans rfl rfl
@[simp] theorem rI_rng1 (a : E) : runI Φ (.rng1 a) ρ s = (runE Φ a ρ s).bind fun x s => (ii x s).bind fun j s => if smallI j then .ok (upTo 0 j.toNat) s else .no := Eq.trans rfl rfl
@[simp] theorem rI_rng2 (a b : E) : runI Φ (.rng2 a b) ρ s = (runE Φ a ρ s).bind fun x s => (runE Φ b ρ s).bind fun y s => (ii x s).bind fun i s => (ii y s).bind fun j s => if smallI i && smallI j then .ok (upTo i (j - i).toNat) s else .no := Eq.trans rfl rfl
variable (n : Nat)
@[simp] theorem rS_asg (t : Tg) (e : E) : runS Φ n (.asg t e) ρ s = (runE Φ e ρ s).st ρ fun w s => match asgT ρ t w with | some ρ => .ok (.nx, ρ) s | none => .no := Eq.trans rfl rfl
@[simp] theorem rS_par (is : List Nat) (es : Es) : runS Φ n (.par is es) ρ s = (runEs Φ es ρ s).st ρ fun ws s => match setWs ρ is ws with | some ρ => .ok (.nx, ρ) s | none => .no := Eq.trans rfl rfl
@[simp] theorem rS_setF (o : E) (f : Nat) (e : E) : runS Φ n (.setF o f e) ρ s = ((runE Φ e ρ s).bind fun v s => (runE Φ o ρ s).bind fun w s => setFW Φ w f v s).st ρ fun _ s => .ok (.nx, ρ) s := Eq.trans rfl rfl
@[simp] theorem rS_setI (o i e : E) : runS Φ n (.setI o i e) ρ s = ((runE Φ e ρ s).bind fun v s => (runE Φ o ρ s).bind fun w s => (runE Φ i ρ s).bind fun k s => (ii k s).bind fun k s => (frzR v s).bind fun x s => setIW w k x s).st ρ fun _ s => .ok (.nx, ρ) s := Eq.trans rfl rfl
@[simp] theorem rS_setD (o k e : E) : runS Φ n (.setD o k e) ρ s = ((runE Φ e ρ s).bind fun v s => (runE Φ o ρ s).bind fun w s => (runE Φ k ρ s).bind fun y s => (frzR v s).bind fun x s => (frzR y s).bind fun key s => putDW w key x s).st ρ fun _ s => .ok (.nx, ρ) s := Eq.trans rfl rfl
@[simp] theorem rS_ex (e : E) : runS Φ n (.ex e) ρ s = (runE Φ e ρ s).st ρ fun _ s => .ok (.nx, ρ) s := Eq.trans rfl rfl
@[simp] theorem rS_ret (e : E) : runS Φ n (.ret e) ρ s = (runE Φ e ρ s).st ρ fun w s => .ok (.ret w, ρ) s := Eq.trans rfl rfl
@[simp] theorem rS_retN : runS Φ n .retN ρ s = .ok (.ret (.d .none), ρ) s := Eq.trans rfl rfl
@[simp] theorem rS_ite (c : E) (a b : List S) : runS Φ n (.ite c a b) ρ s = ((runE Φ c ρ s).bind tt).st ρ fun k s => if k then runB Φ n a ρ s else runB Φ n b ρ s := Eq.trans rfl rfl
@[simp] theorem rS_while (c : E) (b : List S) : runS Φ n (.while c b) ρ s = whileK Φ n c b n ρ s := Eq.trans rfl rfl
@[simp] theorem rS_for (t : Tg) (it : It) (b : List S) : runS Φ n (.for t it b) ρ s = forS Φ n t b ρ (runI Φ it ρ s) := Eq.trans rfl rfl
@[simp] theorem rS_pass : runS Φ n .pass ρ s = .ok (.nx, ρ) s := Eq.trans rfl rfl
@[simp] theorem rS_brk : runS Φ n .brk ρ s = .ok (.brk, ρ) s := Eq.trans rfl rfl
@[simp] theorem rS_ct : runS Φ n .ct ρ s = .ok (.ct, ρ) s := Eq.trans rfl rfl
@[simp] theorem rS_no : runS Φ n .no ρ s = .no := Eq.trans rfl rfl
@[simp] theorem rB_nil : runB Φ n [] ρ s = .ok (.nx, ρ) s := Eq.trans rfl rfl
@[simp] theorem rB_cons (c : S) (cs : List S) : runB Φ n (c :: cs) ρ s = R.sq (runS Φ n c ρ s) (runB Φ n cs) := Eq.trans rfl rfl
end
@[simp] theorem see_d (s : List Cell) (x : PyData) : see s (.d x) = some x := rfl
@[simp] theorem frz_d (s : List Cell) (x : PyData) : frz s (.d x) = some (x, s) := rfl
@[simp] theorem b_add (i j : Int) : binD .add (.int i) (.int j) = some (.int (i + j)) := rfl
@[simp] theorem b_sub (i j : Int) : binD .sub (.int i) (.int j) = some (.int (i - j)) := rfl
theorem b_mul {i j : Int} (h : mulOk i j = true) : binD .mul (.int i) (.int j) = some (.int (i * j)) := by show (if mulOk i j = true then _ else _) = _; rw [if_pos h]
theorem b_div {i j : Int} (h : divOk j = true) : binD .fdiv (.int i) (.int j) = some (.int (i / j)) := by show (if divOk j = true then _ else _) = _; rw [if_pos h]
theorem b_mod {i j : Int} (h : 0 < j) : binD .mod (.int i) (.int j) = some (.int (i % j)) := by show (if decide (0 < j) = true then _ else _) = _; rw [if_pos (by simpa using h)]
@[simp] theorem c_lt (i j : Int) : cmpD .lt (.int i) (.int j) = some (decide (i < j)) := rfl
@[simp] theorem c_le (i j : Int) : cmpD .le (.int i) (.int j) = some (decide (i ≤ j)) := rfl
@[simp] theorem c_gt (i j : Int) : cmpD .gt (.int i) (.int j) = some (decide (j < i)) := rfl
@[simp] theorem c_ge (i j : Int) : cmpD .ge (.int i) (.int j) = some (decide (j ≤ i)) := rfl
@[simp] theorem c_eq (i j : Int) : cmpD .eq (.int i) (.int j) = some (decide (i = j)) := rfl
@[simp] theorem c_ne (i j : Int) : cmpD .ne (.int i) (.int j) = some (!decide (i = j)) := rfl
@[simp] theorem bi_lenL (l : List PyData) : biD .len [.list l] = some (.int l.length) := rfl
@[simp] theorem bi_lenT (l : List PyData) : biD .len [.tuple l] = some (.int l.length) := rfl
@[simp] theorem tt_b (b : Bool) (s : List Cell) : tt (.d (.bool b)) s = .ok b s := rfl
@[simp] theorem ii_i (i : Int) (s : List Cell) : ii (.d (.int i)) s = .ok i s := rfl
@[simp] theorem lift_s {β : Type} (a : β) (s : List Cell) : lift (some a) s = .ok a s := rfl
@[simp] theorem seqOf_l (l : List PyData) : seqOf (.list l) = some l := rfl
@[simp] theorem seqOf_t (l : List PyData) : seqOf (.tuple l) = some l := rfl
theorem mulR (i : Int) {j : Int} (h : -(2 ^ 64) < j ∧ j < 2 ^ 64) : mulOk i j = true := by unfold mulOk; simp only [Bool.or_eq_true, Bool.and_eq_true, decide_eq_true_eq]; exact .inr h
/-! the dice: a cell -/
def dcell (sc : List Int) (at_ mx lf : Int) : Cell := .lst [.list (sc.map .int), .int at_, .int mx, .int lf]
def OkDice (c : Cell) : Prop := ∃ sc at_ mx lf, c = dcell sc at_ mx lf ∧ 0 ≤ at_ ∧ sc.length ≤ 63
theorem closed_set {s : List Cell} {i k : Nat} {l : List PyData} (h : closedS k s = true) : closedS k (s.set i (.lst l)) = true := by
  unfold closedS at h ⊢
  rw [List.all_eq_true] at h ⊢
  intro c hc
  rcases List.mem_or_eq_of_mem_set hc with hm | rfl
  · exact h c hm
  · rfl
theorem atD_nat {l : List PyData} {j : Int} {x : PyData} (h0 : 0 ≤ j) (h : l[j.toNat]? = some x) : atD l j = some x := by
  have hl := (List.getElem?_eq_some_iff.mp h).1
  unfold atD ixD
  rw [if_pos h0, if_pos (by omega)]
  exact h
theorem at4_0 (a b c d : PyData) : atD [a, b, c, d] 0 = some a := rfl
theorem at4_1 (a b c d : PyData) : atD [a, b, c, d] 1 = some b := rfl
theorem at4_2 (a b c d : PyData) : atD [a, b, c, d] 2 = some c := rfl
theorem at4_3 (a b c d : PyData) : atD [a, b, c, d] 3 = some d := rfl
theorem divOk7 : divOk 7 = true := rfl
def B_next : List S := [(.ite (.cmp .gt (.idx (.var 0) (.cst (.int 3))) (.cst (.int 0))) [(.asg (.n 2) (.bin .mod (.idx (.var 0) (.cst (.int 3))) (.var 1))), (.setI (.var 0) (.cst (.int 3)) (.bin .fdiv (.idx (.var 0) (.cst (.int 3))) (.var 1))), (.ret (.var 2))] []), (.setI (.var 0) (.cst (.int 1)) (.bin .add (.idx (.var 0) (.cst (.int 1))) (.cst (.int 1)))), (.ite (.cmp .le (.idx (.var 0) (.cst (.int 1))) (.bi .len (.cons (.idx (.var 0) (.cst (.int 0))) .nil))) [(.asg (.n 3) (.idx (.idx (.var 0) (.cst (.int 0))) (.bin .sub (.idx (.var 0) (.cst (.int 1))) (.cst (.int 1))))), (.setI (.var 0) (.cst (.int 3)) (.ite (.cmp .ge (.var 3) (.bin .pow (.cst (.int 10)) (.cst (.int 18)))) (.bin .fdiv (.var 3) (.var 1)) (.cst (.int 0)))), (.ret (.bin .mod (.var 3) (.var 1)))] []), (.setI (.var 0) (.cst (.int 2)) (.bin .mod (.bin .mul (.idx (.var 0) (.cst (.int 2))) (.cst (.int 48271))) (.cst (.int 2147483647)))), (.ret (.bin .mod (.bin .fdiv (.idx (.var 0) (.cst (.int 2))) (.cst (.int 7))) (.var 1)))]
theorem see_h {s : List Cell} {i : Nat} {l : List PyData} (h : s[i]? = some (.lst l)) : see s (.h i) = some (.list l) := by simp only [see, h]
theorem pow18 : binD .pow (.int 10) (.int 18) = some (.int 1000000000000000000) := by rfl
theorem next_run (Φ : Phi) (n : Nat) {s : List Cell} {i : Nat} {c : Cell} {m : Int} (hd : OkDice c) (h : s[i]? = some c) (hs : closedS s.length s = true) (h0 : 0 < m) (h1 : m < 9223372036854775808) :
    ∃ r c', 0 ≤ r ∧ r < m ∧ OkDice c' ∧ gM Φ n B_next 4 0 [.h i, .d (.int m)] s = .ok (.w (.d (.int r))) (s.set i c') := by
  obtain ⟨sc, a, mx, lf, rfl, ha, hl⟩ := hd
  have hi : i < s.length := (List.getElem?_eq_some_iff.mp h).1
  have gs : ∀ c' : Cell, (s.set i c')[i]? = some c' := fun c' => List.getElem?_set_self hi
  have hdiv : divOk m = true := by unfold divOk; simp; omega
  have hs' : ∀ c', closedS s.length (s.set i (.lst c')) = true := fun c' => closed_set hs
  unfold dcell at h
  by_cases hlf : 0 < lf
  · refine ⟨lf % m, dcell sc a mx (lf / m), Int.emod_nonneg _ (by omega), Int.emod_lt_of_pos _ h0, ⟨sc, a, mx, _, rfl, ha, hl⟩, ?_⟩
    simp [gM, B_next, startE, see, h, at4_3, hlf, b_mod h0, b_div hdiv, frzR, setIW, ixD, endM, finM, hs', dcell, asgT, List.take_of_length_le]
  · by_cases hb : a + 1 ≤ (sc.length : Int)
    · have hx : a.toNat < sc.length := by omega
      have hat : atD (sc.map PyData.int) a = some (.int sc[a.toNat]) := by
        refine atD_nat ha ?_
        rw [List.getElem?_map, List.getElem?_eq_getElem hx]
        rfl
      refine ⟨sc[a.toNat] % m, dcell sc (a + 1) mx (if 1000000000000000000 ≤ sc[a.toNat] then sc[a.toNat] / m else 0), Int.emod_nonneg _ (by omega), Int.emod_lt_of_pos _ h0, ⟨sc, a + 1, mx, _, rfl, by omega, hl⟩, ?_⟩
      by_cases hge : 1000000000000000000 ≤ sc[a.toNat]
      · simp [gM, B_next, startE, see, seeAll, h, at4_0, at4_1, at4_3, hlf, hb, hat, hge, pow18, gs, b_mod h0, b_div hdiv, frzR, setIW, ixD, endM, finM, hs', dcell, asgT, List.take_of_length_le]
      · simp [gM, B_next, startE, see, seeAll, h, at4_0, at4_1, at4_3, hlf, hb, hat, hge, pow18, gs, b_mod h0, b_div hdiv, frzR, setIW, ixD, endM, finM, hs', dcell, asgT, List.take_of_length_le]
    · refine ⟨mx * 48271 % 2147483647 / 7 % m, dcell sc (a + 1) (mx * 48271 % 2147483647) lf, Int.emod_nonneg _ (by omega), Int.emod_lt_of_pos _ h0, ⟨sc, a + 1, _, lf, rfl, by omega, hl⟩, ?_⟩
      simp [gM, B_next, startE, see, seeAll, h, at4_0, at4_1, at4_2, at4_3, hlf, hb, gs, b_mod h0, b_mod (show (0 : Int) < 2147483647 by decide), b_mul (mulR _ (show -(2 ^ 64) < (48271 : Int) ∧ (48271 : Int) < 2 ^ 64 by decide)), b_div divOk7, frzR, setIW, ixD, endM, finM, hs', dcell, asgT, List.take_of_length_le]
end DM

set_option maxRecDepth 100000
/-! L2: the law's draws: contracts. -/
namespace DM
open PySem
theorem OkDice.lst {c : Cell} (h : OkDice c) : ∃ l, c = .lst l := by obtain ⟨sc, a, m, l, rfl, _⟩ := h; exact ⟨_, rfl⟩
theorem closed_dice {s : List Cell} {i : Nat} {c : Cell} (h : closedS s.length s = true) (hc : OkDice c) : closedS (s.set i c).length (s.set i c) = true := by
  obtain ⟨l, rfl⟩ := hc.lst
  rw [List.length_set]
  exact closed_set h
/-- the draw -/
def NextOk (φ : Fs) : Prop := ∀ (s : List Cell) (i : Nat) (c : Cell) (m : Int), OkDice c → s[i]? = some c → closedS s.length s = true → 0 < m → m < 9223372036854775808 →
  ∃ r c', 0 ≤ r ∧ r < m ∧ OkDice c' ∧ callF φ [.h i, .d (.int m)] s = .ok (.d (.int r)) (s.set i c')
theorem next_ok (Φ : Phi) (n : Nat) : NextOk (.m 2 (gM Φ n B_next 4 0)) := fun s i c m hd h hs h0 h1 => by
  obtain ⟨r, c', r0, r1, hd', e⟩ := next_run Φ n hd h hs h0 h1
  refine ⟨r, c', r0, r1, hd', ?_⟩
  show ((if 2 = 2 then gM Φ n B_next 4 0 [.h i, .d (.int m)] s else .no) : R Rv).bind rvW = _
  rw [if_pos rfl, e]
  rfl
theorem get_set {s : List Cell} {i : Nat} {c c' : Cell} (h : s[i]? = some c) : (s.set i c')[i]? = some c' := List.getElem?_set_self (List.getElem?_eq_some_iff.mp h).1
/-! ### a loop by an invariant -/
theorem forK_inv {Φ : Phi} {n : Nat} {t : Tg} {b : List S} (I : Nat → Env → List Cell → Prop) : ∀ (items : List PyData) (k : Nat) (ρ : Env) (s : List Cell), I k ρ s →
    (∀ (j : Nat) (x : PyData) (ρ : Env) (s : List Cell), items[j]? = some x → I (k + j) ρ s → ∃ ρ1 ρ' s', asgT ρ t (.d x) = some ρ1 ∧ (runB Φ n b ρ1 s = .ok (.nx, ρ') s' ∨ runB Φ n b ρ1 s = .ok (.ct, ρ') s') ∧ I (k + j + 1) ρ' s') →
    ∃ ρ' s', forK Φ n t b items ρ s = .ok (.nx, ρ') s' ∧ I (k + items.length) ρ' s'
  | [], k, ρ, s, h, _ => ⟨ρ, s, rfl, h⟩
  | x :: xs, k, ρ, s, h, st => by
    obtain ⟨ρ1, ρ', s', e1, e2, h'⟩ := st 0 x ρ s rfl h
    obtain ⟨ρ2, s2, e3, h3⟩ := forK_inv I xs (k + 1) ρ' s' h' fun j y ρ s hj hi => by
      have := st (j + 1) y ρ s (by simpa using hj) (by rw [show k + (j + 1) = k + 1 + j by omega]; exact hi)
      rw [show k + (j + 1) + 1 = k + 1 + j + 1 by omega] at this
      exact this
    refine ⟨ρ2, s2, ?_, by rw [List.length_cons, show k + (xs.length + 1) = k + 1 + xs.length by omega]; exact h3⟩
    rw [forK_cons, e1]
    rcases e2 with e2 | e2 <;> simp only [e2, R.lp_nx, R.lp_ct] <;> exact e3
/-- .. that may end the def -/
theorem upTo_len : ∀ (n : Nat) (lo : Int), (upTo lo n).length = n
  | 0, _ => rfl
  | n + 1, lo => by simp [upTo, upTo_len n]
theorem upTo_get : ∀ (n : Nat) (lo : Int) (j : Nat) (x : PyData), (upTo lo n)[j]? = some x → x = .int (lo + j) ∧ j < n
  | 0, _, j, x, h => by simp [upTo] at h
  | n + 1, lo, 0, x, h => by simp [upTo] at h; subst h; simp
  | n + 1, lo, j + 1, x, h => by
    simp [upTo] at h
    obtain ⟨h1, h2⟩ := upTo_get n (lo + 1) j x h
    refine ⟨?_, by omega⟩
    rw [h1]; congr 1; push_cast; omega
/-! ### marks -/
def B_marks : List S := [(.asg (.n 1) (.fr (.lst (.cons (.cst (.int 0)) (.cons (.cst (.int 1)) (.cons (.cst (.int 2)) .nil)))))), (.asg (.n 2) (.call 34 (.cons (.var 0) (.cons (.cst (.int 8)) .nil)))), (.ite (.cmp .eq (.var 2) (.cst (.int 7))) [(.asg (.n 1) (.fr (.lst (.cons (.call 34 (.cons (.var 0) (.cons (.bin .pow (.cst (.int 10)) (.cst (.int 12))) .nil))) (.cons (.cst (.int 7)) (.cons (.bin .sub (.bin .pow (.cst (.int 10)) (.cst (.int 12))) (.cst (.int 1))) .nil))))))] []), (.ite (.cmp .eq (.var 2) (.cst (.int 6))) [(.asg (.n 3) (.call 34 (.cons (.var 0) (.cons (.bin .pow (.cst (.int 10)) (.cst (.int 9))) .nil)))), (.asg (.n 1) (.fr (.lst (.cons (.var 3) (.cons (.bin .add (.var 3) (.bin .pow (.cst (.int 10)) (.cst (.int 6)))) (.cons (.bin .add (.var 3) (.cst (.int 4294967296))) .nil))))))] []), (.ret (.slc (.var 1) .none (.some (.bin .add (.cst (.int 1)) (.call 34 (.cons (.var 0) (.cons (.cst (.int 3)) .nil)))))))]
/-- a colour -/
def MkOk (x : Int) : Prop := 0 ≤ x ∧ x < 1000000000000
def MarksOk (φ : Fs) : Prop := ∀ (s : List Cell) (i : Nat) (c : Cell), OkDice c → s[i]? = some c → closedS s.length s = true →
  ∃ (l : List Int) (c' : Cell), 1 ≤ l.length ∧ l.length ≤ 3 ∧ (∀ x ∈ l, MkOk x) ∧ OkDice c' ∧ callF φ [.h i] s = .ok (.d (.list (l.map .int))) (s.set i c')
theorem pow12 : binD .pow (.int 10) (.int 12) = some (.int 1000000000000) := by rfl
theorem pow9 : binD .pow (.int 10) (.int 9) = some (.int 1000000000) := by rfl
theorem pow6 : binD .pow (.int 10) (.int 6) = some (.int 1000000) := by rfl
theorem cut3 {a b c k : Int} (h0 : 0 ≤ k) (h1 : k < 3) {P : Int → Prop} (ha : P a) (hb : P b) (hc : P c) : ∃ l : List Int, 1 ≤ l.length ∧ l.length ≤ 3 ∧ (∀ x ∈ l, P x) ∧ cut [.int a, .int b, .int c] none (some (1 + k)) = l.map .int := by
  have : k = 0 ∨ k = 1 ∨ k = 2 := by omega
  rcases this with rfl | rfl | rfl
  · exact ⟨[a], by simp, by simp, by simp [ha], rfl⟩
  · exact ⟨[a, b], by simp, by simp, by simp [ha, hb], rfl⟩
  · exact ⟨[a, b, c], by simp, by simp, by simp [ha, hb, hc], rfl⟩
theorem marks_ok {Φ : Phi} {φ : Fs} (hφ : Φ.fn 34 = some φ) (N : NextOk φ) (n : Nat) : MarksOk (.m 1 (gM Φ n B_marks 4 0)) := fun s i c hd h hs => by
  have hi : i < s.length := (List.getElem?_eq_some_iff.mp h).1
  obtain ⟨r1, c1, a0, a1, d1, e1⟩ := N s i c 8 hd h hs (by decide) (by decide)
  have h1 := get_set (c' := c1) h
  have hs1 := closed_dice (i := i) hs d1
  have sz : (3 : Nat) ≤ sizeLine := by decide
  show ∃ (l : List Int) (c' : Cell), _ ∧ _ ∧ _ ∧ _ ∧ ((if 1 = 1 then gM Φ n B_marks 4 0 [.h i] s else .no) : R Rv).bind rvW = _
  rw [if_pos rfl]
  by_cases k7 : r1 = 7
  · obtain ⟨r2, c2, b0, b1, d2, e2⟩ := N _ i c1 1000000000000 d1 h1 hs1 (by decide) (by decide)
    rw [List.set_set] at e2
    have h2 := get_set (c' := c2) h
    have hs2 := closed_dice (i := i) hs d2
    obtain ⟨r3, c3, g0, g1, d3, e3⟩ := N _ i c2 3 d2 h2 hs2 (by decide) (by decide)
    rw [List.set_set] at e3
    obtain ⟨l, l1, l2, l3, l4⟩ := cut3 (P := MkOk) g0 g1 (a := r2) (b := 7) (c := 999999999999) ⟨b0, b1⟩ ⟨by decide, by decide⟩ ⟨by decide, by decide⟩
    refine ⟨l, c3, l1, l2, l3, d3, ?_⟩
    have hc3 : closedS s.length (s.set i c3) = true := by have := closed_dice (i := i) hs d3; rwa [List.length_set] at this
    simp [gM, B_marks, startE, hφ, e1, e2, e3, k7, pow12, frzsR, frzAll, asgT, l4, endM, finM, hc3, sz, List.take_of_length_le, rvW]
  · by_cases k6 : r1 = 6
    · obtain ⟨r2, c2, b0, b1, d2, e2⟩ := N _ i c1 1000000000 d1 h1 hs1 (by decide) (by decide)
      rw [List.set_set] at e2
      have h2 := get_set (c' := c2) h
      have hs2 := closed_dice (i := i) hs d2
      obtain ⟨r3, c3, g0, g1, d3, e3⟩ := N _ i c2 3 d2 h2 hs2 (by decide) (by decide)
      rw [List.set_set] at e3
      obtain ⟨l, l1, l2, l3, l4⟩ := cut3 (P := MkOk) g0 g1 (a := r2) (b := r2 + 1000000) (c := r2 + 4294967296) ⟨b0, by omega⟩ ⟨by omega, by omega⟩ ⟨by omega, by omega⟩
      refine ⟨l, c3, l1, l2, l3, d3, ?_⟩
      have hc3 : closedS s.length (s.set i c3) = true := by have := closed_dice (i := i) hs d3; rwa [List.length_set] at this
      simp [gM, B_marks, startE, hφ, e1, e2, e3, k6, pow9, pow6, frzsR, frzAll, asgT, l4, endM, finM, hc3, sz, List.take_of_length_le, rvW]
    · obtain ⟨r3, c3, g0, g1, d3, e3⟩ := N _ i c1 3 d1 h1 hs1 (by decide) (by decide)
      rw [List.set_set] at e3
      obtain ⟨l, l1, l2, l3, l4⟩ := cut3 (P := MkOk) g0 g1 (a := 0) (b := 1) (c := 2) ⟨by decide, by decide⟩ ⟨by decide, by decide⟩ ⟨by decide, by decide⟩
      refine ⟨l, c3, l1, l2, l3, d3, ?_⟩
      have hc3 : closedS s.length (s.set i c3) = true := by have := closed_dice (i := i) hs d3; rwa [List.length_set] at this
      simp [gM, B_marks, startE, hφ, e1, e3, k6, k7, frzsR, frzAll, asgT, l4, endM, finM, hc3, sz, List.take_of_length_le, rvW]
end DM

set_option maxRecDepth 100000
/-! L3: dice, like, tiles. -/
namespace DM
open PySem
/-! ### data of ints, n deep -/
def Nd : Nat → PyData → Bool
  | _, .int _ => true
  | _, .none => true
  | n + 1, .list l => decide (l.length ≤ sizeLine) && l.all (Nd n)
  | n + 1, .tuple l => decide (l.length ≤ sizeLine) && l.all (Nd n)
  | _, _ => false
mutual
theorem eqv_self : ∀ x : PyData, x.canLay0 = true → x.eqv x = true
  | .none, _ => rfl
  | .bool b, _ => by simp [PyData.eqv]
  | .int i, _ => by simp [PyData.eqv]
  | .str s, _ => by simp [PyData.eqv]
  | .list l, h => by simp only [PyData.eqv]; exact eqvAll_self l (by simpa [PyData.canLay0] using h)
  | .tuple l, h => by simp only [PyData.eqv]; exact eqvAll_self l (by simpa [PyData.canLay0] using h)
  | .dict k, h => by simp [PyData.canLay0] at h
theorem eqvAll_self : ∀ l : List PyData, PyData.canLayAll0 l = true → PyData.eqvAll l l = true
  | [], _ => rfl
  | x :: xs, h => by
    simp only [PyData.canLayAll0, Bool.and_eq_true] at h
    simp only [PyData.eqvAll, Bool.and_eq_true]
    exact ⟨eqv_self x h.1, eqvAll_self xs h.2⟩
end
theorem Nd_ok : ∀ (n : Nat) (x : PyData), Nd n x = true → x.canLay0 = true ∧ x.depth ≤ n := by
  intro n
  induction n with
  | zero =>
    intro x h
    cases x <;> simp [Nd] at h <;> simp [PyData.canLay0, PyData.depth]
  | succ n ih =>
    intro x h
    have al : ∀ l : List PyData, (∀ y ∈ l, Nd n y = true) → PyData.canLayAll0 l = true ∧ PyData.depthAll l ≤ n := by
      intro l
      induction l with
      | nil => intro _; exact ⟨rfl, Nat.zero_le _⟩
      | cons y ys ihl =>
        intro h
        obtain ⟨h1, h2⟩ := ihl fun z hz => h z (List.mem_cons_of_mem _ hz)
        obtain ⟨h3, h4⟩ := ih y (h y List.mem_cons_self)
        simp only [PyData.canLayAll0, PyData.depthAll, Bool.and_eq_true]
        exact ⟨⟨h3, h1⟩, Nat.max_le.mpr ⟨h4, h2⟩⟩
    cases x with
    | list l =>
      simp only [Nd, Bool.and_eq_true, List.all_eq_true] at h
      obtain ⟨h1, h2⟩ := al l h.2
      simp only [PyData.canLay0, PyData.depth]
      exact ⟨h1, by omega⟩
    | tuple l =>
      simp only [Nd, Bool.and_eq_true, List.all_eq_true] at h
      obtain ⟨h1, h2⟩ := al l h.2
      simp only [PyData.canLay0, PyData.depth]
      exact ⟨h1, by omega⟩
    | none => simp [PyData.canLay0, PyData.depth]
    | int i => simp [PyData.canLay0, PyData.depth]
    | bool b => simp [Nd] at h
    | str b => simp [Nd] at h
    | dict b => simp [Nd] at h
theorem Nd_okD {n : Nat} {x : PyData} (hn : n ≤ 64) (h : Nd n x = true) : okD x = true := by
  obtain ⟨h1, h2⟩ := Nd_ok n x h
  unfold okD SeqAt.shaped
  rw [h1]
  simpa using Nat.le_trans h2 hn
theorem c_eq_self {n : Nat} {x : PyData} (hn : n ≤ 64) (h : Nd n x = true) : cmpD .eq x x = some true := by
  have e1 := Nd_okD hn h
  have e2 := eqv_self x (Nd_ok n x h).1
  have go : (if okD x && okD x then some (x.eqv x) else none) = some true := by rw [e1, e2]; rfl
  cases x with
  | int i => simp
  | _ => exact go
theorem c_ne_self {n : Nat} {x : PyData} (hn : n ≤ 64) (h : Nd n x = true) : cmpD .ne x x = some false := by
  have e1 := Nd_okD hn h
  have e2 := eqv_self x (Nd_ok n x h).1
  have go : (if okD x && okD x then some (!x.eqv x) else none) = some false := by rw [e1, e2]; rfl
  cases x with
  | int i => simp
  | _ => exact go
@[simp] theorem c_ne_bool (a b : Bool) : cmpD .ne (.bool a) (.bool b) = some (!(a == b)) := by cases a <;> cases b <;> rfl
@[simp] theorem c_isN (x : PyData) : cmpD .isN x .none = some (isNone x) := by cases x <;> rfl
@[simp] theorem c_notN (x : PyData) : cmpD .notN x .none = some (!isNone x) := by cases x <;> rfl
/-! ### like -/
def B_like : List S := [(.ite (.isi .str (.var 1)) [(.ret (.and (.isi .str (.var 0)) (.cmp .eq (.var 0) (.var 1))))] []), (.ite (.isi .int (.var 1)) [(.ret (.and (.isi .int (.var 0)) (.and (.not (.isi .bool (.var 0))) (.cmp .eq (.var 0) (.var 1)))))] []), (.ite (.cmp .isN (.var 1) (.cst .none)) [(.ret (.cmp .isN (.var 0) (.cst .none)))] []), (.ite (.or (.cmp .ne (.isi .tuple (.var 1)) (.isi .tuple (.var 0))) (.cmp .ne (.isi .list (.var 1)) (.isi .list (.var 0)))) [(.ret (.cst (.bool false)))] []), (.ite (.cmp .ne (.bi .len (.cons (.var 0) .nil)) (.bi .len (.cons (.var 1) .nil))) [(.ret (.cst (.bool false)))] []), (.for (.n 2) (.rng1 (.bi .len (.cons (.var 1) .nil))) [(.ite (.not (.call 29 (.cons (.idx (.var 0) (.var 2)) (.cons (.idx (.var 1) (.var 2)) .nil)))) [(.ret (.cst (.bool false)))] [])]), (.ret (.cst (.bool true)))]
/-- data alike is told alike, n deep -/
def LikeOk (φ : Fs) (n : Nat) : Prop := ∀ (x : PyData) (s : List Cell), Nd n x = true → callF φ [.d x, .d x] s = .ok (.d (.bool true)) s
theorem callP {n : Nat} {g : List W → Option Ro} {ws vs : List W} {s : List Cell} {w : W} (hl : ws.length = n) (hv : viewAll s ws = some (vs, false)) (hg : g vs = some (.ret w)) : callF (.p n g) ws s = .ok w s := by
  unfold callF callX
  simp only [hl, if_pos, hv, hg, pX]
  simp [rvW]
theorem smallI_len {n : Nat} (h : n ≤ sizeLine) : smallI (n : Int) = true := by
  unfold smallI
  have : sizeLine < 4611686018427387904 := by decide
  simp only [Bool.and_eq_true, decide_eq_true_eq]
  omega
theorem like_loop {Φ : Phi} {φ : Fs} {n k : Nat} (hφ : Φ.fn 29 = some φ) (L : LikeOk φ n) {x : PyData} {l : List PyData} (hx : x = .list l ∨ x = .tuple l) (hl : ∀ y ∈ l, Nd n y = true) (v : Option W) (s : List Cell) :
    ∃ ρ' s', forK Φ k (.n 2) [(.ite (.not (.call 29 (.cons (.idx (.var 0) (.var 2)) (.cons (.idx (.var 1) (.var 2)) .nil)))) [(.ret (.cst (.bool false)))] [])] (upTo 0 l.length) [some (.d x), some (.d x), v] s = .ok (.nx, ρ') s' ∧ ∃ o, ρ' = [some (.d x), some (.d x), o] ∧ s' = s := by
  obtain ⟨ρ', s', e, h⟩ := forK_inv (Φ := Φ) (n := k) (t := .n 2) (b := [(.ite (.not (.call 29 (.cons (.idx (.var 0) (.var 2)) (.cons (.idx (.var 1) (.var 2)) .nil)))) [(.ret (.cst (.bool false)))] [])])
    (fun _ ρ s' => ∃ o, ρ = [some (.d x), some (.d x), o] ∧ s' = s) (upTo 0 l.length) 0 [some (.d x), some (.d x), v] s ⟨v, rfl, rfl⟩ fun j y ρ s1 hj ⟨o, hρ, hs⟩ => by
      subst hρ hs
      obtain ⟨rfl, hjl⟩ := upTo_get _ _ _ _ hj
      have ha : atD l (0 + (j : Int)) = some l[j] := atD_nat (by omega) (by
        have : (0 + (j : Int)).toNat = j := by omega
        rw [this]; exact List.getElem?_eq_getElem hjl)
      have hL := L l[j] s1 (hl _ (List.getElem_mem hjl))
      refine ⟨_, _, _, rfl, .inl ?_, some (.d (.int (0 + j))), rfl, rfl⟩
      simp only [Int.zero_add] at ha
      rcases hx with rfl | rfl <;> simp [hφ, ha, hL]
  exact ⟨ρ', s', e, h⟩
theorem like_deep {Φ : Phi} {φ : Fs} {n : Nat} (k : Nat) (hφ : Φ.fn 29 = some φ) (L : LikeOk φ n) {x : PyData} {l : List PyData} (hx : x = .list l ∨ x = .tuple l) (hl : l.length ≤ sizeLine) (ha : ∀ y ∈ l, Nd n y = true) : gP Φ k B_like 3 [.d x, .d x] = some (.ret (.d (.bool true))) := by
  obtain ⟨ρ', s', e, o, rfl, rfl⟩ := like_loop (k := k) hφ L hx ha none []
  have hsm := smallI_len hl
  rcases hx with rfl | rfl
  · simp [gP, B_like, startE, isiD, isNone, seeAll, hsm, e, endP, finP]
  · simp [gP, B_like, startE, isiD, isNone, seeAll, hsm, e, endP, finP]
theorem Nd_list {n : Nat} {l : List PyData} (h : Nd (n + 1) (.list l) = true) : l.length ≤ sizeLine ∧ ∀ y ∈ l, Nd n y = true := by
  simp only [Nd, Bool.and_eq_true, List.all_eq_true, decide_eq_true_eq] at h
  exact h
theorem Nd_tuple {n : Nat} {l : List PyData} (h : Nd (n + 1) (.tuple l) = true) : l.length ≤ sizeLine ∧ ∀ y ∈ l, Nd n y = true := by
  simp only [Nd, Bool.and_eq_true, List.all_eq_true, decide_eq_true_eq] at h
  exact h
theorem like_int (Φ : Phi) (k : Nat) (i : Int) : gP Φ k B_like 3 [.d (.int i), .d (.int i)] = some (.ret (.d (.bool true))) := by simp [gP, B_like, startE, isiD, endP, finP]
theorem like_none (Φ : Phi) (k : Nat) : gP Φ k B_like 3 [.d .none, .d .none] = some (.ret (.d (.bool true))) := by simp [gP, B_like, startE, isiD, isNone, endP, finP]
theorem like_ok {Φ : Phi} {φ : Fs} {n : Nat} (k : Nat) (hφ : Φ.fn 29 = some φ) (L : LikeOk φ n) : LikeOk (.p 2 (gP Φ k B_like 3)) (n + 1) := fun x s h => by
  refine callP rfl (vs := [.d x, .d x]) rfl ?_
  cases x with
  | list l => exact like_deep k hφ L (.inl rfl) (Nd_list h).1 (Nd_list h).2
  | tuple l => exact like_deep k hφ L (.inr rfl) (Nd_tuple h).1 (Nd_tuple h).2
  | int i => exact like_int _ _ _
  | none => exact like_none _ _
  | bool b => simp [Nd] at h
  | str b => simp [Nd] at h
  | dict b => simp [Nd] at h
/-- at the ground -/
theorem like_ok0 {Φ : Phi} (k : Nat) : LikeOk (.p 2 (gP Φ k B_like 3)) 0 := fun x s h => by
  refine callP rfl (vs := [.d x, .d x]) rfl ?_
  cases x with
  | int i => exact like_int _ _ _
  | none => exact like_none _ _
  | _ => simp [Nd] at h
/-! ### dice -/
def B_dice : List S := [(.asg (.n 1) (.cst (.int 0))), (.for (.n 2) (.seq (.var 0)) [(.asg (.n 1) (.bin .mod (.bin .add (.bin .add (.bin .mul (.var 1) (.cst (.int 48271))) (.bin .mul (.bin .mod (.var 2) (.cst (.int 2147483647))) (.cst (.int 69621)))) (.cst (.int 11))) (.cst (.int 2147483647))))]), (.ret (.th (.lst (.cons (.var 0) (.cons (.cst (.int 0)) (.cons (.bin .mul (.var 1) (.bi .int (.cons (.cmp .gt (.bi .len (.cons (.var 0) .nil)) (.cst (.int 2))) .nil))) (.cons (.cst (.int 0)) .nil)))))))]
def DiceOk (φ : Fs) : Prop := ∀ (ns : List Int) (s : List Cell), ns.length ≤ 63 → ∃ l, OkDice (.lst l) ∧ callL φ [.d (.list (ns.map .int))] s = .ok l s
theorem bi_intB (b : Bool) : biD .int [.bool b] = some (.int (if b then 1 else 0)) := rfl
theorem dice_ok (Φ : Phi) (n : Nat) : DiceOk (.p 1 (gP Φ n B_dice 3)) := fun ns s hl => by
  have m1 : (0 : Int) < 2147483647 := by decide
  have lp := forK_inv (Φ := Φ) (n := n) (t := .n 2) (b := [(.asg (.n 1) (.bin .mod (.bin .add (.bin .add (.bin .mul (.var 1) (.cst (.int 48271))) (.bin .mul (.bin .mod (.var 2) (.cst (.int 2147483647))) (.cst (.int 69621)))) (.cst (.int 11))) (.cst (.int 2147483647))))])
    (fun _ ρ s' => ∃ (m : Int) (o : Option W), ρ = [some (.d (.list (ns.map .int))), some (.d (.int m)), o] ∧ s' = []) (ns.map .int) 0 [some (.d (.list (ns.map .int))), some (.d (.int 0)), none] [] ⟨0, none, rfl, rfl⟩ fun j y ρ s1 hj ⟨m, o, hρ, hs⟩ => by
      subst hρ hs
      rw [List.getElem?_map] at hj
      cases e : ns[j]? with
      | none => rw [e] at hj; cases hj
      | some z =>
        rw [e] at hj
        cases hj
        refine ⟨_, _, _, rfl, .inl ?_, (m * 48271 + z % 2147483647 * 69621 + 11) % 2147483647, some (.d (.int z)), rfl, rfl⟩
        simp [b_mul (mulR _ (show -(2 ^ 64) < (48271 : Int) ∧ (48271 : Int) < 2 ^ 64 by decide)), b_mul (mulR _ (show -(2 ^ 64) < (69621 : Int) ∧ (69621 : Int) < 2 ^ 64 by decide)), b_mod m1, asgT]
  obtain ⟨ρ', s', e, m, o, rfl, rfl⟩ := lp
  have hb : binD .mul (.int m) (.int (if 2 < (ns.length : Int) then 1 else 0)) = some (.int (m * (if 2 < (ns.length : Int) then 1 else 0))) := b_mul (mulR _ (by split <;> decide))
  have sz : (4 : Nat) ≤ sizeLine := by decide
  refine ⟨[.list (ns.map .int), .int 0, .int (m * (if 2 < (ns.length : Int) then 1 else 0)), .int 0], ⟨ns, 0, _, 0, rfl, by decide, hl⟩, ?_⟩
  have g : gP Φ n B_dice 3 [.d (.list (ns.map .int))] = some (.fresh [.list (ns.map .int), .int 0, .int (m * (if 2 < (ns.length : Int) then 1 else 0)), .int 0]) := by
    simp only [gP, B_dice, startE]
    simp [asgT, frzR, e, seeAll, bi_intB, frzsR, frzAll, sz, hb, endP, finP]
  unfold callL callX
  simp [viewAll, view, g, pX, rvL]
/-! ### tiles -/
def B_tiles : List S := [(.asg (.n 2) (.call 32 (.cons (.var 0) .nil))), (.asg (.n 3) (.call 32 (.cons (.var 0) .nil))), (.asg (.n 4) (.th (.lst .nil))), (.for (.n 5) (.rng1 (.bin .add (.cst (.int 1)) (.call 34 (.cons (.var 0) (.cons (.var 1) .nil))))) [(.asg (.n 6) (.idx (.var 3) (.call 34 (.cons (.var 0) (.cons (.bi .len (.cons (.var 3) .nil)) .nil))))), (.asg (.n 7) (.idx (.var 2) (.call 34 (.cons (.var 0) (.cons (.bi .len (.cons (.var 2) .nil)) .nil))))), (.asg (.n 8) (.idx (.var 3) (.call 34 (.cons (.var 0) (.cons (.bi .len (.cons (.var 3) .nil)) .nil))))), (.ex (.app (.var 4) (.tup (.cons (.var 6) (.cons (.var 7) (.cons (.var 8) (.cons (.idx (.var 2) (.call 34 (.cons (.var 0) (.cons (.bi .len (.cons (.var 2) .nil)) .nil)))) .nil)))))))]), (.ret (.var 4))]
structure Tile where
  n : Int
  e : Int
  s : Int
  w : Int
def Tile.ok (t : Tile) : Prop := MkOk t.n ∧ MkOk t.e ∧ MkOk t.s ∧ MkOk t.w
def Tile.d (t : Tile) : PyData := .tuple [.int t.n, .int t.e, .int t.s, .int t.w]
/-- two places of the store -/
def two (s : List Cell) (i j : Nat) (c r : Cell) : List Cell := (s.set i c).set j r
section
variable {s : List Cell} {i j : Nat} {c c' r r' : Cell}
theorem two_len : (two s i j c r).length = s.length := by simp [two]
theorem two_i (h : i < s.length) (n : i ≠ j) : (two s i j c r)[i]? = some c := by
  unfold two; rw [List.getElem?_set_ne (Ne.symm n)]; exact List.getElem?_set_self h
theorem two_j (h : j < s.length) : (two s i j c r)[j]? = some r := List.getElem?_set_self (by simpa using h)
theorem two_set_i (n : i ≠ j) : (two s i j c r).set i c' = two s i j c' r := by
  unfold two; rw [List.set_comm _ _ (Ne.symm n), List.set_set]
theorem two_set_j : (two s i j c r).set j r' = two s i j c r' := by unfold two; rw [List.set_set]
end
theorem draw {φ : Fs} (N : NextOk φ) {l : List Int} {P : Int → Prop} (h0 : 1 ≤ l.length) (h1 : l.length ≤ 3) (hP : ∀ x ∈ l, P x) {s : List Cell} {i : Nat} {c : Cell} (hd : OkDice c) (h : s[i]? = some c) (hs : closedS s.length s = true) :
    ∃ r c' x, OkDice c' ∧ P x ∧ callF φ [.h i, .d (.int (l.length : Int))] s = .ok (.d (.int r)) (s.set i c') ∧ atD (l.map PyData.int) r = some (.int x) := by
  obtain ⟨r, c', r0, r1, d', e⟩ := N s i c l.length hd h hs (by omega) (by omega)
  have hr : r.toNat < l.length := by omega
  refine ⟨r, c', l[r.toNat], d', hP _ (List.getElem_mem hr), e, atD_nat r0 ?_⟩
  rw [List.getElem?_map, List.getElem?_eq_getElem hr]
  rfl
def TilesOk (φ : Fs) : Prop := ∀ (s : List Cell) (i : Nat) (c : Cell) (m : Int), OkDice c → s[i]? = some c → closedS s.length s = true → 0 < m → m ≤ 1000000 →
  ∃ (ts : List Tile) (c' : Cell), 1 ≤ ts.length ∧ (ts.length : Int) ≤ m ∧ (∀ t ∈ ts, t.ok) ∧ OkDice c' ∧ callX φ [.h i, .d (.int m)] s = .ok (.l (ts.map Tile.d)) (s.set i c')
theorem closed_two {s : List Cell} {i j : Nat} {c : Cell} {l : List PyData} (h : closedS s.length s = true) (hc : OkDice c) : closedS (two s i j c (.lst l)).length (two s i j c (.lst l)) = true := by
  rw [two_len]
  unfold two
  have := closed_dice (i := i) h hc
  rw [List.length_set] at this
  exact closed_set this
theorem tiles_ok {Φ : Phi} {φ μ : Fs} (n : Nat) (hφ : Φ.fn 34 = some φ) (N : NextOk φ) (hμ : Φ.fn 32 = some μ) (M : MarksOk μ) : TilesOk (.m 2 (gM Φ n B_tiles 9 0)) := fun s i c m hd h hs m0 m1 => by
  have hi : i < s.length := (List.getElem?_eq_some_iff.mp h).1
  obtain ⟨ac, c1, a1, a2, a3, d1, e1⟩ := M s i c hd h hs
  have h1 := get_set (c' := c1) h
  have hs1 := closed_dice (i := i) hs d1
  obtain ⟨dn, c2, b1, b2, b3, d2, e2⟩ := M _ i c1 d1 h1 hs1
  rw [List.set_set] at e2
  have h2 := get_set (c' := c2) h
  have hs2 := closed_dice (i := i) hs d2
  have hcl2 : closedS s.length (s.set i c2) = true := by rwa [List.length_set] at hs2
  have hij : i ≠ s.length := Nat.ne_of_lt hi
  -- the store with the new list
  have cl : ∀ (s : List Cell) (l : List PyData), closedS s.length s = true → closedS (s ++ [Cell.lst l]).length (s ++ [Cell.lst l]) = true := fun s l h => by
    unfold closedS at h ⊢
    rw [List.all_append, Bool.and_eq_true]
    refine ⟨?_, rfl⟩
    rw [List.all_eq_true] at h ⊢
    intro c hc
    have := h c hc
    cases c with
    | ins c fs =>
      simp only [closedC, List.all_eq_true] at this ⊢
      intro p hp
      have := this p hp
      cases q : p.2 with
      | h i => rw [q] at this; simp only [closedW, decide_eq_true_eq] at this ⊢; rw [List.length_append]; omega
      | _ => rfl
    | _ => rfl
  have g0 : ((s ++ [Cell.lst []]).set i c2)[i]? = some c2 := List.getElem?_set_self (by simp; omega)
  have eA : s.set i c2 ++ [Cell.lst []] = two (s ++ [Cell.lst []]) i s.length c2 (.lst []) := by
    unfold two
    rw [List.set_append_left _ _ hi, List.set_append_right _ _ (by simp)]
    simp
  have hsA : closedS (s ++ [Cell.lst []]).length (s ++ [Cell.lst []]) = true := cl s [] hs
  have hiA : i < (s ++ [Cell.lst []]).length := by simp; omega
  have hjA : s.length < (s ++ [Cell.lst []]).length := by simp
  obtain ⟨k, c3, k0, k1, d3, e3⟩ := N (two (s ++ [Cell.lst []]) i s.length c2 (.lst [])) i c2 m d2 (two_i hiA hij) (closed_two hsA d2) m0 (by omega)
  rw [two_set_i hij] at e3
  have hsm : smallI (1 + k) = true := by unfold smallI; simp only [Bool.and_eq_true, decide_eq_true_eq]; omega
  have sz4 : (4 : Nat) ≤ sizeLine := by decide
  have lp := forK_inv (Φ := Φ) (n := n) (t := .n 5) (b := [(.asg (.n 6) (.idx (.var 3) (.call 34 (.cons (.var 0) (.cons (.bi .len (.cons (.var 3) .nil)) .nil))))), (.asg (.n 7) (.idx (.var 2) (.call 34 (.cons (.var 0) (.cons (.bi .len (.cons (.var 2) .nil)) .nil))))), (.asg (.n 8) (.idx (.var 3) (.call 34 (.cons (.var 0) (.cons (.bi .len (.cons (.var 3) .nil)) .nil))))), (.ex (.app (.var 4) (.tup (.cons (.var 6) (.cons (.var 7) (.cons (.var 8) (.cons (.idx (.var 2) (.call 34 (.cons (.var 0) (.cons (.bi .len (.cons (.var 2) .nil)) .nil)))) .nil)))))))])
    (fun q ρ s' => ∃ (ts : List Tile) (c : Cell) (o5 o6 o7 o8 : Option W), ts.length = q ∧ (∀ t ∈ ts, t.ok) ∧ OkDice c ∧ q ≤ (1 + k).toNat ∧ ρ = [some (.h i), some (.d (.int m)), some (.d (.list (ac.map .int))), some (.d (.list (dn.map .int))), some (.h s.length), o5, o6, o7, o8] ∧ s' = two (s ++ [Cell.lst []]) i s.length c (.lst (ts.map Tile.d)))
    (upTo 0 (1 + k).toNat) 0 [some (.h i), some (.d (.int m)), some (.d (.list (ac.map .int))), some (.d (.list (dn.map .int))), some (.h s.length), none, none, none, none] (two (s ++ [Cell.lst []]) i s.length c3 (.lst [])) ⟨[], c3, none, none, none, none, rfl, by simp, d3, Nat.zero_le _, rfl, rfl⟩ fun j y ρ s1 hj ⟨ts, c, o5, o6, o7, o8, tl, tk, dc, _, hρ, hs1⟩ => by
      subst hρ hs1
      obtain ⟨rfl, hjl⟩ := upTo_get _ _ _ _ hj
      obtain ⟨x1, y1, z1, p1, q1, f1, t1⟩ := draw N b1 b2 b3 dc (two_i (r := .lst (ts.map Tile.d)) hiA hij) (closed_two hsA dc)
      rw [two_set_i hij] at f1
      obtain ⟨x2, y2, z2, p2, q2, f2, t2⟩ := draw N a1 a2 a3 p1 (two_i (r := .lst (ts.map Tile.d)) hiA hij) (closed_two hsA p1)
      rw [two_set_i hij] at f2
      obtain ⟨x3, y3, z3, p3, q3, f3, t3⟩ := draw N b1 b2 b3 p2 (two_i (r := .lst (ts.map Tile.d)) hiA hij) (closed_two hsA p2)
      rw [two_set_i hij] at f3
      obtain ⟨x4, y4, z4, p4, q4, f4, t4⟩ := draw N a1 a2 a3 p3 (two_i (r := .lst (ts.map Tile.d)) hiA hij) (closed_two hsA p3)
      rw [two_set_i hij] at f4
      have gj : ∀ c r, (two (s ++ [Cell.lst []]) i s.length c r)[s.length]? = some r := fun c r => two_j hjA
      have tlen : (ts.map Tile.d).length < sizeLine := by
        have : sizeLine = 16777216 := by decide
        rw [List.length_map]; omega
      have tlen' : ts.length < sizeLine := by simpa using tlen
      refine ⟨_, [some (.h i), some (.d (.int m)), some (.d (.list (ac.map .int))), some (.d (.list (dn.map .int))), some (.h s.length), some (.d (.int (0 + (j : Int)))), some (.d (.int z1)), some (.d (.int z2)), some (.d (.int z3))], two (s ++ [Cell.lst []]) i s.length y4 (.lst ((ts ++ [Tile.mk z1 z2 z3 z4]).map Tile.d)), rfl, .inl ?_, ts ++ [Tile.mk z1 z2 z3 z4], y4, _, _, _, _, by simp [tl], ?_, p4, by omega, rfl, rfl⟩
      · simp [hφ, seeAll, f1, f2, f3, f4, t1, t2, t3, t4, asgT, isL, see, gj, frzsR, frzAll, sz4, frzR, appW, tlen', two_set_j, Tile.d]
      · intro t ht
        rcases List.mem_append.mp ht with ht | ht
        · exact tk t ht
        · rw [List.mem_singleton] at ht
          subst ht
          exact ⟨q1, q2, q3, q4⟩
  obtain ⟨ρ', s', e, ts, c4, o5, o6, o7, o8, tl, tk, d4, _, rfl, rfl⟩ := lp
  rw [upTo_len] at tl
  refine ⟨ts, c4, by omega, by omega, tk, d4, ?_⟩
  have hfin : closedS s.length (s.set i c4) = true := by have := closed_dice (i := i) hs d4; rwa [List.length_set] at this
  have eB : two (s ++ [Cell.lst []]) i s.length c4 (.lst (ts.map Tile.d)) = s.set i c4 ++ [.lst (ts.map Tile.d)] := by
    unfold two
    rw [List.set_append_left _ _ hi, List.set_append_right _ _ (by simp)]
    simp
  show ((if 2 = 2 then gM Φ n B_tiles 9 0 [.h i, .d (.int m)] s else .no) : R Rv) = _
  rw [if_pos rfl]
  simp only [gM, B_tiles, startE]
  simp [hμ, hφ, e1, e2, asgT, frzsR, frzAll, eA, e3, hsm, e]
  rw [eB]
  simp [endM, finM, hfin]
end DM

set_option maxRecDepth 100000
/-! L4: the set of tiles: contracts. -/
namespace DM
open PySem
/-! ### a comprehension that leaves the store alone -/
def turnK (Φ : Phi) (tg : Tg) (own : List Nat) (c : Oe) (e : E) (ρ : Env) (x : PyData) (s : List Cell) : R (Option PyData) := match asgT (wipeE ρ own) tg (.d x) with
    | some ρ' => (runC Φ c ρ' s).bind fun b s => if b then (runE Φ e ρ' s).bind fun w s => (frzR w s).bind fun y s => .ok (some y) s else .ok none s
    | none => .no
theorem compK_map {Φ : Phi} {tg : Tg} {own : List Nat} {c : Oe} {e : E} {ρ : Env} {f : PyData → PyData} {s : List Cell} : ∀ items : List PyData, (∀ x ∈ items, turnK Φ tg own c e ρ x s = .ok (some (f x)) s) → compK Φ tg own c e ρ items s = .ok (items.map f) s
  | [], _ => rfl
  | x :: xs, h => by
    have e1 := h x List.mem_cons_self
    have e2 := compK_map xs fun y hy => h y (List.mem_cons_of_mem _ hy)
    show (match turnK Φ tg own c e ρ x s with
      | .ok y s => (compK Φ tg own c e ρ xs s).bind fun ys s => match y with | some y => R.ok (y :: ys) s | none => R.ok ys s
      | _ => R.no) = _
    rw [e1]
    simp only [e2, R.bind_ok, List.map_cons]
theorem compK_ok {Φ : Phi} {tg : Tg} {own : List Nat} {c : Oe} {e : E} {ρ : Env} {f : PyData → PyData} {s : List Cell} {items : List PyData} (hl : items.length < sizeLine) (h : ∀ x ∈ items, turnK Φ tg own c e ρ x s = .ok (some (f x)) s) : compT Φ tg own c e ρ (.ok items s) = .ok (items.map f) s := by
  rw [compT_ok1 _ _ _ _ _ _ _ _ hl]; exact compK_map items h
/-! ### Tiles -/
def B_Tinit : List S := [(.ite (.or (.cmp .lt (.bi .len (.cons (.var 1) .nil)) (.cst (.int 1))) (.cmp .gt (.bi .len (.cons (.var 1) .nil)) (.cst (.int 200)))) [.no] []), (.for (.n 2) (.rng1 (.bi .len (.cons (.var 1) .nil))) [(.for (.n 3) (.seq (.idx (.var 1) (.var 2))) [(.ite (.or (.cmp .lt (.var 3) (.cst (.int 0))) (.cmp .ge (.var 3) (.cst (.int 1000000000000)))) [.no] [])])]), (.setF (.var 0) 3 (.fr (.list (.var 1))))]
def B_Ttiles : List S := [(.ret (.fr (.list (.fld (.var 0) 3))))]
abbrev rowsD (ts : List Tile) : PyData := .list (ts.map Tile.d)
abbrev setW (ts : List Tile) : W := .o 2 [(3, rowsD ts)]
def MkTiles (ψ : Ms) : Prop := ∀ (ts : List Tile) (s : List Cell), 1 ≤ ts.length → ts.length ≤ 200 → (∀ t ∈ ts, t.ok) → mkF ψ 2 [.d (rowsD ts)] s = .ok (setW ts) s
theorem inner_loop {Φ : Phi} {n : Nat} {t : Tile} (ht : t.ok) {a b c d : Option W} {s : List Cell} : ∃ d', forK Φ n (.n 3) [(.ite (.or (.cmp .lt (.var 3) (.cst (.int 0))) (.cmp .ge (.var 3) (.cst (.int 1000000000000)))) [.no] [])] [.int t.n, .int t.e, .int t.s, .int t.w] [a, b, c, d] s = .ok (.nx, [a, b, c, d']) s := by
  obtain ⟨⟨n0, n1⟩, ⟨e0, e1⟩, ⟨s0, s1⟩, ⟨w0, w1⟩⟩ := ht
  obtain ⟨ρ', s', e, d', rfl, rfl⟩ := forK_inv (Φ := Φ) (n := n) (t := .n 3) (b := [(.ite (.or (.cmp .lt (.var 3) (.cst (.int 0))) (.cmp .ge (.var 3) (.cst (.int 1000000000000)))) [.no] [])])
    (fun _ ρ s' => ∃ d', ρ = [a, b, c, d'] ∧ s' = s) [.int t.n, .int t.e, .int t.s, .int t.w] 0 [a, b, c, d] s ⟨d, rfl, rfl⟩ fun j x ρ s1 hj ⟨d', hρ, hs⟩ => by
      subst hρ hs
      have key : ∃ i : Int, x = .int i ∧ 0 ≤ i ∧ i < 1000000000000 := by
        match j, hj with
        | 0, h => cases h; exact ⟨_, rfl, n0, n1⟩
        | 1, h => cases h; exact ⟨_, rfl, e0, e1⟩
        | 2, h => cases h; exact ⟨_, rfl, s0, by assumption⟩
        | 3, h => cases h; exact ⟨_, rfl, w0, w1⟩
        | n + 4, h => simp at h
      obtain ⟨i, rfl, i0, i1⟩ := key
      refine ⟨_, [a, b, c, some (.d (.int i))], s1, rfl, .inl ?_, _, rfl, rfl⟩
      have z0 : ¬ i < 0 := by omega
      have z1 : ¬ 1000000000000 ≤ i := by omega
      simp [z0, z1]
  exact ⟨d', e⟩
theorem tinit_ok {Φ : Phi} (n : Nat) (hh : Φ.has 2 3 = true) : MkTiles (.p 1 (gI 2 Φ n B_Tinit 4)) := fun ts s h0 h1 ht => by
  have lp := forK_inv (Φ := Φ) (n := n) (t := .n 2) (b := [(.for (.n 3) (.seq (.idx (.var 1) (.var 2))) [(.ite (.or (.cmp .lt (.var 3) (.cst (.int 0))) (.cmp .ge (.var 3) (.cst (.int 1000000000000)))) [.no] [])])])
    (fun _ ρ s' => ∃ c d, ρ = [some (.h 0), some (.d (rowsD ts)), c, d] ∧ s' = [.ins 2 []]) (upTo 0 ts.length) 0 [some (.h 0), some (.d (rowsD ts)), none, none] [.ins 2 []] ⟨none, none, rfl, rfl⟩ fun j x ρ s1 hj ⟨c, d, hρ, hs⟩ => by
      subst hρ hs
      obtain ⟨rfl, hjl⟩ := upTo_get _ _ _ _ hj
      have ha : atD (ts.map Tile.d) (j : Int) = some ts[j].d := atD_nat (by omega) (by
        rw [Int.toNat_natCast, List.getElem?_map, List.getElem?_eq_getElem hjl]; rfl)
      obtain ⟨d', e⟩ := inner_loop (Φ := Φ) (n := n) (ht ts[j] (List.getElem_mem hjl)) (a := some (.h 0)) (b := some (.d (rowsD ts))) (c := some (.d (.int (j : Int)))) (d := d) (s := [.ins 2 []])
      refine ⟨_, [some (.h 0), some (.d (rowsD ts)), some (.d (.int (j : Int))), d'], [.ins 2 []], rfl, .inl ?_, _, _, rfl, rfl⟩
      simp [ha, Tile.d, frzR, e]
  obtain ⟨ρ', s', e, c, d, rfl, rfl⟩ := lp
  have z0 : ¬ (ts.length : Int) < 1 := by omega
  have z1 : ¬ 200 < (ts.length : Int) := by omega
  have hsm : smallI (ts.length : Int) = true := smallI_len (Nat.le_trans h1 (by decide))
  have g : gI 2 Φ n B_Tinit 4 [.d (rowsD ts)] = some (.ok [(3, rowsD ts)]) := by
    simp only [gI, B_Tinit, startE]
    simp [seeAll, z0, z1, hsm, e, setFW, hh, endI, fldsD, putN]
  simp [mkF, viewAll, view, g]
def TilesM (φ : Fs) : Prop := ∀ (ts : List Tile) (s : List Cell), callF φ [setW ts] s = .ok (.d (rowsD ts)) s
theorem ttiles_ok (Φ : Phi) (n : Nat) : TilesM (.p 1 (gP Φ n B_Ttiles 1)) := fun ts s => by
  refine callP rfl (vs := [setW ts]) rfl ?_
  simp only [gP, B_Ttiles, startE]
  simp [fldW, getN, endP, finP]
/-! ### turned, mirrored -/
def B_turned : List S := [(.ret (.mk 2 (.cons (.fr (.comp (.seq (.meth (.var 0) 0 .nil)) (.n 1) [1] .none (.tup (.cons (.idx (.var 1) (.cst (.int 1))) (.cons (.idx (.var 1) (.cst (.int 2))) (.cons (.idx (.var 1) (.cst (.int 3))) (.cons (.idx (.var 1) (.cst (.int 0))) .nil))))))) .nil)))]
def B_mirrored : List S := [(.ret (.mk 2 (.cons (.fr (.comp (.seq (.meth (.var 0) 0 .nil)) (.n 1) [1] .none (.tup (.cons (.idx (.var 1) (.cst (.int 0))) (.cons (.idx (.var 1) (.cst (.int 3))) (.cons (.idx (.var 1) (.cst (.int 2))) (.cons (.idx (.var 1) (.cst (.int 1))) .nil))))))) .nil)))]
def Tile.turn (t : Tile) : Tile := ⟨t.e, t.s, t.w, t.n⟩
def Tile.mirr (t : Tile) : Tile := ⟨t.n, t.w, t.s, t.e⟩
def MapSet (φ : Fs) (f : Tile → Tile) : Prop := ∀ (ts : List Tile) (s : List Cell), 1 ≤ ts.length → ts.length ≤ 200 → (∀ t ∈ ts, t.ok) → callF φ [setW ts] s = .ok (setW (ts.map f)) s
theorem len_sz {n : Nat} (h : n ≤ 200) : n < sizeLine := Nat.lt_of_le_of_lt h (by decide)
theorem set_map {Φ : Phi} {ψ : Ms} {μ : Fs} {n : Nat} {b : List S} {a : E} {f : Tile → Tile} (hb : b = [(.ret (.mk 2 (.cons (.fr (.comp (.seq (.meth (.var 0) 0 .nil)) (.n 1) [1] .none a)) .nil)))]) (hψ : Φ.cl 2 = some ψ) (K : MkTiles ψ) (hμ : Φ.mt 2 0 = some μ) (M : TilesM μ)
    (hf : ∀ t : Tile, t.ok → (f t).ok) (ha : ∀ (t : Tile) (w : Option W) (s : List Cell), runE Φ a [w, some (.d t.d)] s = .ok (.d (f t).d) s) : MapSet (.p 1 (gP Φ n b 2)) f := fun ts s h0 h1 ht => by
  subst hb
  refine callP rfl (vs := [setW ts]) rfl ?_
  let ff : PyData → PyData := fun x => match x with
    | .tuple [.int a, .int b, .int c, .int d] => (f ⟨a, b, c, d⟩).d
    | x => x
  have e1 : (ts.map Tile.d).map ff = (ts.map f).map Tile.d := by
    rw [List.map_map, List.map_map]
    rfl
  have e := compK_ok (Φ := Φ) (tg := .n 1) (own := [1]) (c := .none) (e := a) (ρ := [some (setW ts), none]) (f := ff) (s := []) (items := ts.map Tile.d) (by simpa using len_sz h1) fun x hx => by
    obtain ⟨t, _, rfl⟩ := List.mem_map.mp hx
    unfold turnK
    simp [wipeE, asgT, ha, frzR]
    rfl
  rw [e1] at e
  have eK := K (ts.map f) [] (by simpa using h0) (by simpa using h1) fun t h => by
    obtain ⟨u, hu, rfl⟩ := List.mem_map.mp h
    exact hf u (ht u hu)
  have eM := M ts []
  simp only [gP, startE]
  simp only [setW, rowsD] at e eK eM ⊢
  simp [-List.map_map, hψ, hμ, clsOf, eM, frzR, e, eK, endP, finP]
theorem turned_ok {Φ : Phi} {ψ : Ms} {μ : Fs} (n : Nat) (hψ : Φ.cl 2 = some ψ) (K : MkTiles ψ) (hμ : Φ.mt 2 0 = some μ) (M : TilesM μ) : MapSet (.p 1 (gP Φ n B_turned 2)) Tile.turn :=
  set_map rfl hψ K hμ M (fun t ⟨a, b, c, d⟩ => ⟨b, c, d, a⟩) fun t w s => by
    have sz4 : (4 : Nat) ≤ sizeLine := by decide
    simp [Tile.d, Tile.turn, at4_0, at4_1, at4_2, at4_3, frzsR, frzAll, sz4]
theorem mirrored_ok {Φ : Phi} {ψ : Ms} {μ : Fs} (n : Nat) (hψ : Φ.cl 2 = some ψ) (K : MkTiles ψ) (hμ : Φ.mt 2 0 = some μ) (M : TilesM μ) : MapSet (.p 1 (gP Φ n B_mirrored 2)) Tile.mirr :=
  set_map rfl hψ K hμ M (fun t ⟨a, b, c, d⟩ => ⟨a, d, c, b⟩) fun t w s => by
    have sz4 : (4 : Nat) ≤ sizeLine := by decide
    simp [Tile.d, Tile.mirr, at4_0, at4_1, at4_2, at4_3, frzsR, frzAll, sz4]
end DM

set_option maxRecDepth 100000
/-! K15b: the law turned_and_mirrored, of its run. -/
namespace DM
open PySem
def B_law15 : List S := [(.asg (.n 1) (.th (.call 9 (.cons (.var 0) .nil)))), (.asg (.n 2) (.call 50 (.cons (.var 1) (.cons (.cst (.int 5)) .nil)))), (.asg (.n 3) (.mk 2 (.cons (.var 2) .nil))), (.ite (.not (.call 29 (.cons (.meth (.call 87 (.cons (.var 3) .nil)) 0 .nil) (.cons (.fr (.comp (.seq (.var 2)) (.n 4) [4] .none (.bin .add (.slc (.var 4) (.some (.cst (.int 1))) .none) (.slc (.var 4) .none (.some (.cst (.int 1))))))) .nil)))) [(.ret (.cst (.bool false)))] []), (.ite (.not (.call 29 (.cons (.meth (.call 75 (.cons (.var 3) .nil)) 0 .nil) (.cons (.fr (.comp (.seq (.var 2)) (.n 4) [4] .none (.tup (.cons (.idx (.var 4) (.cst (.int 0))) (.cons (.idx (.var 4) (.cst (.int 3))) (.cons (.idx (.var 4) (.cst (.int 2))) (.cons (.idx (.var 4) (.cst (.int 1))) .nil))))))) .nil)))) [(.ret (.cst (.bool false)))] []), (.ite (.or (.cmp .ne (.meth (.call 87 (.cons (.call 87 (.cons (.call 87 (.cons (.call 87 (.cons (.var 3) .nil)) .nil)) .nil)) .nil)) 0 .nil) (.var 2)) (.cmp .ne (.meth (.call 75 (.cons (.call 75 (.cons (.var 3) .nil)) .nil)) 0 .nil) (.var 2))) [(.ret (.cst (.bool false)))] []), (.ret (.cmp .eq (.meth (.var 3) 0 .nil) (.var 2)))]
theorem b_addT {a b : List PyData} (h : a.length + b.length ≤ sizeLine) : binD .add (.tuple a) (.tuple b) = some (.tuple (a ++ b)) := by
  show (if a.length + b.length ≤ sizeLine then some (PyData.tuple (a ++ b)) else none) = _
  rw [if_pos h]
theorem rows_Nd {ts : List Tile} (h : ts.length ≤ 200) : Nd 2 (rowsD ts) = true := by
  have h4 : (4 : Nat) ≤ sizeLine := by decide
  have hl : ts.length ≤ sizeLine := Nat.le_of_lt (len_sz h)
  simp [Nd, hl, Tile.d, h4]
theorem callF_X {φ : Fs} {ws : List W} {s s' : List Cell} {l : List PyData} (h : callX φ ws s = .ok (.l l) s') : callF φ ws s = .ok (.d (.list l)) s' := by unfold callF; rw [h]; rfl
theorem comp_rows {Φ : Phi} {a : E} {f : Tile → Tile} {ρ : Env} {own : List Nat} {tg : Tg} {s : List Cell} {ts : List Tile} (hl : ts.length ≤ 200) (ha : ∀ t : Tile, turnK Φ tg own .none a ρ t.d s = .ok (some (f t).d) s) : compT Φ tg own .none a ρ (.ok (ts.map Tile.d) s) = .ok ((ts.map f).map Tile.d) s := by
  let ff : PyData → PyData := fun x => match x with
    | .tuple [.int a, .int b, .int c, .int d] => (f ⟨a, b, c, d⟩).d
    | x => x
  have e1 : (ts.map Tile.d).map ff = (ts.map f).map Tile.d := by
    rw [List.map_map, List.map_map]
    rfl
  rw [← e1]
  refine compK_ok (by simpa using len_sz hl) fun x hx => ?_
  obtain ⟨t, _, rfl⟩ := List.mem_map.mp hx
  exact ha t
theorem law15 {Φ : Phi} {φ9 φ50 φ29 φ87 φ75 μ : Fs} {ψ : Ms} (n : Nat) (h9 : Φ.fn 9 = some φ9) (D : DiceOk φ9) (h50 : Φ.fn 50 = some φ50) (Ti : TilesOk φ50) (h29 : Φ.fn 29 = some φ29) (L : LikeOk φ29 2) (h87 : Φ.fn 87 = some φ87) (Tu : MapSet φ87 Tile.turn) (h75 : Φ.fn 75 = some φ75) (Mi : MapSet φ75 Tile.mirr)
    (hμ : Φ.mt 2 0 = some μ) (M : TilesM μ) (hψ : Φ.cl 2 = some ψ) (K : MkTiles ψ) (ns : List Int) (hl : ns.length ≤ 63) : gP Φ n B_law15 5 [.d (.list (ns.map .int))] = some (.ret (.d (.bool true))) := by
  obtain ⟨l, dl, e1⟩ := D ns [] hl
  obtain ⟨ts, c', t0, t1, tk, dc, e2⟩ := Ti [.lst l] 0 (.lst l) 5 dl rfl rfl (by decide) (by decide)
  replace e2 := callF_X e2
  simp only [List.set_cons_zero] at e2
  have t2 : ts.length ≤ 200 := by omega
  have sz4 : (4 : Nat) ≤ sizeLine := by decide
  have tuk : ∀ ts : List Tile, (∀ t ∈ ts, t.ok) → ∀ t ∈ ts.map Tile.turn, t.ok := fun ts h t ht => by
    obtain ⟨u, hu, rfl⟩ := List.mem_map.mp ht
    obtain ⟨a, b, c, d⟩ := h u hu
    exact ⟨b, c, d, a⟩
  have mik : ∀ ts : List Tile, (∀ t ∈ ts, t.ok) → ∀ t ∈ ts.map Tile.mirr, t.ok := fun ts h t ht => by
    obtain ⟨u, hu, rfl⟩ := List.mem_map.mp ht
    obtain ⟨a, b, c, d⟩ := h u hu
    exact ⟨a, d, c, b⟩
  have eK := K ts [c'] t0 t2 tk
  have u1 := Tu ts [c'] t0 t2 tk
  have u2 := Tu (ts.map Tile.turn) [c'] (by simpa using t0) (by simpa using t2) (tuk _ tk)
  have u3 := Tu ((ts.map Tile.turn).map Tile.turn) [c'] (by simpa using t0) (by simpa using t2) (tuk _ (tuk _ tk))
  have u4 := Tu (((ts.map Tile.turn).map Tile.turn).map Tile.turn) [c'] (by simpa using t0) (by simpa using t2) (tuk _ (tuk _ (tuk _ tk)))
  have f4 : (((ts.map Tile.turn).map Tile.turn).map Tile.turn).map Tile.turn = ts := by
    simp only [List.map_map]
    exact List.map_id'' (fun t => rfl) ts
  rw [f4] at u4
  have v1 := Mi ts [c'] t0 t2 tk
  have v2 := Mi (ts.map Tile.mirr) [c'] (by simpa using t0) (by simpa using t2) (mik _ tk)
  have f2 : (ts.map Tile.mirr).map Tile.mirr = ts := by
    simp only [List.map_map]
    exact List.map_id'' (fun t => rfl) ts
  rw [f2] at v2
  have m0 := M ts [c']
  have m1 := M (ts.map Tile.turn) [c']
  have m2 := M (ts.map Tile.mirr) [c']
  have l1 := L (rowsD (ts.map Tile.turn)) [c'] (rows_Nd (by simpa using t2))
  have l2 := L (rowsD (ts.map Tile.mirr)) [c'] (rows_Nd (by simpa using t2))
  have q1 := c_ne_self (by decide) (rows_Nd t2)
  have q2 := c_eq_self (by decide) (rows_Nd t2)
  have k1 : compT Φ (.n 4) [4] .none (.bin .add (.slc (.var 4) (.some (.cst (.int 1))) .none) (.slc (.var 4) .none (.some (.cst (.int 1))))) [some (.d (.list (ns.map .int))), some (.h 0), some (.d (rowsD ts)), some (setW ts), none] (.ok (ts.map Tile.d) [c']) = .ok ((ts.map Tile.turn).map Tile.d) [c'] := comp_rows t2 fun t => by
    have a1 : cut [PyData.int t.n, .int t.e, .int t.s, .int t.w] (some 1) none = [.int t.e, .int t.s, .int t.w] := rfl
    have a2 : cut [PyData.int t.n, .int t.e, .int t.s, .int t.w] none (some 1) = [.int t.n] := rfl
    have a3 : binD .add (.tuple [.int t.e, .int t.s, .int t.w]) (.tuple [.int t.n]) = some (.tuple [.int t.e, .int t.s, .int t.w, .int t.n]) := b_addT sz4
    show turnK Φ (.n 4) [4] .none (.bin .add (.slc (.var 4) (.some (.cst (.int 1))) .none) (.slc (.var 4) .none (.some (.cst (.int 1))))) [some (.d (.list (ns.map .int))), some (.h 0), some (.d (rowsD ts)), some (setW ts), none] t.d [c'] = _
    unfold turnK
    simp [wipeE, asgT, Tile.d, a1, a2, a3, frzR, Tile.turn]
  have k2 : compT Φ (.n 4) [4] .none (.tup (.cons (.idx (.var 4) (.cst (.int 0))) (.cons (.idx (.var 4) (.cst (.int 3))) (.cons (.idx (.var 4) (.cst (.int 2))) (.cons (.idx (.var 4) (.cst (.int 1))) .nil))))) [some (.d (.list (ns.map .int))), some (.h 0), some (.d (rowsD ts)), some (setW ts), none] (.ok (ts.map Tile.d) [c']) = .ok ((ts.map Tile.mirr).map Tile.d) [c'] := comp_rows t2 fun t => by
    unfold turnK
    simp [wipeE, asgT, Tile.d, at4_0, at4_1, at4_2, at4_3, frzsR, frzAll, sz4, frzR, Tile.mirr]
  simp only [gP, B_law15, startE]
  simp only [setW, rowsD] at *
  simp [-List.map_map, h9, e1, h50, asgT, e2, hψ, eK, h87, u1, hμ, clsOf, m1, frzR, k1, h29, l1, h75, v1, m2, k2, l2, u2, u3, u4, m0, q1, v2, q2, endP, finP]
end DM

set_option maxRecDepth 100000
/-! L5: the law's own trying: sizes, fits, layings. -/
namespace DM
open PySem
def Tile.z : Tile := ⟨0, 0, 0, 0⟩
/-- the tile with a number -/
def tl (ts : List Tile) (i : Nat) : Tile := ts.getD i Tile.z
/-- the number at a place -/
def gN (r : List Nat) (j : Nat) : Nat := r.getD j 0
def rowD (r : List Nat) : PyData := .tuple (r.map fun (i : Nat) => PyData.int (i : Int))
theorem at_rows {ts : List Tile} {i : Nat} (h : i < ts.length) : atD (ts.map Tile.d) (i : Int) = some (tl ts i).d := by
  refine atD_nat (by omega) ?_
  rw [Int.toNat_natCast, List.getElem?_map, List.getElem?_eq_getElem h]
  unfold tl
  rw [List.getD_eq_getElem?_getD, List.getElem?_eq_getElem h]
  rfl
theorem at_row {r : List Nat} {j : Nat} (h : j < r.length) : atD (r.map fun (i : Nat) => PyData.int (i : Int)) (j : Int) = some (.int (gN r j : Nat)) := by
  refine atD_nat (by omega) ?_
  unfold gN
  rw [Int.toNat_natCast, List.getElem?_map, List.getElem?_eq_getElem h, List.getD_eq_getElem?_getD, List.getElem?_eq_getElem h]
  rfl
theorem getD_lt {r : List Nat} {n j : Nat} (hr : ∀ i ∈ r, i < n) (h : j < r.length) : gN r j < n := by
  unfold gN
  rw [List.getD_eq_getElem?_getD, List.getElem?_eq_getElem h]
  exact hr _ (List.getElem_mem h)
/-! ### fits -/
def fitsB (ts : List Tile) (w : Nat) (row : List Nat) (t : Nat) : Bool :=
  (decide (row.length % w = 0) || decide ((tl ts (gN row (row.length - 1))).e = (tl ts t).w)) && (decide (row.length < w) || decide ((tl ts (gN row (row.length - w))).s = (tl ts t).n))
def B_fits : List S := [(.asg (.n 4) (.bi .len (.cons (.var 2) .nil))), (.ite (.and (.cmp .gt (.bin .mod (.var 4) (.var 1)) (.cst (.int 0))) (.cmp .ne (.idx (.idx (.var 0) (.idx (.var 2) (.bin .sub (.var 4) (.cst (.int 1))))) (.cst (.int 1))) (.idx (.idx (.var 0) (.var 3)) (.cst (.int 3))))) [(.ret (.cst (.bool false)))] []), (.ret (.or (.cmp .lt (.var 4) (.var 1)) (.cmp .eq (.idx (.idx (.var 0) (.idx (.var 2) (.bin .sub (.var 4) (.var 1)))) (.cst (.int 2))) (.idx (.idx (.var 0) (.var 3)) (.cst (.int 0))))))]
def FitsOk (φ : Fs) : Prop := ∀ (ts : List Tile) (w : Nat) (row : List Nat) (t : Nat) (s : List Cell), 0 < w → (∀ i ∈ row, i < ts.length) → t < ts.length → callF φ [.d (rowsD ts), .d (.int w), .d (rowD row), .d (.int t)] s = .ok (.d (.bool (fitsB ts w row t))) s
theorem fits_ok (Φ : Phi) (n : Nat) : FitsOk (.p 4 (gP Φ n B_fits 5)) := fun ts w row t s hw hr ht => by
  refine callP rfl (vs := [.d (rowsD ts), .d (.int w), .d (rowD row), .d (.int t)]) rfl ?_
  have hwi : (0 : Int) < (w : Int) := by omega
  have eT := at_rows ht
  have key2 : runB Φ n [(.ret (.or (.cmp .lt (.var 4) (.var 1)) (.cmp .eq (.idx (.idx (.var 0) (.idx (.var 2) (.bin .sub (.var 4) (.var 1)))) (.cst (.int 2))) (.idx (.idx (.var 0) (.var 3)) (.cst (.int 0))))))] [some (.d (rowsD ts)), some (.d (.int w)), some (.d (rowD row)), some (.d (.int t)), some (.d (.int row.length))] [] =
      .ok (.ret (.d (.bool (decide (row.length < w) || decide ((tl ts (gN row (row.length - w))).s = (tl ts t).n)))), [some (.d (rowsD ts)), some (.d (.int w)), some (.d (rowD row)), some (.d (.int t)), some (.d (.int row.length))]) [] := by
    by_cases hlt : row.length < w
    · have : (row.length : Int) < w := by omega
      simp [hlt, this]
    · have h1 : ¬ (row.length : Int) < w := by omega
      have hj : row.length - w < row.length := by omega
      have e0 : ((row.length : Int) - (w : Int)) = ((row.length - w : Nat) : Int) := by omega
      have e1 := at_row hj
      have e2 := at_rows (getD_lt hr hj)
      simp only [rowD, rowsD]
      simp [-List.map_map, hlt, h1, e0, e1, e2, eT, at4_0, at4_2, Tile.d]
  by_cases hm : row.length % w = 0
  · have hm' : ((row.length : Int) % (w : Int)) = 0 := by exact_mod_cast hm
    have e : gP Φ n B_fits 5 [.d (rowsD ts), .d (.int w), .d (rowD row), .d (.int t)] = endP (runB Φ n [(.ret (.or (.cmp .lt (.var 4) (.var 1)) (.cmp .eq (.idx (.idx (.var 0) (.idx (.var 2) (.bin .sub (.var 4) (.var 1)))) (.cst (.int 2))) (.idx (.idx (.var 0) (.var 3)) (.cst (.int 0))))))] [some (.d (rowsD ts)), some (.d (.int w)), some (.d (rowD row)), some (.d (.int t)), some (.d (.int row.length))] []) := by
      simp only [gP, B_fits, startE, rowD, rowsD]
      simp [-List.map_map, seeAll, b_mod hwi, hm', asgT]
    rw [e, key2]
    simp [endP, finP, fitsB, hm]
  · have hm' : 0 < ((row.length : Int) % (w : Int)) := by
      have : ((row.length % w : Nat) : Int) = (row.length : Int) % (w : Int) := by push_cast; rfl
      omega
    have hp : 0 < row.length := by
      rcases Nat.eq_zero_or_pos row.length with h | h
      · rw [h] at hm; simp at hm
      · exact h
    have hj : row.length - 1 < row.length := by omega
    have e0 : ((row.length : Int) - 1) = ((row.length - 1 : Nat) : Int) := by omega
    have e1 := at_row hj
    have e2 := at_rows (getD_lt hr hj)
    by_cases hc : (tl ts (gN row (row.length - 1))).e = (tl ts t).w
    · have e : gP Φ n B_fits 5 [.d (rowsD ts), .d (.int w), .d (rowD row), .d (.int t)] = endP (runB Φ n [(.ret (.or (.cmp .lt (.var 4) (.var 1)) (.cmp .eq (.idx (.idx (.var 0) (.idx (.var 2) (.bin .sub (.var 4) (.var 1)))) (.cst (.int 2))) (.idx (.idx (.var 0) (.var 3)) (.cst (.int 0))))))] [some (.d (rowsD ts)), some (.d (.int w)), some (.d (rowD row)), some (.d (.int t)), some (.d (.int row.length))] []) := by
        simp only [gP, B_fits, startE, rowD, rowsD]
        simp [-List.map_map, seeAll, b_mod hwi, hm', asgT, e0, e1, e2, eT, at4_1, at4_3, Tile.d, hc]
      rw [e, key2]
      simp [endP, finP, fitsB, hc]
    · simp only [gP, B_fits, startE, rowD, rowsD]
      simp [-List.map_map, seeAll, b_mod hwi, hm', asgT, e0, e1, e2, eT, at4_1, at4_3, Tile.d, hc, endP, finP, fitsB, hm]
/-! ### size -/
def B_ways : List S := [(.asg (.n 5) (.bin .mul (.var 5) (.var 1)))]
def B_sizeW : List S := [(.asg (.n 5) (.cst (.int 1))), (.for (.n 6) (.rng1 (.bin .mul (.var 3) (.var 4))) [(.asg (.n 5) (.bin .mul (.var 5) (.var 1)))]), (.ite (.cmp .le (.var 5) (.var 2)) [(.ret (.tup (.cons (.var 3) (.cons (.var 4) .nil))))] []), (.ite (.cmp .ge (.var 4) (.var 3)) [(.asg (.n 4) (.bin .sub (.var 4) (.cst (.int 1))))] [(.asg (.n 3) (.bin .sub (.var 3) (.cst (.int 1))))])]
def B_size : List S := [(.asg (.n 3) (.bin .add (.cst (.int 1)) (.call 34 (.cons (.var 0) (.cons (.cst (.int 4)) .nil))))), (.asg (.n 4) (.bin .add (.cst (.int 1)) (.call 34 (.cons (.var 0) (.cons (.cst (.int 4)) .nil))))), (.while (.cst (.bool true)) [(.asg (.n 5) (.cst (.int 1))), (.for (.n 6) (.rng1 (.bin .mul (.var 3) (.var 4))) [(.asg (.n 5) (.bin .mul (.var 5) (.var 1)))]), (.ite (.cmp .le (.var 5) (.var 2)) [(.ret (.tup (.cons (.var 3) (.cons (.var 4) .nil))))] []), (.ite (.cmp .ge (.var 4) (.var 3)) [(.asg (.n 4) (.bin .sub (.var 4) (.cst (.int 1))))] [(.asg (.n 3) (.bin .sub (.var 3) (.cst (.int 1))))])])]
theorem ways_step {Φ : Phi} {n : Nat} {a b h w : Option W} {m p : Int} {x : PyData} {s1 : List Cell} (hmul : ∀ i : Int, mulOk i m = true) : runB Φ n [(.asg (.n 5) (.bin .mul (.var 5) (.var 1)))] [a, some (.d (.int m)), b, h, w, some (.d (.int p)), some (.d x)] s1 = .ok (.nx, [a, some (.d (.int m)), b, h, w, some (.d (.int (p * m))), some (.d x)]) s1 := by
  simp [b_mul (hmul _), asgT]
theorem ways_loop {Φ : Phi} {n : Nat} {a b h w o : Option W} {m : Nat} (hm : m ≤ 1000) (k : Nat) (s : List Cell) : ∃ (o' : Option W) (p : Nat), p = m ^ k ∧ forK Φ n (.n 6) [(.asg (.n 5) (.bin .mul (.var 5) (.var 1)))] (upTo 0 k) [a, some (.d (.int m)), b, h, w, some (.d (.int 1)), o] s = .ok (.nx, [a, some (.d (.int m)), b, h, w, some (.d (.int p)), o']) s := by
  have hmul : ∀ i : Int, mulOk i (m : Int) = true := fun i => mulR i ⟨by omega, by omega⟩
  obtain ⟨ρ', s', e, o', p, hp, rfl, rfl⟩ := forK_inv (Φ := Φ) (n := n) (t := .n 6) (b := [(.asg (.n 5) (.bin .mul (.var 5) (.var 1)))])
    (fun q ρ s' => ∃ (o' : Option W) (p : Nat), p = m ^ q ∧ ρ = [a, some (.d (.int m)), b, h, w, some (.d (.int p)), o'] ∧ s' = s) (upTo 0 k) 0 [a, some (.d (.int m)), b, h, w, some (.d (.int 1)), o] s ⟨o, 1, by simp, rfl, rfl⟩ fun j x ρ s1 hj ⟨o', p, hp, hρ, hs⟩ => by
      subst hρ hs
      refine ⟨_, [a, some (.d (.int m)), b, h, w, some (.d (.int ((p * m : Nat) : Int))), some (.d x)], s1, rfl, .inl ?_, some (.d x), p * m, by rw [hp, ← Nat.pow_succ], rfl, rfl⟩
      have : ((p * m : Nat) : Int) = (p : Int) * (m : Int) := Int.natCast_mul p m
      rw [this]
      exact ways_step hmul
  rw [upTo_len, Nat.zero_add] at hp
  exact ⟨o', p, hp, e⟩
def SizeOk (φ : Fs) : Prop := ∀ (s : List Cell) (i : Nat) (c : Cell) (m M : Nat), OkDice c → s[i]? = some c → closedS s.length s = true → 1 ≤ m → m ≤ 1000 → m ≤ M →
  ∃ (h w : Nat) (c' : Cell), 1 ≤ h ∧ h ≤ 4 ∧ 1 ≤ w ∧ w ≤ 4 ∧ m ^ (h * w) ≤ M ∧ OkDice c' ∧ callF φ [.h i, .d (.int m), .d (.int M)] s = .ok (.d (.tuple [.int h, .int w])) (s.set i c')
section
variable {Φ : Phi} {n : Nat} {a o5 o6 o' : Option W} {m M h w p : Int} {k : Nat} {s : List Cell} (hmul : mulOk h w = true) (hsm : smallI (h * w) = true) (hk : (h * w).toNat = k)
  (e : forK Φ n (.n 6) [(.asg (.n 5) (.bin .mul (.var 5) (.var 1)))] (upTo 0 k) [a, some (.d (.int m)), some (.d (.int M)), some (.d (.int h)), some (.d (.int w)), some (.d (.int 1)), o6] s = .ok (.nx, [a, some (.d (.int m)), some (.d (.int M)), some (.d (.int h)), some (.d (.int w)), some (.d (.int p)), o']) s)
include hmul hsm hk e
theorem size_b1 (hle : p ≤ M) : runB Φ n B_sizeW [a, some (.d (.int m)), some (.d (.int M)), some (.d (.int h)), some (.d (.int w)), o5, o6] s = .ok (.ret (.d (.tuple [.int h, .int w])), [a, some (.d (.int m)), some (.d (.int M)), some (.d (.int h)), some (.d (.int w)), some (.d (.int p)), o']) s := by
  have sz2 : (2 : Nat) ≤ sizeLine := by decide
  simp [B_sizeW, asgT, b_mul hmul, hsm, hk, e, hle, frzsR, frzAll, sz2]
theorem size_b2 (hle : ¬ p ≤ M) (hw : h ≤ w) : runB Φ n B_sizeW [a, some (.d (.int m)), some (.d (.int M)), some (.d (.int h)), some (.d (.int w)), o5, o6] s = .ok (.nx, [a, some (.d (.int m)), some (.d (.int M)), some (.d (.int h)), some (.d (.int (w - 1))), some (.d (.int p)), o']) s := by
  simp [B_sizeW, asgT, b_mul hmul, hsm, hk, e, hle, hw]
theorem size_b3 (hle : ¬ p ≤ M) (hw : ¬ h ≤ w) : runB Φ n B_sizeW [a, some (.d (.int m)), some (.d (.int M)), some (.d (.int h)), some (.d (.int w)), o5, o6] s = .ok (.nx, [a, some (.d (.int m)), some (.d (.int M)), some (.d (.int (h - 1))), some (.d (.int w)), some (.d (.int p)), o']) s := by
  simp [B_sizeW, asgT, b_mul hmul, hsm, hk, e, hle, hw]
end
theorem whileT {Φ : Phi} {n : Nat} {b : List S} {m : Nat} {ρ : Env} {s : List Cell} : whileK Φ n (.cst (.bool true)) b (m + 1) ρ s = R.lp (runB Φ n b ρ s) (whileK Φ n (.cst (.bool true)) b m) := Eq.trans rfl rfl
theorem size_while {Φ : Phi} {n : Nat} {a : Option W} {m M : Nat} {s : List Cell} (h0 : 1 ≤ m) (hm : m ≤ 1000) (hM : m ≤ M) : ∀ (f h w : Nat) (o5 o6 : Option W), 1 ≤ h → 1 ≤ w → h ≤ 4 → w ≤ 4 → h + w ≤ f + 1 →
    ∃ (h' w' : Nat) (ρ' : Env), 1 ≤ h' ∧ h' ≤ 4 ∧ 1 ≤ w' ∧ w' ≤ 4 ∧ m ^ (h' * w') ≤ M ∧ whileK Φ n (.cst (.bool true)) B_sizeW f [a, some (.d (.int m)), some (.d (.int M)), some (.d (.int h)), some (.d (.int w)), o5, o6] s = .ok (.ret (.d (.tuple [.int h', .int w'])), ρ') s := by
  intro f
  induction f with
  | zero => intro h w o5 o6 h1 w1 h4 w4 hf; omega
  | succ f ih =>
    intro h w o5 o6 h1 w1 h4 w4 hf
    obtain ⟨o', p, hp, e⟩ := ways_loop (Φ := Φ) (n := n) (a := a) (b := some (.d (.int M))) (h := some (.d (.int h))) (w := some (.d (.int w))) (o := o6) hm (h * w) s
    have e1 : ((h : Int) * (w : Int)) = ((h * w : Nat) : Int) := (Int.natCast_mul h w).symm
    have hsm : smallI ((h : Int) * (w : Int)) = true := by
      have : h * w ≤ 4 * 4 := Nat.mul_le_mul h4 w4
      rw [e1]
      exact smallI_len (Nat.le_trans this (by decide))
    have hmul : mulOk (h : Int) (w : Int) = true := mulR _ ⟨by omega, by omega⟩
    have etn : ((h : Int) * (w : Int)).toNat = h * w := by rw [e1, Int.toNat_natCast]
    rw [whileT]
    by_cases hle : p ≤ M
    · refine ⟨h, w, [a, some (.d (.int m)), some (.d (.int M)), some (.d (.int h)), some (.d (.int w)), some (.d (.int (p : Int))), o'], h1, h4, w1, w4, by rw [← hp]; exact hle, ?_⟩
      rw [size_b1 hmul hsm etn e (by exact_mod_cast hle)]
      rfl
    · have hle' : ¬ (p : Int) ≤ (M : Int) := by exact_mod_cast hle
      have nn : ¬ (h = 1 ∧ w = 1) := by rintro ⟨rfl, rfl⟩; simp at hp; omega
      by_cases hwh : h ≤ w
      · obtain ⟨h', w', ρ', a1, a2, a3, a4, a5, a6⟩ := ih h (w - 1) (some (.d (.int (p : Int)))) o' h1 (by omega) h4 (by omega) (by omega)
        refine ⟨h', w', ρ', a1, a2, a3, a4, a5, ?_⟩
        have ew : ((w - 1 : Nat) : Int) = (w : Int) - 1 := by omega
        rw [ew] at a6
        rw [size_b2 hmul hsm etn e hle' (by omega), R.lp_nx]
        exact a6
      · obtain ⟨h', w', ρ', a1, a2, a3, a4, a5, a6⟩ := ih (h - 1) w (some (.d (.int (p : Int)))) o' (by omega) w1 (by omega) w4 (by omega)
        refine ⟨h', w', ρ', a1, a2, a3, a4, a5, ?_⟩
        have ew : ((h - 1 : Nat) : Int) = (h : Int) - 1 := by omega
        rw [ew] at a6
        rw [size_b3 hmul hsm etn e hle' (by omega), R.lp_nx]
        exact a6
theorem size_ok {Φ : Phi} {φ : Fs} (hφ : Φ.fn 34 = some φ) (N : NextOk φ) : SizeOk (.m 3 (gM Φ 9 B_size 7 0)) := fun s i c m M hd h hs m0 m1 mM => by
  obtain ⟨r1, c1, a0, a1, d1, e1⟩ := N s i c 4 hd h hs (by decide) (by decide)
  have h1 := get_set (c' := c1) h
  have hs1 := closed_dice (i := i) hs d1
  obtain ⟨r2, c2, b0, b1, d2, e2⟩ := N _ i c1 4 d1 h1 hs1 (by decide) (by decide)
  rw [List.set_set] at e2
  have hc2 : closedS s.length (s.set i c2) = true := by have := closed_dice (i := i) hs d2; rwa [List.length_set] at this
  obtain ⟨h', w', ρ', p1, p2, p3, p4, p5, p6⟩ := size_while (Φ := Φ) (n := 9) (a := some (.h i)) (s := s.set i c2) m0 m1 mM 9 (1 + r1).toNat (1 + r2).toNat none none (by omega) (by omega) (by omega) (by omega) (by omega)
  have q1 : ((1 + r1).toNat : Int) = 1 + r1 := by omega
  have q2 : ((1 + r2).toNat : Int) = 1 + r2 := by omega
  rw [q1, q2] at p6
  refine ⟨h', w', c2, p1, p2, p3, p4, p5, d2, ?_⟩
  show ((if 3 = 3 then gM Φ 9 B_size 7 0 [.h i, .d (.int m), .d (.int M)] s else .no) : R Rv).bind rvW = _
  rw [if_pos rfl]
  unfold B_sizeW at p6
  simp only [gM, B_size, startE]
  simp [hφ, e1, e2, asgT, p6, endM, finM, hc2, List.take_of_length_le, rvW]
end DM

set_option maxRecDepth 100000
/-! L6: the law's own layings. -/
namespace DM
open PySem
theorem upTo_map : ∀ (n : Nat) (lo : Int), upTo lo n = (List.range n).map fun (i : Nat) => PyData.int (lo + (i : Int))
  | 0, _ => rfl
  | n + 1, lo => by
    rw [List.range_succ_eq_map, List.map_cons, List.map_map]
    show PyData.int lo :: upTo (lo + 1) n = _
    rw [upTo_map n (lo + 1)]
    congr 1
    · congr 1; simp
    · apply List.map_congr_left
      intro i _
      show PyData.int (lo + 1 + (i : Int)) = PyData.int (lo + ((i + 1 : Nat) : Int))
      congr 1
      omega
theorem upTo_range (n : Nat) : upTo 0 n = (List.range n).map fun (i : Nat) => PyData.int (i : Int) := by
  rw [upTo_map]
  apply List.map_congr_left
  intro i _
  rw [Int.zero_add]
/-- a comprehension with a test, over anything coded -/
theorem compK_fm {β : Type} {Φ : Phi} {tg : Tg} {own : List Nat} {c : Oe} {e : E} {ρ : Env} {d : β → PyData} {p : β → Bool} {f : β → PyData} {s : List Cell} : ∀ items : List β, (∀ x ∈ items, turnK Φ tg own c e ρ (d x) s = .ok (if p x then some (f x) else none) s) → compK Φ tg own c e ρ (items.map d) s = .ok ((items.filter p).map f) s
  | [], _ => rfl
  | x :: xs, h => by
    have e1 := h x List.mem_cons_self
    have e2 := compK_fm xs fun y hy => h y (List.mem_cons_of_mem _ hy)
    show (match turnK Φ tg own c e ρ (d x) s with
      | .ok y s => (compK Φ tg own c e ρ (xs.map d) s).bind fun ys s => match y with | some y => R.ok (y :: ys) s | none => R.ok ys s
      | _ => R.no) = _
    rw [e1]
    cases hp : p x with
    | true => simp only [hp, if_true, e2, R.bind_ok, List.filter_cons, List.map_cons]
    | false => simp only [hp, e2, R.bind_ok, List.filter_cons]; rfl
theorem compT_fm {β : Type} {Φ : Phi} {tg : Tg} {own : List Nat} {c : Oe} {e : E} {ρ : Env} {d : β → PyData} {p : β → Bool} {f : β → PyData} {s : List Cell} {items : List β} (hl : items.length < sizeLine) (h : ∀ x ∈ items, turnK Φ tg own c e ρ (d x) s = .ok (if p x then some (f x) else none) s) : compT Φ tg own c e ρ (.ok (items.map d) s) = .ok ((items.filter p).map f) s := by
  rw [compT_ok1 _ _ _ _ _ _ _ _ (by simpa using hl)]; exact compK_fm items h
theorem compT_mp {β : Type} {Φ : Phi} {tg : Tg} {own : List Nat} {c : Oe} {e : E} {ρ : Env} {d : β → PyData} {f : β → PyData} {s : List Cell} {items : List β} (hl : items.length < sizeLine) (h : ∀ x ∈ items, turnK Φ tg own c e ρ (d x) s = .ok (some (f x)) s) : compT Φ tg own c e ρ (.ok (items.map d) s) = .ok (items.map f) s := by
  have := compT_fm (p := fun _ => true) hl fun x hx => by rw [h x hx]; rfl
  rw [this, List.filter_eq_self.mpr (fun _ _ => rfl)]
/-! ### the mirror -/
def extF (ts : List Tile) (w : Nat) (row : List Nat) : List (List Nat) := ((List.range ts.length).filter (fitsB ts w row)).map fun t => row ++ [t]
def layF (ts : List Tile) (w : Nat) : Nat → List (List Nat)
  | 0 => [[]]
  | k + 1 => (layF ts w k).flatMap (extF ts w)
theorem extF_mem {ts : List Tile} {w : Nat} {row r : List Nat} (h : r ∈ extF ts w row) : ∃ t, t < ts.length ∧ fitsB ts w row t = true ∧ r = row ++ [t] := by
  unfold extF at h
  obtain ⟨t, ht, rfl⟩ := List.mem_map.mp h
  rw [List.mem_filter, List.mem_range] at ht
  exact ⟨t, ht.1, ht.2, rfl⟩
theorem extF_len (ts : List Tile) (w : Nat) (row : List Nat) : (extF ts w row).length ≤ ts.length := by
  unfold extF
  rw [List.length_map]
  exact Nat.le_trans (List.length_filter_le _ _) (by simp)
theorem layF_mem {ts : List Tile} {w : Nat} : ∀ {k : Nat} {r : List Nat}, r ∈ layF ts w k → r.length = k ∧ ∀ i ∈ r, i < ts.length
  | 0, r, h => by
    simp [layF] at h
    subst h
    exact ⟨rfl, fun i hi => by cases hi⟩
  | k + 1, r, h => by
    unfold layF at h
    obtain ⟨row, h1, h2⟩ := List.mem_flatMap.mp h
    obtain ⟨l1, l2⟩ := layF_mem h1
    obtain ⟨t, ht, _, rfl⟩ := extF_mem h2
    refine ⟨by simp [l1], fun i hi => ?_⟩
    rcases List.mem_append.mp hi with hi | hi
    · exact l2 i hi
    · rw [List.mem_singleton] at hi; subst hi; exact ht
theorem flat_len {ts : List Tile} {w : Nat} : ∀ l : List (List Nat), (l.flatMap (extF ts w)).length ≤ l.length * ts.length
  | [] => by simp
  | r :: l => by
    rw [List.flatMap_cons, List.length_append, List.length_cons, Nat.succ_mul]
    have := flat_len (ts := ts) (w := w) l
    have := extF_len ts w r
    omega
theorem layF_len (ts : List Tile) (w : Nat) : ∀ k : Nat, (layF ts w k).length ≤ ts.length ^ k
  | 0 => by simp [layF]
  | k + 1 => by
    unfold layF
    rw [Nat.pow_succ]
    exact Nat.le_trans (flat_len _) (Nat.mul_le_mul_right _ (layF_len ts w k))
theorem b_addL {a b : List PyData} (h : a.length + b.length ≤ sizeLine) : binD .add (.list a) (.list b) = some (.list (a ++ b)) := by
  show (if a.length + b.length ≤ sizeLine then some (PyData.list (a ++ b)) else none) = _
  rw [if_pos h]
/-! ### one row longer -/
def E_ext : E := .fr (.comp (.rng1 (.bi .len (.cons (.var 0) .nil))) (.n 7) [7] (.some (.call 12 (.cons (.var 0) (.cons (.var 2) (.cons (.var 6) (.cons (.var 7) .nil)))))) (.bin .add (.var 6) (.tup (.cons (.var 7) .nil))))
theorem ext_run {Φ : Phi} {φ : Fs} (hφ : Φ.fn 12 = some φ) (Fi : FitsOk φ) {ts : List Tile} (ht : ts.length ≤ 200) {w : Nat} (hw : 0 < w) {row : List Nat} (hr : ∀ i ∈ row, i < ts.length) (hrl : row.length ≤ 1000) {h o3 o4 o5 o7 o8 : Option W} (s : List Cell) :
    runE Φ E_ext [some (.d (rowsD ts)), h, some (.d (.int w)), o3, o4, o5, some (.d (rowD row)), o7, o8] s = .ok (.d (.list ((extF ts w row).map rowD))) s := by
  have sz1 : (1 : Nat) ≤ sizeLine := by decide
  have hsm : smallI (ts.length : Int) = true := smallI_len (Nat.le_of_lt (len_sz ht))
  have key : compT Φ (.n 7) [7] (.some (.call 12 (.cons (.var 0) (.cons (.var 2) (.cons (.var 6) (.cons (.var 7) .nil)))))) (.bin .add (.var 6) (.tup (.cons (.var 7) .nil))) [some (.d (rowsD ts)), h, some (.d (.int w)), o3, o4, o5, some (.d (rowD row)), o7, o8] (.ok ((List.range ts.length).map fun (i : Nat) => PyData.int (i : Int)) s) = .ok (((List.range ts.length).filter (fitsB ts w row)).map fun t => rowD (row ++ [t])) s := by
    refine compT_fm (by simpa using len_sz ht) fun t htm => ?_
    have htl : t < ts.length := List.mem_range.mp htm
    have ef := Fi ts w row t s hw hr htl
    have ea : binD .add (rowD row) (.tuple [.int (t : Int)]) = some (rowD (row ++ [t])) := by
      have q := b_addT (a := row.map fun (i : Nat) => PyData.int (i : Int)) (b := [.int (t : Int)]) (by
        have : sizeLine = 16777216 := by decide
        simp; omega)
      rw [show rowD row = .tuple (row.map fun (i : Nat) => PyData.int (i : Int)) from rfl, q]
      unfold rowD
      rw [List.map_append]
      rfl
    cases hf : fitsB ts w row t with
    | true =>
      rw [hf] at ef
      unfold turnK
      simp [-List.map_map, wipeE, asgT, hφ, ef, frzsR, frzAll, sz1, ea, frzR]
    | false =>
      rw [hf] at ef
      unfold turnK
      simp [-List.map_map, wipeE, asgT, hφ, ef]
  have eu : upTo 0 ts.length = (List.range ts.length).map fun (i : Nat) => PyData.int (i : Int) := upTo_range _
  unfold E_ext extF
  rw [rE_fr, rF_comp]
  have eI : runI Φ (.rng1 (.bi .len (.cons (.var 0) .nil))) [some (.d (rowsD ts)), h, some (.d (.int w)), o3, o4, o5, some (.d (rowD row)), o7, o8] s = .ok ((List.range ts.length).map fun (i : Nat) => PyData.int (i : Int)) s := by
    rw [← eu]
    simp [seeAll, hsm]
  rw [eI, key]
  simp only [R.bind_ok, List.map_map]
  rfl
/-! ### all rows longer -/
def B_inner : List S := [(.asg (.n 5) (.bin .add (.var 5) E_ext))]
def B_outer : List S := [(.asg (.n 5) (.fr (.lst .nil))), (.for (.n 6) (.seq (.var 3)) B_inner), (.asg (.n 3) (.var 5))]
theorem inner_step {Φ : Phi} {n : Nat} {A h B o3 o4 r o7 o8 : Option W} {acc new : List PyData} {s : List Cell} (e : runE Φ E_ext [A, h, B, o3, o4, some (.d (.list acc)), r, o7, o8] s = .ok (.d (.list new)) s) (ea : binD .add (.list acc) (.list new) = some (.list (acc ++ new))) :
    runB Φ n B_inner [A, h, B, o3, o4, some (.d (.list acc)), r, o7, o8] s = .ok (.nx, [A, h, B, o3, o4, some (.d (.list (acc ++ new))), r, o7, o8]) s := by
  simp [B_inner, asgT, e, ea]
theorem outer_step {Φ : Phi} {n : Nat} {A h B o4 o5 o6 o6' o7 o8 : Option W} {old new : List PyData} {s : List Cell} (e : forK Φ n (.n 6) B_inner old [A, h, B, some (.d (.list old)), o4, some (.d (.list [])), o6, o7, o8] s = .ok (.nx, [A, h, B, some (.d (.list old)), o4, some (.d (.list new)), o6', o7, o8]) s) :
    runB Φ n B_outer [A, h, B, some (.d (.list old)), o4, o5, o6, o7, o8] s = .ok (.nx, [A, h, B, some (.d (.list new)), o4, some (.d (.list new)), o6', o7, o8]) s := by
  have z0 : (0 : Nat) ≤ sizeLine := Nat.zero_le _
  simp [B_outer, asgT, frzsR, frzAll, frzR, e]
theorem inner_run {Φ : Phi} {n : Nat} {φ : Fs} (hφ : Φ.fn 12 = some φ) (Fi : FitsOk φ) {ts : List Tile} (ht : ts.length ≤ 200) {w : Nat} (hw : 0 < w) {l : List (List Nat)} (hl : ∀ r ∈ l, (∀ i ∈ r, i < ts.length) ∧ r.length ≤ 1000) (hsz : l.length * ts.length ≤ 1000000) {h o3 o4 o6 o7 o8 : Option W} (s : List Cell) :
    ∃ o6' : Option W, forK Φ n (.n 6) B_inner (l.map rowD) [some (.d (rowsD ts)), h, some (.d (.int w)), o3, o4, some (.d (.list [])), o6, o7, o8] s = .ok (.nx, [some (.d (rowsD ts)), h, some (.d (.int w)), o3, o4, some (.d (.list ((l.flatMap (extF ts w)).map rowD))), o6', o7, o8]) s := by
  obtain ⟨ρ', s', e, o6', rfl, rfl⟩ := forK_inv (Φ := Φ) (n := n) (t := .n 6) (b := B_inner)
    (fun q ρ s' => ∃ o6' : Option W, ρ = [some (.d (rowsD ts)), h, some (.d (.int w)), o3, o4, some (.d (.list (((l.take q).flatMap (extF ts w)).map rowD))), o6', o7, o8] ∧ s' = s) (l.map rowD) 0 [some (.d (rowsD ts)), h, some (.d (.int w)), o3, o4, some (.d (.list [])), o6, o7, o8] s ⟨o6, rfl, rfl⟩ fun j x ρ s1 hj ⟨o6', hρ, hs⟩ => by
      subst hρ hs
      rw [List.getElem?_map] at hj
      cases ej : l[j]? with
      | none => rw [ej] at hj; cases hj
      | some r =>
        rw [ej] at hj
        cases hj
        obtain ⟨hjl, er⟩ := List.getElem?_eq_some_iff.mp ej
        have hm : r ∈ l := List.mem_of_getElem? ej
        have e := ext_run hφ Fi ht hw (hl r hm).1 (hl r hm).2 (h := h) (o3 := o3) (o4 := o4) (o5 := some (.d (.list (((l.take (0 + j)).flatMap (extF ts w)).map rowD)))) (o7 := o7) (o8 := o8) s1
        have tk : (l.take (0 + j + 1)).flatMap (extF ts w) = (l.take (0 + j)).flatMap (extF ts w) ++ extF ts w r := by
          rw [Nat.zero_add, List.take_succ, ej, List.flatMap_append]
          simp
        have ea := b_addL (a := ((l.take (0 + j)).flatMap (extF ts w)).map rowD) (b := (extF ts w r).map rowD) (by
          have sp : sizeLine = 16777216 := by decide
          have h1 := flat_len (ts := ts) (w := w) (l.take (0 + j))
          have h2 := extF_len ts w r
          have h3 : (l.take (0 + j)).length * ts.length ≤ l.length * ts.length := Nat.mul_le_mul_right _ (by simp; omega)
          rw [List.length_map, List.length_map]
          omega)
        refine ⟨_, [some (.d (rowsD ts)), h, some (.d (.int w)), o3, o4, some (.d (.list (((l.take (0 + j)).flatMap (extF ts w)).map rowD ++ (extF ts w r).map rowD))), some (.d (rowD r)), o7, o8], s1, rfl, .inl ?_, _, by rw [tk, List.map_append], rfl⟩
        exact inner_step e ea
  refine ⟨o6', ?_⟩
  rw [e, Nat.zero_add, List.length_map, List.take_length]
theorem outer_run {Φ : Phi} {n : Nat} {φ : Fs} (hφ : Φ.fn 12 = some φ) (Fi : FitsOk φ) {ts : List Tile} (ht : ts.length ≤ 200) (h1 : 1 ≤ ts.length) {w : Nat} (hw : 0 < w) (K : Nat) (hK : K ≤ 1000) (hz : ts.length ^ K ≤ 1000000) {h o4 o5 o6 o7 o8 : Option W} (s : List Cell) :
    ∃ o4' o5' o6' : Option W, forK Φ n (.n 4) B_outer (upTo 0 K) [some (.d (rowsD ts)), h, some (.d (.int w)), some (.d (.list [.tuple []])), o4, o5, o6, o7, o8] s = .ok (.nx, [some (.d (rowsD ts)), h, some (.d (.int w)), some (.d (.list ((layF ts w K).map rowD))), o4', o5', o6', o7, o8]) s := by
  obtain ⟨ρ', s', e, o4', o5', o6', rfl, rfl⟩ := forK_inv (Φ := Φ) (n := n) (t := .n 4) (b := B_outer)
    (fun q ρ s' => ∃ o4' o5' o6' : Option W, ρ = [some (.d (rowsD ts)), h, some (.d (.int w)), some (.d (.list ((layF ts w q).map rowD))), o4', o5', o6', o7, o8] ∧ s' = s) (upTo 0 K) 0 [some (.d (rowsD ts)), h, some (.d (.int w)), some (.d (.list [.tuple []])), o4, o5, o6, o7, o8] s ⟨o4, o5, o6, rfl, rfl⟩ fun j x ρ s1 hj ⟨o4', o5', o6', hρ, hs⟩ => by
      subst hρ hs
      obtain ⟨rfl, hjl⟩ := upTo_get _ _ _ _ hj
      rw [Nat.zero_add]
      have hlen := layF_len ts w j
      have hpw : ts.length ^ j * ts.length ≤ ts.length ^ K := by rw [← Nat.pow_succ]; exact Nat.pow_le_pow_right h1 hjl
      have hm : (layF ts w j).length * ts.length ≤ 1000000 := Nat.le_trans (Nat.mul_le_mul_right _ hlen) (Nat.le_trans hpw hz)
      have hml : (layF ts w j).length ≤ 1000000 := by
        have : (layF ts w j).length * 1 ≤ (layF ts w j).length * ts.length := Nat.mul_le_mul_left _ h1
        omega
      obtain ⟨o6'', e⟩ := inner_run (n := n) hφ Fi ht hw (l := layF ts w j) (fun r hr => ⟨(layF_mem hr).2, by rw [(layF_mem hr).1]; omega⟩) hm (h := h) (o3 := some (.d (.list ((layF ts w j).map rowD)))) (o4 := some (.d (.int (0 + (j : Int))))) (o6 := o6') (o7 := o7) (o8 := o8) s1
      refine ⟨_, [some (.d (rowsD ts)), h, some (.d (.int w)), some (.d (.list (((layF ts w j).flatMap (extF ts w)).map rowD))), some (.d (.int (0 + (j : Int)))), some (.d (.list (((layF ts w j).flatMap (extF ts w)).map rowD))), o6'', o7, o8], s1, rfl, .inl ?_, _, _, _, rfl, rfl⟩
      exact outer_step e
  refine ⟨o4', o5', o6', ?_⟩
  rw [e, upTo_len, Nat.zero_add]
/-! ### as rows of the plane -/
def rowsOf (h w : Nat) (r : List Nat) : List (List Nat) := (List.range h).map fun k => (r.drop (k * w)).take w
def layD (L : List (List Nat)) : PyData := .list (L.map rowD)
theorem cut_nat (l : List PyData) {a b : Nat} (h : a ≤ b) : cut l (some (a : Int)) (some (b : Int)) = (l.drop a).take (b - a) := by
  have e : ∀ c : Nat, sIx l.length 0 (some (c : Int)) = min c l.length := fun c => by
    unfold sIx
    simp only
    rw [if_neg (by omega), Int.toNat_natCast]
  have e' : ∀ c : Nat, sIx l.length l.length (some (c : Int)) = min c l.length := fun c => by
    unfold sIx
    simp only
    rw [if_neg (by omega), Int.toNat_natCast]
  unfold cut
  rw [e, e']
  by_cases ha : a ≤ l.length
  · rw [Nat.min_eq_left ha]
    by_cases hb : b ≤ l.length
    · rw [Nat.min_eq_left hb]
    · rw [Nat.min_eq_right (by omega), List.take_of_length_le (by simp), List.take_of_length_le (by simp; omega)]
  · have h1 : min a l.length = l.length := Nat.min_eq_right (by omega)
    have h2 : min b l.length = l.length := Nat.min_eq_right (by omega)
    rw [h1, h2, List.drop_of_length_le (Nat.le_refl _), List.drop_of_length_le (show l.length ≤ a by omega)]
    simp
def E_slc : E := .slc (.var 6) (.some (.bin .mul (.var 8) (.var 2))) (.some (.bin .add (.bin .mul (.var 8) (.var 2)) (.var 2)))
def E_row : E := .fr (.comp (.rng1 (.var 1)) (.n 8) [8] .none E_slc)
theorem slc_run {Φ : Phi} {A h o3 o4 o5 o7 : Option W} {w k : Int} {l : List PyData} {s : List Cell} (hm : mulOk k w = true) : runE Φ E_slc [A, h, some (.d (.int w)), o3, o4, o5, some (.d (.tuple l)), o7, some (.d (.int k))] s = .ok (.d (.tuple (cut l (some (k * w)) (some (k * w + w))))) s := by
  simp [E_slc, b_mul hm]
theorem turn8 {Φ : Phi} {A h w o3 o4 o5 r o7 o8 : Option W} {x y : PyData} {s : List Cell} {e : E} (q : runE Φ e [A, h, w, o3, o4, o5, r, o7, some (.d x)] s = .ok (.d y) s) : turnK Φ (.n 8) [8] .none e [A, h, w, o3, o4, o5, r, o7, o8] x s = .ok (some y) s := by
  unfold turnK
  simp [wipeE, asgT, q, frzR]
theorem turn6 {Φ : Phi} {A h w o3 o4 o5 o6 o7 o8 : Option W} {x y : PyData} {s : List Cell} {e : E} (q : runE Φ e [A, h, w, o3, o4, o5, some (.d x), o7, o8] s = .ok (.d y) s) : turnK Φ (.n 6) [6] .none e [A, h, w, o3, o4, o5, o6, o7, o8] x s = .ok (some y) s := by
  unfold turnK
  simp [wipeE, asgT, q, frzR]
theorem row_run {Φ : Phi} {A o3 o4 o5 o7 o8 : Option W} {h w : Nat} (hh : h ≤ 1000) (hw : w ≤ 1000) {r : List Nat} (s : List Cell) : runE Φ E_row [A, some (.d (.int h)), some (.d (.int w)), o3, o4, o5, some (.d (rowD r)), o7, o8] s = .ok (.d (layD (rowsOf h w r))) s := by
  have sp : sizeLine = 16777216 := by decide
  have hsm : smallI (h : Int) = true := smallI_len (by omega)
  have eu : upTo 0 h = (List.range h).map fun (i : Nat) => PyData.int (i : Int) := upTo_range _
  have key : compT Φ (.n 8) [8] .none E_slc [A, some (.d (.int h)), some (.d (.int w)), o3, o4, o5, some (.d (rowD r)), o7, o8] (.ok ((List.range h).map fun (i : Nat) => PyData.int (i : Int)) s) = .ok ((List.range h).map fun k => rowD ((r.drop (k * w)).take w)) s := by
    refine compT_mp (by simp; omega) fun k hk => turn8 ?_
    have hm : mulOk (k : Int) (w : Int) = true := mulR _ ⟨by omega, by omega⟩
    have q := slc_run (Φ := Φ) (A := A) (h := some (.d (.int h))) (o3 := o3) (o4 := o4) (o5 := o5) (o7 := o7) (l := r.map fun (i : Nat) => PyData.int (i : Int)) (s := s) hm
    have c1 : (k : Int) * (w : Int) = ((k * w : Nat) : Int) := (Int.natCast_mul k w).symm
    have c2 : ((k * w : Nat) : Int) + (w : Int) = ((k * w + w : Nat) : Int) := (Int.natCast_add (k * w) w).symm
    rw [c1, c2, cut_nat _ (Nat.le_add_right _ _), Nat.add_sub_cancel_left, ← List.map_drop, ← List.map_take] at q
    exact q
  have eI : runI Φ (.rng1 (.var 1)) [A, some (.d (.int h)), some (.d (.int w)), o3, o4, o5, some (.d (rowD r)), o7, o8] s = .ok ((List.range h).map fun (i : Nat) => PyData.int (i : Int)) s := by
    rw [← eu]
    simp [hsm]
  unfold E_row
  rw [rE_fr, rF_comp, eI, key]
  unfold layD rowsOf
  rw [List.map_map]
  rfl
def B_layings : List S := [(.asg (.n 3) (.fr (.lst (.cons (.tup .nil) .nil)))), (.for (.n 4) (.rng1 (.bin .mul (.var 1) (.var 2))) B_outer), (.ret (.th (.comp (.seq (.var 3)) (.n 6) [6] .none E_row)))]
def LayingsOk (φ : Fs) : Prop := ∀ (ts : List Tile) (h w : Nat) (s : List Cell), 1 ≤ ts.length → ts.length ≤ 200 → 1 ≤ h → h ≤ 12 → 1 ≤ w → w ≤ 12 → ts.length ^ (h * w) ≤ 1000000 →
  callX φ [.d (rowsD ts), .d (.int h), .d (.int w)] s = .ok (.l ((layF ts w (h * w)).map fun r => layD (rowsOf h w r))) s
theorem callXF {n : Nat} {g : List W → Option Ro} {ws vs : List W} {s : List Cell} {l : List PyData} (hl : ws.length = n) (hv : viewAll s ws = some (vs, false)) (hg : g vs = some (.fresh l)) : callX (.p n g) ws s = .ok (.l l) s := by
  unfold callX
  simp only [hl, if_pos, hv, hg, pX]
  simp
theorem lay_b {Φ : Phi} {n : Nat} {A o4 o5 o6 o7 o8 o4' o5' o6' : Option W} {h w : Int} {k : Nat} {rows out : List PyData} (hmul : mulOk h w = true) (hsm : smallI (h * w) = true) (hk : (h * w).toNat = k)
    (e : forK Φ n (.n 4) B_outer (upTo 0 k) [A, some (.d (.int h)), some (.d (.int w)), some (.d (.list [.tuple []])), o4, o5, o6, o7, o8] [] = .ok (.nx, [A, some (.d (.int h)), some (.d (.int w)), some (.d (.list rows)), o4', o5', o6', o7, o8]) [])
    (e2 : compT Φ (.n 6) [6] .none E_row [A, some (.d (.int h)), some (.d (.int w)), some (.d (.list rows)), o4', o5', o6', o7, o8] (.ok rows []) = .ok out []) :
    endP (runB Φ n B_layings [A, some (.d (.int h)), some (.d (.int w)), none, o4, o5, o6, o7, o8] []) = some (.fresh out) := by
  have z0 : (0 : Nat) ≤ sizeLine := Nat.zero_le _
  have z1 : (1 : Nat) ≤ sizeLine := by decide
  simp [B_layings, asgT, frzsR, frzAll, frzR, b_mul hmul, hsm, hk, e, e2, z0, z1, endP, finP]
theorem layings_ok {Φ : Phi} {φ : Fs} (n : Nat) (hφ : Φ.fn 12 = some φ) (Fi : FitsOk φ) : LayingsOk (.p 3 (gP Φ n B_layings 9)) := fun ts h w s t1 t2 h1 h2 w1 w2 hz => by
  have e1 : ((h : Int) * (w : Int)) = ((h * w : Nat) : Int) := (Int.natCast_mul h w).symm
  have hwb : h * w ≤ 12 * 12 := Nat.mul_le_mul h2 w2
  have sp : sizeLine = 16777216 := by decide
  have hsm : smallI ((h : Int) * (w : Int)) = true := by rw [e1]; exact smallI_len (by omega)
  have hmul : mulOk (h : Int) (w : Int) = true := mulR _ ⟨by omega, by omega⟩
  have etn : ((h : Int) * (w : Int)).toNat = h * w := by rw [e1, Int.toNat_natCast]
  obtain ⟨o4', o5', o6', e⟩ := outer_run (Φ := Φ) (n := n) hφ Fi t2 t1 (w := w) w1 (h * w) (by omega) hz (h := some (.d (.int h))) (o4 := none) (o5 := none) (o6 := none) (o7 := none) (o8 := none) []
  have hlen := Nat.le_trans (layF_len ts w (h * w)) hz
  have e2 : compT Φ (.n 6) [6] .none E_row [some (.d (rowsD ts)), some (.d (.int h)), some (.d (.int w)), some (.d (.list ((layF ts w (h * w)).map rowD))), o4', o5', o6', none, none] (.ok ((layF ts w (h * w)).map rowD) []) = .ok ((layF ts w (h * w)).map fun r => layD (rowsOf h w r)) [] :=
    compT_mp (by omega) fun r hr => turn6 (row_run (by omega) (by omega) [])
  have g : gP Φ n B_layings 9 [.d (rowsD ts), .d (.int h), .d (.int w)] = some (.fresh ((layF ts w (h * w)).map fun r => layD (rowsOf h w r))) := lay_b hmul hsm etn e e2
  exact callXF rfl rfl g
end DM

set_option maxRecDepth 100000
/-! L7: loops that may end the def; what lies beside, below. -/
namespace DM
open PySem
/-- each turn goes on, or ends the def with w -/
theorem forK_find {Φ : Phi} {n : Nat} {t : Tg} {b : List S} {w : W} {s : List Cell} (I : Env → Prop) (p : Nat → Bool) : ∀ (items : List PyData) (k : Nat) (ρ : Env), I ρ →
    (∀ (j : Nat) (x : PyData) (ρ : Env), items[j]? = some x → I ρ → ∃ ρ1, asgT ρ t (.d x) = some ρ1 ∧ (p (k + j) = true → ∃ ρ', (runB Φ n b ρ1 s = .ok (.nx, ρ') s ∨ runB Φ n b ρ1 s = .ok (.ct, ρ') s) ∧ I ρ') ∧ (p (k + j) = false → ∃ ρ', runB Φ n b ρ1 s = .ok (.ret w, ρ') s)) →
    ((∀ j, j < items.length → p (k + j) = true) → ∃ ρ', forK Φ n t b items ρ s = .ok (.nx, ρ') s ∧ I ρ') ∧ (¬ (∀ j, j < items.length → p (k + j) = true) → ∃ ρ', forK Φ n t b items ρ s = .ok (.ret w, ρ') s)
  | [], k, ρ, h, _ => ⟨fun _ => ⟨ρ, rfl, h⟩, fun hn => absurd (fun j hj => absurd hj (Nat.not_lt_zero _)) hn⟩
  | x :: xs, k, ρ, h, st => by
    obtain ⟨ρ1, e1, ht, hf⟩ := st 0 x ρ rfl h
    rw [Nat.add_zero] at ht hf
    cases hp : p k with
    | false =>
      obtain ⟨ρ', e2⟩ := hf hp
      refine ⟨fun ha => ?_, fun _ => ⟨ρ', ?_⟩⟩
      · have := ha 0 (Nat.succ_pos _)
        rw [Nat.add_zero, hp] at this
        cases this
      · rw [forK_cons, e1]
        simp only [e2, R.lp_ret]
    | true =>
      obtain ⟨ρ', e2, h'⟩ := ht hp
      have st' : ∀ (j : Nat) (y : PyData) (ρ : Env), xs[j]? = some y → I ρ → ∃ ρ1, asgT ρ t (.d y) = some ρ1 ∧ (p (k + 1 + j) = true → ∃ ρ', (runB Φ n b ρ1 s = .ok (.nx, ρ') s ∨ runB Φ n b ρ1 s = .ok (.ct, ρ') s) ∧ I ρ') ∧ (p (k + 1 + j) = false → ∃ ρ', runB Φ n b ρ1 s = .ok (.ret w, ρ') s) := fun j y ρ hj hi => by
        have := st (j + 1) y ρ (by simpa using hj) hi
        rwa [show k + (j + 1) = k + 1 + j by omega] at this
      obtain ⟨g1, g2⟩ := forK_find I p xs (k + 1) ρ' h' st'
      have eq : forK Φ n t b (x :: xs) ρ s = forK Φ n t b xs ρ' s := by
        rw [forK_cons, e1]
        rcases e2 with e2 | e2 <;> simp only [e2, R.lp_nx, R.lp_ct]
      rw [eq]
      have iff : (∀ j, j < (x :: xs).length → p (k + j) = true) ↔ (∀ j, j < xs.length → p (k + 1 + j) = true) := by
        constructor
        · intro h j hj
          have := h (j + 1) (by simpa using hj)
          rwa [show k + (j + 1) = k + 1 + j by omega] at this
        · intro h j hj
          cases j with
          | zero => rw [Nat.add_zero]; exact hp
          | succ j =>
            have := h j (by simpa using hj)
            rwa [show k + 1 + j = k + (j + 1) by omega] at this
      exact ⟨fun ha => g1 (iff.mp ha), fun hn => g2 fun h => hn (iff.mpr h)⟩
/-! ### beside, below -/
def B_beside : List S := [(.ret (.cmp .eq (.idx (.idx (.fld (.var 0) 3) (.var 1)) (.cst (.int 1))) (.idx (.idx (.fld (.var 0) 3) (.var 2)) (.cst (.int 3)))))]
def B_below : List S := [(.ret (.cmp .eq (.idx (.idx (.fld (.var 0) 3) (.var 1)) (.cst (.int 2))) (.idx (.idx (.fld (.var 0) 3) (.var 2)) (.cst (.int 0)))))]
def besideB (ts : List Tile) (a b : Nat) : Bool := decide ((tl ts a).e = (tl ts b).w)
def belowB (ts : List Tile) (a b : Nat) : Bool := decide ((tl ts a).s = (tl ts b).n)
def PairOk (φ : Fs) (p : List Tile → Nat → Nat → Bool) : Prop := ∀ (ts : List Tile) (a b : Nat) (s : List Cell), a < ts.length → b < ts.length → callF φ [setW ts, .d (.int a), .d (.int b)] s = .ok (.d (.bool (p ts a b))) s
theorem beside_b {Φ : Phi} {n : Nat} {l : List PyData} {a b x1 x2 x3 x4 y1 y2 y3 y4 : Int} (ha : atD l a = some (.tuple [.int x1, .int x2, .int x3, .int x4])) (hb : atD l b = some (.tuple [.int y1, .int y2, .int y3, .int y4])) :
    gP Φ n B_beside 3 [.o 2 [(3, .list l)], .d (.int a), .d (.int b)] = some (.ret (.d (.bool (decide (x2 = y4))))) := by
  simp only [gP, B_beside, startE]
  simp [fldW, getN, ha, hb, at4_1, at4_3, endP, finP]
theorem below_b {Φ : Phi} {n : Nat} {l : List PyData} {a b x1 x2 x3 x4 y1 y2 y3 y4 : Int} (ha : atD l a = some (.tuple [.int x1, .int x2, .int x3, .int x4])) (hb : atD l b = some (.tuple [.int y1, .int y2, .int y3, .int y4])) :
    gP Φ n B_below 3 [.o 2 [(3, .list l)], .d (.int a), .d (.int b)] = some (.ret (.d (.bool (decide (x3 = y1))))) := by
  simp only [gP, B_below, startE]
  simp [fldW, getN, ha, hb, at4_2, at4_0, endP, finP]
theorem beside_ok (Φ : Phi) (n : Nat) : PairOk (.p 3 (gP Φ n B_beside 3)) besideB := fun ts a b s ha hb =>
  callP rfl (vs := [setW ts, .d (.int a), .d (.int b)]) rfl (beside_b (at_rows ha) (at_rows hb))
theorem below_ok (Φ : Phi) (n : Nat) : PairOk (.p 3 (gP Φ n B_below 3)) belowB := fun ts a b s ha hb =>
  callP rfl (vs := [setW ts, .d (.int a), .d (.int b)]) rfl (below_b (at_rows ha) (at_rows hb))
end DM

set_option maxRecDepth 100000
/-! L8: is_laid. -/
namespace DM
open PySem
def B_laidIn : List S := [(.ite (.and (.cmp .gt (.var 3) (.cst (.int 0))) (.not (.meth (.var 0) 2 (.cons (.idx (.idx (.var 1) (.var 2)) (.bin .sub (.var 3) (.cst (.int 1)))) (.cons (.idx (.idx (.var 1) (.var 2)) (.var 3)) .nil))))) [(.ret (.cst (.bool false)))] []), (.ite (.and (.cmp .gt (.var 2) (.cst (.int 0))) (.not (.meth (.var 0) 3 (.cons (.idx (.idx (.var 1) (.bin .sub (.var 2) (.cst (.int 1)))) (.var 3)) (.cons (.idx (.idx (.var 1) (.var 2)) (.var 3)) .nil))))) [(.ret (.cst (.bool false)))] [])]
theorem laid_in {Φ : Phi} {n : Nat} {β γ : Fs} {fs : List (Nat × PyData)} (hβ : Φ.mt 2 2 = some β) (hγ : Φ.mt 2 3 = some γ) {rows r1 r2 : List PyData} {a k x y z : Int} {b1 b2 : Bool} {s : List Cell}
    (e1 : atD rows a = some (.tuple r1)) (e2 : atD r1 k = some (.int x)) (e3 : 0 < k → atD r1 (k - 1) = some (.int y)) (e4 : 0 < k → callF β [.o 2 fs, .d (.int y), .d (.int x)] s = .ok (.d (.bool b1)) s)
    (e5 : 0 < a → atD rows (a - 1) = some (.tuple r2)) (e6 : 0 < a → atD r2 k = some (.int z)) (e7 : 0 < a → callF γ [.o 2 fs, .d (.int z), .d (.int x)] s = .ok (.d (.bool b2)) s) :
    ((¬ 0 < k ∨ b1 = true) ∧ (¬ 0 < a ∨ b2 = true) → runB Φ n B_laidIn [some (.o 2 fs), some (.d (.list rows)), some (.d (.int a)), some (.d (.int k))] s = .ok (.nx, [some (.o 2 fs), some (.d (.list rows)), some (.d (.int a)), some (.d (.int k))]) s) ∧
    (¬ ((¬ 0 < k ∨ b1 = true) ∧ (¬ 0 < a ∨ b2 = true)) → runB Φ n B_laidIn [some (.o 2 fs), some (.d (.list rows)), some (.d (.int a)), some (.d (.int k))] s = .ok (.ret (.d (.bool false)), [some (.o 2 fs), some (.d (.list rows)), some (.d (.int a)), some (.d (.int k))]) s) := by
  by_cases hk : 0 < k
  · have f3 := e3 hk
    have f4 := e4 hk
    cases b1 with
    | false => exact ⟨fun h => by simp [hk] at h, fun _ => by simp [B_laidIn, hk, clsOf, hβ, e1, e2, f3, f4]⟩
    | true =>
      by_cases ha : 0 < a
      · have f5 := e5 ha
        have f6 := e6 ha
        have f7 := e7 ha
        cases b2 with
        | false => exact ⟨fun h => by simp [ha] at h, fun _ => by simp [B_laidIn, hk, ha, clsOf, hβ, hγ, e1, e2, f3, f4, f5, f6, f7]⟩
        | true => exact ⟨fun _ => by simp [B_laidIn, hk, ha, clsOf, hβ, hγ, e1, e2, f3, f4, f5, f6, f7], fun h => by simp at h⟩
      · exact ⟨fun _ => by simp [B_laidIn, hk, ha, clsOf, hβ, e1, e2, f3, f4], fun h => by simp [ha] at h⟩
  · by_cases ha : 0 < a
    · have f5 := e5 ha
      have f6 := e6 ha
      have f7 := e7 ha
      cases b2 with
      | false => exact ⟨fun h => by simp [ha] at h, fun _ => by simp [B_laidIn, hk, ha, clsOf, hγ, e1, e2, f5, f6, f7]⟩
      | true => exact ⟨fun _ => by simp [B_laidIn, hk, ha, clsOf, hγ, e1, e2, f5, f6, f7], fun h => by simp [hk] at h⟩
    · exact ⟨fun _ => by simp [B_laidIn, hk, ha], fun h => by simp [hk, ha] at h⟩
def gR (L : List (List Nat)) (a : Nat) : List Nat := L.getD a []
theorem at_lay {L : List (List Nat)} {a : Nat} (h : a < L.length) : atD (L.map rowD) (a : Int) = some (.tuple ((gR L a).map fun (i : Nat) => PyData.int (i : Int))) := by
  refine atD_nat (by omega) ?_
  unfold gR
  rw [Int.toNat_natCast, List.getElem?_map, List.getElem?_eq_getElem h, List.getD_eq_getElem?_getD, List.getElem?_eq_getElem h]
  rfl
theorem gR_mem {L : List (List Nat)} {a : Nat} (h : a < L.length) : gR L a ∈ L := by
  unfold gR
  rw [List.getD_eq_getElem?_getD, List.getElem?_eq_getElem h]
  exact List.getElem_mem h
def cellB (ts : List Tile) (L : List (List Nat)) (a k : Nat) : Bool :=
  (decide (k = 0) || besideB ts (gN (gR L a) (k - 1)) (gN (gR L a) k)) && (decide (a = 0) || belowB ts (gN (gR L (a - 1)) k) (gN (gR L a) k))
/-- rows of one width, of numbers of tiles -/
def LayOk (n w : Nat) (L : List (List Nat)) : Prop := ∀ r ∈ L, r.length = w ∧ ∀ i ∈ r, i < n
def laidB (ts : List Tile) (w : Nat) (L : List (List Nat)) : Prop := ∀ a, a < L.length → ∀ k, k < w → cellB ts L a k = true
theorem cell_iff {ts : List Tile} {L : List (List Nat)} {a k : Nat} : ((¬ (0 : Int) < (k : Int) ∨ besideB ts (gN (gR L a) (k - 1)) (gN (gR L a) k) = true) ∧ (¬ (0 : Int) < (a : Int) ∨ belowB ts (gN (gR L (a - 1)) k) (gN (gR L a) k) = true)) ↔ cellB ts L a k = true := by
  unfold cellB
  rw [Bool.and_eq_true, Bool.or_eq_true, Bool.or_eq_true, decide_eq_true_eq, decide_eq_true_eq]
  constructor
  · rintro ⟨h1, h2⟩
    exact ⟨h1.imp_left fun h => by omega, h2.imp_left fun h => by omega⟩
  · rintro ⟨h1, h2⟩
    exact ⟨h1.imp_left fun h => by omega, h2.imp_left fun h => by omega⟩
theorem laid_row {Φ : Phi} {n : Nat} {β γ : Fs} (hβ : Φ.mt 2 2 = some β) (Be : PairOk β besideB) (hγ : Φ.mt 2 3 = some γ) (Bl : PairOk γ belowB) {ts : List Tile} {w : Nat} {L : List (List Nat)} (hL : LayOk ts.length w L) {a : Nat} (ha : a < L.length) (o : Option W) (s : List Cell) :
    ((∀ k, k < w → cellB ts L a k = true) → ∃ o', forK Φ n (.n 3) B_laidIn (upTo 0 w) [some (setW ts), some (.d (layD L)), some (.d (.int a)), o] s = .ok (.nx, [some (setW ts), some (.d (layD L)), some (.d (.int a)), o']) s) ∧
    (¬ (∀ k, k < w → cellB ts L a k = true) → ∃ ρ', forK Φ n (.n 3) B_laidIn (upTo 0 w) [some (setW ts), some (.d (layD L)), some (.d (.int a)), o] s = .ok (.ret (.d (.bool false)), ρ') s) := by
  have step := forK_find (Φ := Φ) (n := n) (t := .n 3) (b := B_laidIn) (w := .d (.bool false)) (s := s) (fun ρ => ∃ o', ρ = [some (setW ts), some (.d (layD L)), some (.d (.int a)), o']) (fun k => cellB ts L a k) (upTo 0 w) 0 [some (setW ts), some (.d (layD L)), some (.d (.int a)), o] ⟨o, rfl⟩ fun j x ρ hj ⟨o', hρ⟩ => by
    subst hρ
    obtain ⟨rfl, hjl⟩ := upTo_get _ _ _ _ hj
    rw [Int.zero_add, Nat.zero_add]
    have hm := hL _ (gR_mem ha)
    have hk : j < (gR L a).length := by rw [hm.1]; exact hjl
    have hb := laid_in (Φ := Φ) (n := n) (fs := [(3, rowsD ts)]) (rows := L.map rowD) (a := (a : Int)) (k := (j : Int)) (y := (gN (gR L a) (j - 1) : Nat)) (z := (gN (gR L (a - 1)) j : Nat)) (r2 := (gR L (a - 1)).map fun (i : Nat) => PyData.int (i : Int)) (b1 := besideB ts (gN (gR L a) (j - 1)) (gN (gR L a) j)) (b2 := belowB ts (gN (gR L (a - 1)) j) (gN (gR L a) j)) (s := s) hβ hγ (at_lay ha) (at_row hk)
      (fun h0 => by
        have e : ((j : Int) - 1) = ((j - 1 : Nat) : Int) := by omega
        rw [e]
        exact at_row (by omega))
      (fun h0 => Be ts _ _ s (getD_lt hm.2 (by omega)) (getD_lt hm.2 hk))
      (fun h0 => by
        have e : ((a : Int) - 1) = ((a - 1 : Nat) : Int) := by omega
        rw [e]
        exact at_lay (by omega))
      (fun h0 => at_row (by rw [(hL _ (gR_mem (show a - 1 < L.length by omega))).1]; exact hjl))
      (fun h0 => Bl ts _ _ s (getD_lt (hL _ (gR_mem (show a - 1 < L.length by omega))).2 (by rw [(hL _ (gR_mem (show a - 1 < L.length by omega))).1]; exact hjl)) (getD_lt hm.2 hk))
    rw [cell_iff] at hb
    refine ⟨_, rfl, fun hp => ⟨_, .inl (hb.1 hp), _, rfl⟩, fun hp => ⟨_, hb.2 (by rw [hp]; exact Bool.false_ne_true)⟩⟩
  rw [upTo_len] at step
  simp only [Nat.zero_add] at step
  refine ⟨fun h => ?_, fun h => step.2 h⟩
  obtain ⟨ρ', e, o', rfl⟩ := step.1 h
  exact ⟨o', e⟩
def B_laid : List S := [(.for (.n 2) (.rng1 (.bi .len (.cons (.var 1) .nil))) [(.for (.n 3) (.rng1 (.bi .len (.cons (.idx (.var 1) (.var 2)) .nil))) B_laidIn)]), (.ret (.cst (.bool true)))]
theorem rng_row {Φ : Phi} {T o : Option W} {rows r1 : List PyData} {a : Int} {s : List Cell} (e1 : atD rows a = some (.tuple r1)) (hl : r1.length ≤ sizeLine) : runI Φ (.rng1 (.bi .len (.cons (.idx (.var 1) (.var 2)) .nil))) [T, some (.d (.list rows)), some (.d (.int a)), o] s = .ok (upTo 0 r1.length) s := by
  have hsm := smallI_len hl
  simp [seeAll, e1, hsm]
theorem rng_all {Φ : Phi} {T o2 o3 : Option W} {rows : List PyData} {s : List Cell} (hl : rows.length ≤ sizeLine) : runI Φ (.rng1 (.bi .len (.cons (.var 1) .nil))) [T, some (.d (.list rows)), o2, o3] s = .ok (upTo 0 rows.length) s := by
  have hsm := smallI_len hl
  simp [seeAll, hsm]
open Classical in
/-- whether it is a laying -/
noncomputable def laidD (ts : List Tile) (w : Nat) (L : List (List Nat)) : Bool := decide (laidB ts w L)
def LaidOk (φ : Fs) : Prop := ∀ (ts : List Tile) (w : Nat) (L : List (List Nat)) (s : List Cell), LayOk ts.length w L → L.length ≤ 1000 → w ≤ 1000 → callF φ [setW ts, .d (layD L)] s = .ok (.d (.bool (laidD ts w L))) s
theorem laid_ok {Φ : Phi} {β γ : Fs} (n : Nat) (hβ : Φ.mt 2 2 = some β) (Be : PairOk β besideB) (hγ : Φ.mt 2 3 = some γ) (Bl : PairOk γ belowB) : LaidOk (.p 2 (gP Φ n B_laid 4)) := fun ts w L s hL hl hw => by
  refine callP rfl (vs := [setW ts, .d (layD L)]) rfl ?_
  have sp : sizeLine = 16777216 := by decide
  have step := forK_find (Φ := Φ) (n := n) (t := .n 2) (b := [(.for (.n 3) (.rng1 (.bi .len (.cons (.idx (.var 1) (.var 2)) .nil))) B_laidIn)]) (w := .d (.bool false)) (s := []) (fun ρ => ∃ o2 o3, ρ = [some (setW ts), some (.d (layD L)), o2, o3])
    (fun a => @decide (∀ k, k < w → cellB ts L a k = true) (Classical.propDecidable _)) (upTo 0 L.length) 0 [some (setW ts), some (.d (layD L)), none, none] ⟨_, _, rfl⟩ fun j x ρ hj ⟨o2, o3, hρ⟩ => by
      subst hρ
      obtain ⟨rfl, hjl⟩ := upTo_get _ _ _ _ hj
      rw [Int.zero_add, Nat.zero_add]
      have hm := hL _ (gR_mem hjl)
      obtain ⟨g1, g2⟩ := laid_row (n := n) hβ Be hγ Bl hL hjl o3 []
      have er := rng_row (Φ := Φ) (T := some (setW ts)) (o := o3) (s := []) (at_lay hjl) (by rw [List.length_map, hm.1]; omega)
      rw [List.length_map, hm.1] at er
      refine ⟨_, rfl, fun hp => ?_, fun hp => ?_⟩
      · obtain ⟨o', e⟩ := g1 (by simpa using hp)
        refine ⟨[some (setW ts), some (.d (layD L)), some (.d (.int (j : Int))), o'], .inl ?_, _, _, rfl⟩
        rw [rB_cons, rS_for]
        exact (congrArg (fun r => R.sq (forS Φ n (.n 3) B_laidIn [some (setW ts), some (.d (layD L)), some (.d (.int (j : Int))), o3] r) (runB Φ n [])) er).trans (by rw [forS_ok, e, R.sq_nx, rB_nil])
      · obtain ⟨ρ', e⟩ := g2 (by simpa using hp)
        refine ⟨ρ', ?_⟩
        rw [rB_cons, rS_for]
        exact (congrArg (fun r => R.sq (forS Φ n (.n 3) B_laidIn [some (setW ts), some (.d (layD L)), some (.d (.int (j : Int))), o3] r) (runB Φ n [])) er).trans (by rw [forS_ok, e, R.sq_ret])
  rw [upTo_len] at step
  simp only [Nat.zero_add, decide_eq_true_eq] at step
  have er := rng_all (Φ := Φ) (T := some (setW ts)) (o2 := none) (o3 := none) (s := []) (rows := L.map rowD) (by rw [List.length_map]; omega)
  rw [List.length_map] at er
  have go : gP Φ n B_laid 4 [setW ts, .d (layD L)] = endP (R.sq (forK Φ n (.n 2) [(.for (.n 3) (.rng1 (.bi .len (.cons (.idx (.var 1) (.var 2)) .nil))) B_laidIn)] (upTo 0 L.length) [some (setW ts), some (.d (layD L)), none, none] []) (runB Φ n [(.ret (.cst (.bool true)))])) := by
    show endP (runB Φ n B_laid [some (setW ts), some (.d (layD L)), none, none] []) = _
    unfold B_laid
    rw [rB_cons, rS_for]
    exact congrArg (fun r => endP (R.sq (forS Φ n (.n 2) [(.for (.n 3) (.rng1 (.bi .len (.cons (.idx (.var 1) (.var 2)) .nil))) B_laidIn)] [some (setW ts), some (.d (layD L)), none, none] r) (runB Φ n [(.ret (.cst (.bool true)))]))) er
  rw [go]
  by_cases h : laidB ts w L
  · obtain ⟨ρ', e, o2, o3, rfl⟩ := step.1 h
    rw [e, R.sq_nx, rB_cons, rS_ret, rE_cst, R.st_ok, R.sq_ret, show laidD ts w L = true by unfold laidD; exact @decide_eq_true _ (_) h]
    rfl
  · obtain ⟨ρ', e⟩ := step.2 h
    rw [e, R.sq_ret, show laidD ts w L = false by unfold laidD; exact @decide_eq_false _ (_) h]
    rfl
end DM

set_option maxRecDepth 100000
/-! L9: the law's own look at a laying. -/
namespace DM
open PySem
def B_lookIn : List S := [(.ite (.and (.cmp .gt (.var 3) (.cst (.int 0))) (.cmp .ne (.idx (.idx (.var 0) (.idx (.idx (.var 1) (.var 2)) (.bin .sub (.var 3) (.cst (.int 1))))) (.cst (.int 1))) (.idx (.idx (.var 0) (.idx (.idx (.var 1) (.var 2)) (.var 3))) (.cst (.int 3))))) [(.ret (.cst (.bool false)))] []), (.ite (.and (.cmp .gt (.var 2) (.cst (.int 0))) (.cmp .ne (.idx (.idx (.var 0) (.idx (.idx (.var 1) (.bin .sub (.var 2) (.cst (.int 1)))) (.var 3))) (.cst (.int 2))) (.idx (.idx (.var 0) (.idx (.idx (.var 1) (.var 2)) (.var 3))) (.cst (.int 0))))) [(.ret (.cst (.bool false)))] [])]
theorem look_in {Φ : Phi} {n : Nat} {tsd rows r1 r2 : List PyData} {a k x y z x1 x2 x3 x4 y1 y2 y3 y4 z1 z2 z3 z4 : Int} {s : List Cell}
    (e1 : atD rows a = some (.tuple r1)) (e2 : atD r1 k = some (.int x)) (ex : atD tsd x = some (.tuple [.int x1, .int x2, .int x3, .int x4])) (e3 : 0 < k → atD r1 (k - 1) = some (.int y)) (e4 : 0 < k → atD tsd y = some (.tuple [.int y1, .int y2, .int y3, .int y4]))
    (e5 : 0 < a → atD rows (a - 1) = some (.tuple r2)) (e6 : 0 < a → atD r2 k = some (.int z)) (e7 : 0 < a → atD tsd z = some (.tuple [.int z1, .int z2, .int z3, .int z4])) :
    ((¬ 0 < k ∨ y2 = x4) ∧ (¬ 0 < a ∨ z3 = x1) → runB Φ n B_lookIn [some (.d (.list tsd)), some (.d (.list rows)), some (.d (.int a)), some (.d (.int k))] s = .ok (.nx, [some (.d (.list tsd)), some (.d (.list rows)), some (.d (.int a)), some (.d (.int k))]) s) ∧
    (¬ ((¬ 0 < k ∨ y2 = x4) ∧ (¬ 0 < a ∨ z3 = x1)) → runB Φ n B_lookIn [some (.d (.list tsd)), some (.d (.list rows)), some (.d (.int a)), some (.d (.int k))] s = .ok (.ret (.d (.bool false)), [some (.d (.list tsd)), some (.d (.list rows)), some (.d (.int a)), some (.d (.int k))]) s) := by
  by_cases hk : 0 < k
  · have f3 := e3 hk
    have f4 := e4 hk
    by_cases h1 : y2 = x4
    · by_cases ha : 0 < a
      · have f5 := e5 ha
        have f6 := e6 ha
        have f7 := e7 ha
        by_cases h2 : z3 = x1
        · exact ⟨fun _ => by simp [B_lookIn, hk, ha, e1, e2, ex, f3, f4, f5, f6, f7, at4_0, at4_1, at4_2, at4_3, h1, h2], fun h => absurd ⟨.inr h1, .inr h2⟩ h⟩
        · exact ⟨fun h => by rcases h.2 with q | q; exact absurd ha q; exact absurd q h2, fun _ => by simp [B_lookIn, hk, ha, e1, e2, ex, f3, f4, f5, f6, f7, at4_0, at4_1, at4_2, at4_3, h1, h2]⟩
      · exact ⟨fun _ => by simp [B_lookIn, hk, ha, e1, e2, ex, f3, f4, at4_0, at4_1, at4_2, at4_3, h1], fun h => absurd ⟨.inr h1, .inl ha⟩ h⟩
    · exact ⟨fun h => by rcases h.1 with q | q; exact absurd hk q; exact absurd q h1, fun _ => by simp [B_lookIn, hk, e1, e2, ex, f3, f4, at4_0, at4_1, at4_2, at4_3, h1]⟩
  · by_cases ha : 0 < a
    · have f5 := e5 ha
      have f6 := e6 ha
      have f7 := e7 ha
      by_cases h2 : z3 = x1
      · exact ⟨fun _ => by simp [B_lookIn, hk, ha, e1, e2, ex, f5, f6, f7, at4_0, at4_1, at4_2, at4_3, h2], fun h => absurd ⟨.inl hk, .inr h2⟩ h⟩
      · exact ⟨fun h => by rcases h.2 with q | q; exact absurd ha q; exact absurd q h2, fun _ => by simp [B_lookIn, hk, ha, e1, e2, ex, f5, f6, f7, at4_0, at4_1, at4_2, at4_3, h2]⟩
    · exact ⟨fun _ => by simp [B_lookIn, hk, ha], fun h => absurd ⟨.inl hk, .inl ha⟩ h⟩
section
variable {Φ : Phi} {n : Nat} {T : W} {Bi : List S} {ts : List Tile} {w : Nat} {L : List (List Nat)}
def InnerOk (Φ : Phi) (n : Nat) (T : W) (Bi : List S) (ts : List Tile) (w : Nat) (L : List (List Nat)) : Prop := ∀ a k, a < L.length → k < w →
  (cellB ts L a k = true → runB Φ n Bi [some T, some (.d (layD L)), some (.d (.int (a : Int))), some (.d (.int (k : Int)))] [] = .ok (.nx, [some T, some (.d (layD L)), some (.d (.int (a : Int))), some (.d (.int (k : Int)))]) []) ∧
  (¬ cellB ts L a k = true → runB Φ n Bi [some T, some (.d (layD L)), some (.d (.int (a : Int))), some (.d (.int (k : Int)))] [] = .ok (.ret (.d (.bool false)), [some T, some (.d (layD L)), some (.d (.int (a : Int))), some (.d (.int (k : Int)))]) [])
theorem row_gen (H : InnerOk Φ n T Bi ts w L) {a : Nat} (ha : a < L.length) (o : Option W) :
    ((∀ k, k < w → cellB ts L a k = true) → ∃ o', forK Φ n (.n 3) Bi (upTo 0 w) [some T, some (.d (layD L)), some (.d (.int a)), o] [] = .ok (.nx, [some T, some (.d (layD L)), some (.d (.int a)), o']) []) ∧
    (¬ (∀ k, k < w → cellB ts L a k = true) → ∃ ρ', forK Φ n (.n 3) Bi (upTo 0 w) [some T, some (.d (layD L)), some (.d (.int a)), o] [] = .ok (.ret (.d (.bool false)), ρ') []) := by
  have step := forK_find (Φ := Φ) (n := n) (t := .n 3) (b := Bi) (w := .d (.bool false)) (s := []) (fun ρ => ∃ o', ρ = [some T, some (.d (layD L)), some (.d (.int a)), o']) (fun k => cellB ts L a k) (upTo 0 w) 0 [some T, some (.d (layD L)), some (.d (.int a)), o] ⟨o, rfl⟩ fun j x ρ hj ⟨o', hρ⟩ => by
    subst hρ
    obtain ⟨rfl, hjl⟩ := upTo_get _ _ _ _ hj
    rw [Int.zero_add, Nat.zero_add]
    have hb := H a j ha hjl
    exact ⟨_, rfl, fun hp => ⟨_, .inl (hb.1 hp), _, rfl⟩, fun hp => ⟨_, hb.2 (by rw [hp]; exact Bool.false_ne_true)⟩⟩
  rw [upTo_len] at step
  simp only [Nat.zero_add] at step
  refine ⟨fun h => ?_, fun h => step.2 h⟩
  obtain ⟨ρ', e, o', rfl⟩ := step.1 h
  exact ⟨o', e⟩
theorem laid_gen (hL : LayOk ts.length w L) (hl : L.length ≤ 1000) (hw : w ≤ 1000) (H : InnerOk Φ n T Bi ts w L) :
    endP (runB Φ n [(.for (.n 2) (.rng1 (.bi .len (.cons (.var 1) .nil))) [(.for (.n 3) (.rng1 (.bi .len (.cons (.idx (.var 1) (.var 2)) .nil))) Bi)]), (.ret (.cst (.bool true)))] [some T, some (.d (layD L)), none, none] []) = some (.ret (.d (.bool (laidD ts w L)))) := by
  have sp : sizeLine = 16777216 := by decide
  have step := forK_find (Φ := Φ) (n := n) (t := .n 2) (b := [(.for (.n 3) (.rng1 (.bi .len (.cons (.idx (.var 1) (.var 2)) .nil))) Bi)]) (w := .d (.bool false)) (s := []) (fun ρ => ∃ o2 o3, ρ = [some T, some (.d (layD L)), o2, o3])
    (fun a => @decide (∀ k, k < w → cellB ts L a k = true) (Classical.propDecidable _)) (upTo 0 L.length) 0 [some T, some (.d (layD L)), none, none] ⟨_, _, rfl⟩ fun j x ρ hj ⟨o2, o3, hρ⟩ => by
      subst hρ
      obtain ⟨rfl, hjl⟩ := upTo_get _ _ _ _ hj
      rw [Int.zero_add, Nat.zero_add]
      have hm := hL _ (gR_mem hjl)
      obtain ⟨g1, g2⟩ := row_gen H hjl o3
      have er := rng_row (Φ := Φ) (T := some T) (o := o3) (s := []) (at_lay hjl) (by rw [List.length_map, hm.1]; omega)
      rw [List.length_map, hm.1] at er
      refine ⟨_, rfl, fun hp => ?_, fun hp => ?_⟩
      · obtain ⟨o', e⟩ := g1 (by simpa using hp)
        refine ⟨[some T, some (.d (layD L)), some (.d (.int (j : Int))), o'], .inl ?_, _, _, rfl⟩
        rw [rB_cons, rS_for]
        exact (congrArg (fun r => R.sq (forS Φ n (.n 3) Bi [some T, some (.d (layD L)), some (.d (.int (j : Int))), o3] r) (runB Φ n [])) er).trans (by rw [forS_ok, e, R.sq_nx, rB_nil])
      · obtain ⟨ρ', e⟩ := g2 (by simpa using hp)
        refine ⟨ρ', ?_⟩
        rw [rB_cons, rS_for]
        exact (congrArg (fun r => R.sq (forS Φ n (.n 3) Bi [some T, some (.d (layD L)), some (.d (.int (j : Int))), o3] r) (runB Φ n [])) er).trans (by rw [forS_ok, e, R.sq_ret])
  rw [upTo_len] at step
  simp only [Nat.zero_add, decide_eq_true_eq] at step
  have er := rng_all (Φ := Φ) (T := some T) (o2 := none) (o3 := none) (s := []) (rows := L.map rowD) (by rw [List.length_map]; omega)
  rw [List.length_map] at er
  rw [rB_cons, rS_for]
  refine (congrArg (fun r => endP (R.sq (forS Φ n (.n 2) [(.for (.n 3) (.rng1 (.bi .len (.cons (.idx (.var 1) (.var 2)) .nil))) Bi)] [some T, some (.d (layD L)), none, none] r) (runB Φ n [(.ret (.cst (.bool true)))]))) er).trans ?_
  simp only [forS_ok]
  by_cases h : laidB ts w L
  · obtain ⟨ρ', e, o2, o3, rfl⟩ := step.1 h
    rw [e, R.sq_nx, rB_cons, rS_ret, rE_cst, R.st_ok, R.sq_ret, show laidD ts w L = true by unfold laidD; exact @decide_eq_true _ (_) h]
    rfl
  · obtain ⟨ρ', e⟩ := step.2 h
    rw [e, R.sq_ret, show laidD ts w L = false by unfold laidD; exact @decide_eq_false _ (_) h]
    rfl
end
theorem atD_tile {ts : List Tile} {i : Nat} (h : i < ts.length) : atD (ts.map Tile.d) (i : Int) = some (.tuple [.int (tl ts i).n, .int (tl ts i).e, .int (tl ts i).s, .int (tl ts i).w]) := at_rows h
theorem cell_iff2 {ts : List Tile} {L : List (List Nat)} {a k : Nat} : ((¬ (0 : Int) < (k : Int) ∨ (tl ts (gN (gR L a) (k - 1))).e = (tl ts (gN (gR L a) k)).w) ∧ (¬ (0 : Int) < (a : Int) ∨ (tl ts (gN (gR L (a - 1)) k)).s = (tl ts (gN (gR L a) k)).n)) ↔ cellB ts L a k = true := by
  rw [← cell_iff]
  unfold besideB belowB
  rw [decide_eq_true_eq, decide_eq_true_eq]
theorem look_inner {Φ : Phi} {n : Nat} {ts : List Tile} {w : Nat} {L : List (List Nat)} (hL : LayOk ts.length w L) : InnerOk Φ n (.d (rowsD ts)) B_lookIn ts w L := fun a j ha hj => by
  have hm := hL _ (gR_mem ha)
  have hk : j < (gR L a).length := by rw [hm.1]; exact hj
  have hb := look_in (Φ := Φ) (n := n) (tsd := ts.map Tile.d) (rows := L.map rowD) (a := (a : Int)) (k := (j : Int)) (y := (gN (gR L a) (j - 1) : Nat)) (z := (gN (gR L (a - 1)) j : Nat)) (r2 := (gR L (a - 1)).map fun (i : Nat) => PyData.int (i : Int)) (s := []) (at_lay ha) (at_row hk) (atD_tile (getD_lt hm.2 hk))
    (fun h0 => by
      have e : ((j : Int) - 1) = ((j - 1 : Nat) : Int) := by omega
      rw [e]
      exact at_row (by omega))
    (fun h0 => atD_tile (getD_lt hm.2 (by omega)))
    (fun h0 => by
      have e : ((a : Int) - 1) = ((a - 1 : Nat) : Int) := by omega
      rw [e]
      exact at_lay (by omega))
    (fun h0 => at_row (by rw [(hL _ (gR_mem (show a - 1 < L.length by omega))).1]; exact hj))
    (fun h0 => atD_tile (getD_lt (hL _ (gR_mem (show a - 1 < L.length by omega))).2 (by rw [(hL _ (gR_mem (show a - 1 < L.length by omega))).1]; exact hj)))
  rw [cell_iff2] at hb
  exact hb
def B_look : List S := [(.for (.n 2) (.rng1 (.bi .len (.cons (.var 1) .nil))) [(.for (.n 3) (.rng1 (.bi .len (.cons (.idx (.var 1) (.var 2)) .nil))) B_lookIn)]), (.ret (.cst (.bool true)))]
def LookOk (φ : Fs) : Prop := ∀ (ts : List Tile) (w : Nat) (L : List (List Nat)) (s : List Cell), LayOk ts.length w L → L.length ≤ 1000 → w ≤ 1000 → callF φ [.d (rowsD ts), .d (layD L)] s = .ok (.d (.bool (laidD ts w L))) s
theorem look_ok (Φ : Phi) (n : Nat) : LookOk (.p 2 (gP Φ n B_look 4)) := fun ts w L s hL hl hw =>
  callP rfl (vs := [.d (rowsD ts), .d (layD L)]) rfl (laid_gen hL hl hw (look_inner hL))
end DM

set_option maxRecDepth 100000
/-! L10: what goes on in itself. -/
namespace DM
open PySem
def B_rollE : List S := [(.ite (.cmp .ne (.idx (.idx (.var 0) (.idx (.var 2) (.bin .sub (.bi .len (.cons (.var 2) .nil)) (.cst (.int 1))))) (.cst (.int 1))) (.idx (.idx (.var 0) (.idx (.var 2) (.cst (.int 0)))) (.cst (.int 3)))) [(.ret (.cst (.bool false)))] [])]
def B_rollS : List S := [(.ite (.cmp .ne (.idx (.idx (.var 0) (.idx (.idx (.var 1) (.bin .sub (.bi .len (.cons (.var 1) .nil)) (.cst (.int 1)))) (.var 3))) (.cst (.int 2))) (.idx (.idx (.var 0) (.idx (.idx (.var 1) (.cst (.int 0))) (.var 3))) (.cst (.int 0)))) [(.ret (.cst (.bool false)))] [])]
theorem rollE_in {Φ : Phi} {n : Nat} {tsd row : List PyData} {v1 o3 : Option W} {x y x1 x2 x3 x4 y1 y2 y3 y4 : Int} {s : List Cell}
    (e1 : atD row ((row.length : Int) - 1) = some (.int x)) (e2 : atD row 0 = some (.int y)) (ex : atD tsd x = some (.tuple [.int x1, .int x2, .int x3, .int x4])) (ey : atD tsd y = some (.tuple [.int y1, .int y2, .int y3, .int y4])) :
    (x2 = y4 → runB Φ n B_rollE [some (.d (.list tsd)), v1, some (.d (.tuple row)), o3] s = .ok (.nx, [some (.d (.list tsd)), v1, some (.d (.tuple row)), o3]) s) ∧
    (¬ x2 = y4 → runB Φ n B_rollE [some (.d (.list tsd)), v1, some (.d (.tuple row)), o3] s = .ok (.ret (.d (.bool false)), [some (.d (.list tsd)), v1, some (.d (.tuple row)), o3]) s) := by
  refine ⟨fun h => ?_, fun h => ?_⟩
  · simp [B_rollE, seeAll, e1, e2, ex, ey, at4_1, at4_3, h]
  · simp [B_rollE, seeAll, e1, e2, ex, ey, at4_1, at4_3, h]
theorem rollS_in {Φ : Phi} {n : Nat} {tsd rows r1 r2 : List PyData} {o2 : Option W} {k x y x1 x2 x3 x4 y1 y2 y3 y4 : Int} {s : List Cell}
    (e1 : atD rows ((rows.length : Int) - 1) = some (.tuple r1)) (e2 : atD rows 0 = some (.tuple r2)) (e3 : atD r1 k = some (.int x)) (e4 : atD r2 k = some (.int y)) (ex : atD tsd x = some (.tuple [.int x1, .int x2, .int x3, .int x4])) (ey : atD tsd y = some (.tuple [.int y1, .int y2, .int y3, .int y4])) :
    (x3 = y1 → runB Φ n B_rollS [some (.d (.list tsd)), some (.d (.list rows)), o2, some (.d (.int k))] s = .ok (.nx, [some (.d (.list tsd)), some (.d (.list rows)), o2, some (.d (.int k))]) s) ∧
    (¬ x3 = y1 → runB Φ n B_rollS [some (.d (.list tsd)), some (.d (.list rows)), o2, some (.d (.int k))] s = .ok (.ret (.d (.bool false)), [some (.d (.list tsd)), some (.d (.list rows)), o2, some (.d (.int k))]) s) := by
  refine ⟨fun h => ?_, fun h => ?_⟩
  · simp [B_rollS, seeAll, e1, e2, e3, e4, ex, ey, at4_0, at4_2, h]
  · simp [B_rollS, seeAll, e1, e2, e3, e4, ex, ey, at4_0, at4_2, h]
def eastP (ts : List Tile) (w : Nat) (L : List (List Nat)) (a : Nat) : Prop := (tl ts (gN (gR L a) (w - 1))).e = (tl ts (gN (gR L a) 0)).w
def southP (ts : List Tile) (L : List (List Nat)) (k : Nat) : Prop := (tl ts (gN (gR L (L.length - 1)) k)).s = (tl ts (gN (gR L 0) k)).n
def rollsP (ts : List Tile) (w : Nat) (L : List (List Nat)) : Prop := (∀ a, a < L.length → eastP ts w L a) ∧ ∀ k, k < w → southP ts L k
open Classical in
noncomputable def rollsD (ts : List Tile) (w : Nat) (L : List (List Nat)) : Bool := decide (rollsP ts w L)
section
variable {Φ : Phi} {n : Nat} {T : W} {B1 B2 : List S} {ts : List Tile} {w : Nat} {L : List (List Nat)}
theorem it_rows {o2 o3 : Option W} {T : Option W} : runI Φ (.seq (.var 1)) [T, some (.d (layD L)), o2, o3] [] = .ok (L.map rowD) [] := by
  unfold layD
  simp [-List.map_map, frzR]
theorem rng_first {T o2 o3 : Option W} {rows r1 : List PyData} (e1 : atD rows 0 = some (.tuple r1)) (hl : r1.length ≤ sizeLine) : runI Φ (.rng1 (.bi .len (.cons (.idx (.var 1) (.cst (.int 0))) .nil))) [T, some (.d (.list rows)), o2, o3] [] = .ok (upTo 0 r1.length) [] := by
  have hsm := smallI_len hl
  simp [seeAll, e1, hsm]
theorem rolls_gen (hL : LayOk ts.length w L) (l1 : 1 ≤ L.length) (hw : w ≤ 1000)
    (H1 : ∀ a o3, a < L.length → (eastP ts w L a → runB Φ n B1 [some T, some (.d (layD L)), some (.d (rowD (gR L a))), o3] [] = .ok (.nx, [some T, some (.d (layD L)), some (.d (rowD (gR L a))), o3]) []) ∧ (¬ eastP ts w L a → runB Φ n B1 [some T, some (.d (layD L)), some (.d (rowD (gR L a))), o3] [] = .ok (.ret (.d (.bool false)), [some T, some (.d (layD L)), some (.d (rowD (gR L a))), o3]) []))
    (H2 : ∀ k o2, k < w → (southP ts L k → runB Φ n B2 [some T, some (.d (layD L)), o2, some (.d (.int (k : Int)))] [] = .ok (.nx, [some T, some (.d (layD L)), o2, some (.d (.int (k : Int)))]) []) ∧ (¬ southP ts L k → runB Φ n B2 [some T, some (.d (layD L)), o2, some (.d (.int (k : Int)))] [] = .ok (.ret (.d (.bool false)), [some T, some (.d (layD L)), o2, some (.d (.int (k : Int)))]) [])) :
    endP (runB Φ n [(.for (.n 2) (.seq (.var 1)) B1), (.for (.n 3) (.rng1 (.bi .len (.cons (.idx (.var 1) (.cst (.int 0))) .nil))) B2), (.ret (.cst (.bool true)))] [some T, some (.d (layD L)), none, none] []) = some (.ret (.d (.bool (rollsD ts w L)))) := by
  have sp : sizeLine = 16777216 := by decide
  have s1 := forK_find (Φ := Φ) (n := n) (t := .n 2) (b := B1) (w := .d (.bool false)) (s := []) (fun ρ => ∃ o2 o3, ρ = [some T, some (.d (layD L)), o2, o3])
    (fun a => @decide (eastP ts w L a) (Classical.propDecidable _)) (L.map rowD) 0 [some T, some (.d (layD L)), none, none] ⟨_, _, rfl⟩ fun j x ρ hj ⟨o2, o3, hρ⟩ => by
      subst hρ
      rw [List.getElem?_map] at hj
      cases ej : L[j]? with
      | none => rw [ej] at hj; cases hj
      | some r =>
        rw [ej] at hj
        cases hj
        obtain ⟨hjl, er⟩ := List.getElem?_eq_some_iff.mp ej
        have : gR L j = r := by unfold gR; rw [List.getD_eq_getElem?_getD, ej]; rfl
        subst this
        rw [Nat.zero_add]
        have hb := H1 j o3 hjl
        exact ⟨_, rfl, fun hp => ⟨_, .inl (hb.1 (by simpa using hp)), _, _, rfl⟩, fun hp => ⟨_, hb.2 (by simpa using hp)⟩⟩
  rw [List.length_map] at s1
  simp only [Nat.zero_add, decide_eq_true_eq] at s1
  rw [rB_cons, rS_for, it_rows, forS_ok]
  by_cases h1 : ∀ a, a < L.length → eastP ts w L a
  · obtain ⟨ρ', e, o2, o3, rfl⟩ := s1.1 h1
    have s2 := forK_find (Φ := Φ) (n := n) (t := .n 3) (b := B2) (w := .d (.bool false)) (s := []) (fun ρ => ∃ o2 o3, ρ = [some T, some (.d (layD L)), o2, o3])
      (fun k => @decide (southP ts L k) (Classical.propDecidable _)) (upTo 0 w) 0 [some T, some (.d (layD L)), o2, o3] ⟨_, _, rfl⟩ fun j x ρ hj ⟨o2, o3, hρ⟩ => by
        subst hρ
        obtain ⟨rfl, hjl⟩ := upTo_get _ _ _ _ hj
        rw [Int.zero_add, Nat.zero_add]
        have hb := H2 j o2 hjl
        exact ⟨_, rfl, fun hp => ⟨_, .inl (hb.1 (by simpa using hp)), _, _, rfl⟩, fun hp => ⟨_, hb.2 (by simpa using hp)⟩⟩
    rw [upTo_len] at s2
    simp only [Nat.zero_add, decide_eq_true_eq] at s2
    have hm := hL _ (gR_mem (show 0 < L.length by omega))
    have er := rng_first (Φ := Φ) (T := some T) (o2 := o2) (o3 := o3) (rows := L.map rowD) (at_lay (show 0 < L.length by omega)) (by rw [List.length_map, hm.1]; omega)
    rw [List.length_map, hm.1] at er
    rw [e, R.sq_nx, rB_cons, rS_for]
    refine (congrArg (fun r => endP (R.sq (forS Φ n (.n 3) B2 [some T, some (.d (layD L)), o2, o3] r) (runB Φ n [(.ret (.cst (.bool true)))]))) er).trans ?_
    simp only [forS_ok]
    by_cases h2 : ∀ k, k < w → southP ts L k
    · obtain ⟨ρ', e, o2, o3, rfl⟩ := s2.1 h2
      rw [e, R.sq_nx, rB_cons, rS_ret, rE_cst, R.st_ok, R.sq_ret, show rollsD ts w L = true by unfold rollsD; exact @decide_eq_true _ (_) ⟨h1, h2⟩]
      rfl
    · obtain ⟨ρ', e⟩ := s2.2 h2
      rw [e, R.sq_ret, show rollsD ts w L = false by unfold rollsD; exact @decide_eq_false _ (_) fun h => h2 h.2]
      rfl
  · obtain ⟨ρ', e⟩ := s1.2 h1
    rw [e, R.sq_ret, show rollsD ts w L = false by unfold rollsD; exact @decide_eq_false _ (_) fun h => h1 h.1]
    rfl
end
end DM

set_option maxRecDepth 100000
/-! L11: rolls, is_rolled. -/
namespace DM
open PySem
def B_rolls : List S := [(.for (.n 2) (.seq (.var 1)) B_rollE), (.for (.n 3) (.rng1 (.bi .len (.cons (.idx (.var 1) (.cst (.int 0))) .nil))) B_rollS), (.ret (.cst (.bool true)))]
def RollsOk (φ : Fs) : Prop := ∀ (ts : List Tile) (w : Nat) (L : List (List Nat)) (s : List Cell), LayOk ts.length w L → 1 ≤ L.length → 1 ≤ w → w ≤ 1000 → callF φ [.d (rowsD ts), .d (layD L)] s = .ok (.d (.bool (rollsD ts w L))) s
theorem at_last {r : List Nat} (h : 1 ≤ r.length) : atD (r.map fun (i : Nat) => PyData.int (i : Int)) ((((r.map fun (i : Nat) => PyData.int (i : Int)).length : Nat) : Int) - 1) = some (.int (gN r (r.length - 1) : Nat)) := by
  rw [List.length_map, show ((r.length : Int) - 1) = ((r.length - 1 : Nat) : Int) by omega]
  exact at_row (by omega)
theorem at_first {r : List Nat} (h : 1 ≤ r.length) : atD (r.map fun (i : Nat) => PyData.int (i : Int)) 0 = some (.int (gN r 0 : Nat)) := at_row (j := 0) (by omega)
theorem lay_last {L : List (List Nat)} (h : 1 ≤ L.length) : atD (L.map rowD) ((((L.map rowD).length : Nat) : Int) - 1) = some (.tuple ((gR L (L.length - 1)).map fun (i : Nat) => PyData.int (i : Int))) := by
  rw [List.length_map, show ((L.length : Int) - 1) = ((L.length - 1 : Nat) : Int) by omega]
  exact at_lay (by omega)
theorem lay_first {L : List (List Nat)} (h : 1 ≤ L.length) : atD (L.map rowD) 0 = some (.tuple ((gR L 0).map fun (i : Nat) => PyData.int (i : Int))) := at_lay (a := 0) (by omega)
theorem rolls_ok (Φ : Phi) (n : Nat) : RollsOk (.p 2 (gP Φ n B_rolls 4)) := fun ts w L s hL l1 w1 hw => by
  refine callP rfl (vs := [.d (rowsD ts), .d (layD L)]) rfl (rolls_gen hL l1 hw (fun a o3 ha => ?_) fun k o2 hk => ?_)
  · have hm := hL _ (gR_mem ha)
    have hb := rollE_in (Φ := Φ) (n := n) (tsd := ts.map Tile.d) (v1 := some (.d (layD L))) (o3 := o3) (s := []) (at_last (r := gR L a) (by omega)) (at_first (by omega)) (atD_tile (getD_lt hm.2 (by omega))) (atD_tile (getD_lt hm.2 (by omega)))
    unfold eastP
    rw [← hm.1]
    exact hb
  · have hm := hL _ (gR_mem (show L.length - 1 < L.length by omega))
    have hm0 := hL _ (gR_mem (show 0 < L.length by omega))
    exact rollS_in (Φ := Φ) (n := n) (tsd := ts.map Tile.d) (o2 := o2) (s := []) (lay_last l1) (lay_first l1) (at_row (by omega)) (at_row (by omega)) (atD_tile (getD_lt hm.2 (by omega))) (atD_tile (getD_lt hm0.2 (by omega)))
def B_rlE : List S := [(.ite (.not (.meth (.var 0) 2 (.cons (.idx (.var 2) (.bin .sub (.bi .len (.cons (.var 2) .nil)) (.cst (.int 1)))) (.cons (.idx (.var 2) (.cst (.int 0))) .nil)))) [(.ret (.cst (.bool false)))] [])]
def B_rlS : List S := [(.ite (.not (.meth (.var 0) 3 (.cons (.idx (.idx (.var 1) (.bin .sub (.bi .len (.cons (.var 1) .nil)) (.cst (.int 1)))) (.var 3)) (.cons (.idx (.idx (.var 1) (.cst (.int 0))) (.var 3)) .nil)))) [(.ret (.cst (.bool false)))] [])]
def B_isRolled : List S := [(.ite (.not (.call 67 (.cons (.var 0) (.cons (.var 1) .nil)))) [(.ret (.cst (.bool false)))] []), (.for (.n 2) (.seq (.var 1)) B_rlE), (.for (.n 3) (.rng1 (.bi .len (.cons (.idx (.var 1) (.cst (.int 0))) .nil))) B_rlS), (.ret (.cst (.bool true)))]
theorem rlE_in {Φ : Phi} {n : Nat} {β : Fs} {fs : List (Nat × PyData)} (hβ : Φ.mt 2 2 = some β) {row : List PyData} {v1 o3 : Option W} {x y : Int} {b : Bool} {s : List Cell}
    (e1 : atD row ((row.length : Int) - 1) = some (.int x)) (e2 : atD row 0 = some (.int y)) (ec : callF β [.o 2 fs, .d (.int x), .d (.int y)] s = .ok (.d (.bool b)) s) :
    (b = true → runB Φ n B_rlE [some (.o 2 fs), v1, some (.d (.tuple row)), o3] s = .ok (.nx, [some (.o 2 fs), v1, some (.d (.tuple row)), o3]) s) ∧
    (¬ b = true → runB Φ n B_rlE [some (.o 2 fs), v1, some (.d (.tuple row)), o3] s = .ok (.ret (.d (.bool false)), [some (.o 2 fs), v1, some (.d (.tuple row)), o3]) s) := by
  cases b with
  | true => exact ⟨fun _ => by simp [B_rlE, clsOf, hβ, seeAll, e1, e2, ec], fun h => absurd rfl h⟩
  | false => exact ⟨fun h => (by cases h), fun _ => by simp [B_rlE, clsOf, hβ, seeAll, e1, e2, ec]⟩
theorem rlS_in {Φ : Phi} {n : Nat} {γ : Fs} {fs : List (Nat × PyData)} (hγ : Φ.mt 2 3 = some γ) {rows r1 r2 : List PyData} {o2 : Option W} {k x y : Int} {b : Bool} {s : List Cell}
    (e1 : atD rows ((rows.length : Int) - 1) = some (.tuple r1)) (e2 : atD rows 0 = some (.tuple r2)) (e3 : atD r1 k = some (.int x)) (e4 : atD r2 k = some (.int y)) (ec : callF γ [.o 2 fs, .d (.int x), .d (.int y)] s = .ok (.d (.bool b)) s) :
    (b = true → runB Φ n B_rlS [some (.o 2 fs), some (.d (.list rows)), o2, some (.d (.int k))] s = .ok (.nx, [some (.o 2 fs), some (.d (.list rows)), o2, some (.d (.int k))]) s) ∧
    (¬ b = true → runB Φ n B_rlS [some (.o 2 fs), some (.d (.list rows)), o2, some (.d (.int k))] s = .ok (.ret (.d (.bool false)), [some (.o 2 fs), some (.d (.list rows)), o2, some (.d (.int k))]) s) := by
  cases b with
  | true => exact ⟨fun _ => by simp [B_rlS, clsOf, hγ, seeAll, e1, e2, e3, e4, ec], fun h => absurd rfl h⟩
  | false => exact ⟨fun h => (by cases h), fun _ => by simp [B_rlS, clsOf, hγ, seeAll, e1, e2, e3, e4, ec]⟩
theorem isRolled_head {Φ : Phi} {n : Nat} {φ : Fs} {T : W} {rows : PyData} {b : Bool} {rest : List S} (hφ : Φ.fn 67 = some φ) (e : callF φ [T, .d rows] [] = .ok (.d (.bool b)) []) :
    runB Φ n ((.ite (.not (.call 67 (.cons (.var 0) (.cons (.var 1) .nil)))) [(.ret (.cst (.bool false)))] []) :: rest) [some T, some (.d rows), none, none] [] = if b = true then runB Φ n rest [some T, some (.d rows), none, none] [] else .ok (.ret (.d (.bool false)), [some T, some (.d rows), none, none]) [] := by
  cases b with
  | true => simp [hφ, e]
  | false => simp [hφ, e]
def IsRolledOk (φ : Fs) : Prop := ∀ (ts : List Tile) (w : Nat) (L : List (List Nat)) (s : List Cell), LayOk ts.length w L → 1 ≤ L.length → L.length ≤ 1000 → 1 ≤ w → w ≤ 1000 → callF φ [setW ts, .d (layD L)] s = .ok (.d (.bool (laidD ts w L && rollsD ts w L))) s
theorem isRolled_ok {Φ : Phi} {φ β γ : Fs} (n : Nat) (hφ : Φ.fn 67 = some φ) (La : LaidOk φ) (hβ : Φ.mt 2 2 = some β) (Be : PairOk β besideB) (hγ : Φ.mt 2 3 = some γ) (Bl : PairOk γ belowB) : IsRolledOk (.p 2 (gP Φ n B_isRolled 4)) := fun ts w L s hL l1 l2 w1 hw => by
  refine callP rfl (vs := [setW ts, .d (layD L)]) rfl ?_
  have e1 := La ts w L [] hL l2 hw
  show endP (runB Φ n B_isRolled [some (setW ts), some (.d (layD L)), none, none] []) = _
  unfold B_isRolled
  rw [isRolled_head hφ e1]
  cases hd : laidD ts w L with
  | false => rw [if_neg Bool.false_ne_true]; rfl
  | true =>
    rw [if_pos rfl, Bool.true_and]
    refine rolls_gen hL l1 hw (fun a o3 ha => ?_) fun k o2 hk => ?_
    · have hm := hL _ (gR_mem ha)
      have hb := rlE_in (Φ := Φ) (n := n) (fs := [(3, rowsD ts)]) hβ (v1 := some (.d (layD L))) (o3 := o3) (s := []) (at_last (r := gR L a) (by omega)) (at_first (by omega)) (Be ts _ _ [] (getD_lt hm.2 (by omega)) (getD_lt hm.2 (by omega)))
      unfold besideB at hb
      rw [decide_eq_true_eq] at hb
      unfold eastP
      rw [← hm.1]
      exact hb
    · have hm := hL _ (gR_mem (show L.length - 1 < L.length by omega))
      have hm0 := hL _ (gR_mem (show 0 < L.length by omega))
      have hb := rlS_in (Φ := Φ) (n := n) (fs := [(3, rowsD ts)]) hγ (o2 := o2) (s := []) (lay_last l1) (lay_first l1) (at_row (j := k) (by omega)) (at_row (j := k) (by omega)) (Bl ts _ _ [] (getD_lt hm.2 (by omega)) (getD_lt hm0.2 (by omega)))
      unfold belowB at hb
      rw [decide_eq_true_eq] at hb
      exact hb
end DM

set_option maxRecDepth 100000
/-! K02b: the law laid_or_not, of its run. -/
namespace DM
open PySem
/-! ### a turn, by what it evaluates -/
theorem turnK_e {Φ : Phi} {i : Nat} {own : List Nat} {e : E} {ρ : Env} {x y : PyData} {s s' : List Cell} (h : runE Φ e ((wipeE ρ own).set i (some (.d x))) s = .ok (.d y) s') : turnK Φ (.n i) own .none e ρ x s = .ok (some y) s' := by
  show ((runC Φ .none ((wipeE ρ own).set i (some (.d x))) s).bind fun b s => if b then (runE Φ e ((wipeE ρ own).set i (some (.d x))) s).bind fun w s => (frzR w s).bind fun y s => .ok (some y) s else .ok none s : R (Option PyData)) = _
  rw [rC_none, R.bind_ok, if_pos rfl, h]
  rfl
theorem turnK_c {Φ : Phi} {i : Nat} {own : List Nat} {c e : E} {ρ : Env} {x y : PyData} {b : Bool} {s s' s'' : List Cell} (hc : runE Φ c ((wipeE ρ own).set i (some (.d x))) s = .ok (.d (.bool b)) s') (h : b = true → runE Φ e ((wipeE ρ own).set i (some (.d x))) s' = .ok (.d y) s'') (hn : b = false → s'' = s') : turnK Φ (.n i) own (.some c) e ρ x s = .ok (if b then some y else none) s'' := by
  show ((runC Φ (.some c) ((wipeE ρ own).set i (some (.d x))) s).bind fun b s => if b then (runE Φ e ((wipeE ρ own).set i (some (.d x))) s).bind fun w s => (frzR w s).bind fun y s => .ok (some y) s else .ok none s : R (Option PyData)) = _
  rw [rC_some, hc]
  cases b with
  | true => simp only [R.bind_ok, tt_b, if_true]; rw [h rfl]; rfl
  | false => simp only [R.bind_ok, tt_b]; rw [hn rfl]; rfl
/-! ### draws in comprehensions -/
theorem compK_draws {Φ : Phi} {tg : Tg} {own : List Nat} {c : Oe} {e : E} {ρ : Env} {β : Type} {d : β → PyData} {P : β → Prop} : ∀ (items : List PyData) (c0 : Cell), OkDice c0 →
    (∀ x ∈ items, ∀ c1, OkDice c1 → ∃ c2 y, turnK Φ tg own c e ρ x [c1] = .ok (some (d y)) [c2] ∧ OkDice c2 ∧ P y) →
    ∃ (c2 : Cell) (ys : List β), compK Φ tg own c e ρ items [c0] = .ok (ys.map d) [c2] ∧ OkDice c2 ∧ ys.length = items.length ∧ ∀ y ∈ ys, P y
  | [], c0, h0, _ => ⟨c0, [], rfl, h0, rfl, by simp⟩
  | x :: xs, c0, h0, h => by
    obtain ⟨c1, y, e1, h1, p1⟩ := h x List.mem_cons_self c0 h0
    obtain ⟨c2, ys, e2, h2, l2, p2⟩ := compK_draws xs c1 h1 fun z hz => h z (List.mem_cons_of_mem _ hz)
    refine ⟨c2, y :: ys, ?_, h2, by simp [l2], ?_⟩
    · show (match turnK Φ tg own c e ρ x [c0] with
        | .ok y s => (compK Φ tg own c e ρ xs s).bind fun ys s => match y with | some y => R.ok (y :: ys) s | none => R.ok ys s
        | _ => R.no) = _
      rw [e1]
      simp only [e2, R.bind_ok, List.map_cons]
    · intro z hz
      rcases List.mem_cons.mp hz with rfl | hz
      · exact p1
      · exact p2 z hz
theorem c_eq_bool (a b : Bool) : cmpD .eq (.bool a) (.bool b) = some (a == b) := by cases a <;> cases b <;> rfl
theorem c_ne_nil {l : List PyData} (h : okD (.list l) = true) : cmpD .ne (.list l) (.list []) = some (!l.isEmpty) := by
  show (if okD (.list l) && okD (.list []) then some (!(PyData.list l).eqv (.list [])) else none) = _
  rw [h]
  cases l <;> rfl
theorem row_Nd (r : List Nat) (h : r.length ≤ sizeLine) : Nd 1 (rowD r) = true := by
  unfold rowD
  simp [Nd, h]
theorem lay_Nd {L : List (List Nat)} (h : L.length ≤ sizeLine) (h2 : ∀ r ∈ L, r.length ≤ sizeLine) : Nd 2 (layD L) = true := by
  unfold layD
  simp only [Nd, Bool.and_eq_true, decide_eq_true_eq, List.length_map, List.all_map, List.all_eq_true]
  exact ⟨h, fun r hr => row_Nd r (h2 r hr)⟩
theorem layOk_Nd {n w : Nat} {L : List (List Nat)} (h : LayOk n w L) (hl : L.length ≤ 1000) (hw : w ≤ 1000) : Nd 2 (layD L) = true := by
  have sp : sizeLine = 16777216 := by decide
  exact lay_Nd (by omega) fun r hr => by rw [(h r hr).1]; omega
theorem lays_Nd {Ls : List (List (List Nat))} (h : Ls.length ≤ sizeLine) (h2 : ∀ L ∈ Ls, Nd 2 (layD L) = true) : Nd 3 (.list (Ls.map layD)) = true := by
  simp only [Nd, Bool.and_eq_true, decide_eq_true_eq, List.length_map, List.all_map, List.all_eq_true]
  exact ⟨h, fun L hL => h2 L hL⟩
theorem rowsOf_ok {n h w : Nat} {r : List Nat} (hr : r.length = h * w) (hn : ∀ i ∈ r, i < n) : LayOk n w (rowsOf h w r) := by
  intro q hq
  unfold rowsOf at hq
  obtain ⟨k, hk, rfl⟩ := List.mem_map.mp hq
  rw [List.mem_range] at hk
  have : k * w + w ≤ h * w := by rw [← Nat.succ_mul]; exact Nat.mul_le_mul_right _ hk
  refine ⟨by simp; omega, fun i hi => hn i (List.mem_of_mem_drop (List.mem_of_mem_take hi))⟩
theorem rowsOf_len (h w : Nat) (r : List Nat) : (rowsOf h w r).length = h := by simp [rowsOf]

/-! ### the law's parts -/
abbrev E_drawRow : E := .tupOf (.fr (.comp (.rng1 (.var 4)) (.n 9) [9] .none (.call 34 (.cons (.var 1) (.cons (.bi .len (.cons (.var 2) .nil)) .nil)))))
abbrev E_drawLay : E := .fr (.comp (.rng1 (.var 3)) (.n 8) [8] .none E_drawRow)
abbrev E_rolling : E := .fr (.comp (.seq (.var 6)) (.n 15) [15] (.some (.call 45 (.cons (.var 2) (.cons (.var 15) .nil)))) (.var 15))
abbrev C_change : List S := [(.asg (.n 8) (.call 34 (.cons (.var 1) (.cons (.var 3) .nil)))), (.asg (.n 9) (.call 34 (.cons (.var 1) (.cons (.var 4) .nil)))), (.asg (.n 10) (.bin .add (.bin .add (.slc (.idx (.var 5) (.var 8)) .none (.some (.var 9))) (.tup (.cons (.call 34 (.cons (.var 1) (.cons (.bi .len (.cons (.var 2) .nil)) .nil))) .nil))) (.slc (.idx (.var 5) (.var 8)) (.some (.bin .add (.var 9) (.cst (.int 1)))) .none))), (.asg (.n 5) (.bin .add (.bin .add (.slc (.var 5) .none (.some (.var 8))) (.fr (.lst (.cons (.var 10) .nil)))) (.slc (.var 5) (.some (.bin .add (.var 8) (.cst (.int 1)))) .none)))]
abbrev C_pick : List S := [(.asg (.n 7) E_rolling), (.asg (.n 5) (.idx (.var 6) (.call 34 (.cons (.var 1) (.cons (.bi .len (.cons (.var 6) .nil)) .nil))))), (.ite (.and (.cmp .ne (.var 7) (.fr (.lst .nil))) (.cmp .eq (.call 34 (.cons (.var 1) (.cons (.cst (.int 2)) .nil))) (.cst (.int 1)))) [(.asg (.n 5) (.idx (.var 7) (.call 34 (.cons (.var 1) (.cons (.bi .len (.cons (.var 7) .nil)) .nil)))))] []), (.ite (.cmp .eq (.call 34 (.cons (.var 1) (.cons (.cst (.int 3)) .nil))) (.cst (.int 2))) C_change [])]
abbrev S_pick : S := .ite (.and (.cmp .ne (.var 6) (.fr (.lst .nil))) (.cmp .gt (.call 34 (.cons (.var 1) (.cons (.cst (.int 3)) .nil))) (.cst (.int 0)))) C_pick []
section
variable {Φ : Phi} {n : Nat} {φ : Fs}
/-- a number drawn -/
theorem draw0 (N : NextOk φ) {c : Cell} (hd : OkDice c) {m : Int} (h0 : 0 < m) (h1 : m < 9223372036854775808) : ∃ (r : Int) (c' : Cell), 0 ≤ r ∧ r < m ∧ OkDice c' ∧ callF φ [.h 0, .d (.int m)] [c] = .ok (.d (.int r)) [c'] := by
  obtain ⟨l, rfl⟩ := hd.lst
  obtain ⟨r, c', a, b, d, e⟩ := N [.lst l] 0 (.lst l) m hd rfl rfl h0 h1
  exact ⟨r, c', a, b, d, e⟩
theorem drawN (N : NextOk φ) {c : Cell} (hd : OkDice c) {m : Nat} (h0 : 0 < m) (h1 : m ≤ 1000000) : ∃ (r : Nat) (c' : Cell), r < m ∧ OkDice c' ∧ callF φ [.h 0, .d (.int (m : Int))] [c] = .ok (.d (.int (r : Int))) [c'] := by
  obtain ⟨r, c', a, b, d, e⟩ := draw0 N hd (m := (m : Int)) (by omega) (by omega)
  have : ((r.toNat : Nat) : Int) = r := by omega
  exact ⟨r.toNat, c', by omega, d, by rw [this]; exact e⟩
abbrev envL (a0 rows h w lay every o7 o8 o9 o10 o11 o12 o13 o14 o15 : Option W) : Env := [a0, some (.h 0), rows, h, w, lay, every, o7, o8, o9, o10, o11, o12, o13, o14, o15]
theorem turn9 {a0 h w o5 o6 o7 o8 o9 o10 o11 o12 o13 o14 o15 : Option W} {rows : List PyData} {x y : PyData} {c c' : Cell} (hφ : Φ.fn 34 = some φ) (e : callF φ [.h 0, .d (.int (rows.length : Int))] [c] = .ok (.d y) [c']) :
    turnK Φ (.n 9) [9] .none (.call 34 (.cons (.var 1) (.cons (.bi .len (.cons (.var 2) .nil)) .nil))) (envL a0 (some (.d (.list rows))) h w o5 o6 o7 o8 o9 o10 o11 o12 o13 o14 o15) x [c] = .ok (some y) [c'] := by
  unfold turnK
  simp [wipeE, asgT, hφ, seeAll, e, frzR]
theorem rng_var {i : Nat} {ρ : Env} {j : Int} {s : List Cell} (h : ρ[i]? = some (some (.d (.int j)))) (hj : smallI j = true) : runI Φ (.rng1 (.var i)) ρ s = .ok (upTo 0 j.toNat) s := by
  simp [h, hj]
theorem drawRow (hφ : Φ.fn 34 = some φ) (N : NextOk φ) {rows : List PyData} (h0 : 0 < rows.length) (h1 : rows.length ≤ 200) {w : Nat} (hw : w ≤ 1000) {a0 h o5 o6 o7 o8 o9 o10 o11 o12 o13 o14 o15 : Option W} {c : Cell} (hc : OkDice c) :
    ∃ (r : List Nat) (c' : Cell), r.length = w ∧ (∀ i ∈ r, i < rows.length) ∧ OkDice c' ∧ runE Φ E_drawRow (envL a0 (some (.d (.list rows))) h (some (.d (.int (w : Int)))) o5 o6 o7 o8 o9 o10 o11 o12 o13 o14 o15) [c] = .ok (.d (rowD r)) [c'] := by
  have sp : sizeLine = 16777216 := by decide
  obtain ⟨c', r, e, hd, hl, hr⟩ := compK_draws (Φ := Φ) (tg := .n 9) (own := [9]) (c := .none) (e := .call 34 (.cons (.var 1) (.cons (.bi .len (.cons (.var 2) .nil)) .nil))) (ρ := envL a0 (some (.d (.list rows))) h (some (.d (.int (w : Int)))) o5 o6 o7 o8 o9 o10 o11 o12 o13 o14 o15) (d := fun (i : Nat) => PyData.int (i : Int)) (P := fun i => i < rows.length) (upTo 0 w) c hc fun x _ c1 h1' => by
    obtain ⟨r, c2, r1, d2, e2⟩ := drawN N h1' h0 (by omega)
    exact ⟨c2, r, turn9 hφ e2, d2, r1⟩
  rw [upTo_len] at hl
  refine ⟨r, c', hl, hr, hd, ?_⟩
  have eI : runI Φ (.rng1 (.var 4)) (envL a0 (some (.d (.list rows))) h (some (.d (.int (w : Int)))) o5 o6 o7 o8 o9 o10 o11 o12 o13 o14 o15) [c] = .ok (upTo 0 w) [c] := by
    rw [rng_var (j := (w : Int)) rfl (smallI_len (by omega)), Int.toNat_natCast]
  have hlen : (upTo 0 w).length < sizeLine := by rw [upTo_len]; omega
  rw [rE_tupOf, rE_fr, rF_comp, eI, compT_ok1 _ _ _ _ _ _ _ _ hlen, e]
  rfl
theorem drawLay (hφ : Φ.fn 34 = some φ) (N : NextOk φ) {rows : List PyData} (h0 : 0 < rows.length) (h1 : rows.length ≤ 200) {h w : Nat} (hh : h ≤ 1000) (hw : w ≤ 1000) {a0 o5 o6 o7 o8 o9 o10 o11 o12 o13 o14 o15 : Option W} {c : Cell} (hc : OkDice c) :
    ∃ (L : List (List Nat)) (c' : Cell), L.length = h ∧ LayOk rows.length w L ∧ OkDice c' ∧ runE Φ E_drawLay (envL a0 (some (.d (.list rows))) (some (.d (.int (h : Int)))) (some (.d (.int (w : Int)))) o5 o6 o7 o8 o9 o10 o11 o12 o13 o14 o15) [c] = .ok (.d (layD L)) [c'] := by
  have sp : sizeLine = 16777216 := by decide
  obtain ⟨c', L, e, hd, hl, hr⟩ := compK_draws (Φ := Φ) (tg := .n 8) (own := [8]) (c := .none) (e := E_drawRow) (ρ := envL a0 (some (.d (.list rows))) (some (.d (.int (h : Int)))) (some (.d (.int (w : Int)))) o5 o6 o7 o8 o9 o10 o11 o12 o13 o14 o15) (d := rowD) (P := fun r => r.length = w ∧ ∀ i ∈ r, i < rows.length) (upTo 0 h) c hc fun x _ c1 h1' => by
    obtain ⟨r, c2, l2, r2, d2, e2⟩ := drawRow hφ N h0 h1 hw h1' (a0 := a0) (h := some (.d (.int (h : Int)))) (o5 := o5) (o6 := o6) (o7 := o7) (o8 := some (.d x)) (o9 := o9) (o10 := o10) (o11 := o11) (o12 := o12) (o13 := o13) (o14 := o14) (o15 := o15)
    refine ⟨c2, r, ?_, d2, l2, r2⟩
    exact turnK_e e2
  rw [upTo_len] at hl
  refine ⟨L, c', hl, hr, hd, ?_⟩
  have eI : runI Φ (.rng1 (.var 3)) (envL a0 (some (.d (.list rows))) (some (.d (.int (h : Int)))) (some (.d (.int (w : Int)))) o5 o6 o7 o8 o9 o10 o11 o12 o13 o14 o15) [c] = .ok (upTo 0 h) [c] := by
    rw [rng_var (j := (h : Int)) rfl (smallI_len (by omega)), Int.toNat_natCast]
  have hlen : (upTo 0 h).length < sizeLine := by rw [upTo_len]; omega
  rw [rE_fr, rF_comp, eI, compT_ok1 _ _ _ _ _ _ _ _ hlen, e]
  rfl
theorem cut_to (l : List PyData) (k : Nat) : cut l none (some (k : Int)) = l.take k := by
  unfold cut
  have e : sIx l.length l.length (some (k : Int)) = min k l.length := by
    unfold sIx
    simp only
    rw [if_neg (by omega), Int.toNat_natCast]
  have e0 : sIx l.length 0 none = 0 := rfl
  rw [e, e0, List.drop_zero, Nat.sub_zero]
  rcases Nat.le_total k l.length with h | h
  · rw [Nat.min_eq_left h]
  · rw [Nat.min_eq_right h, List.take_of_length_le (Nat.le_refl _), List.take_of_length_le h]
theorem cut_from (l : List PyData) (k : Nat) : cut l (some (k : Int)) none = l.drop k := by
  unfold cut
  have e : sIx l.length 0 (some (k : Int)) = min k l.length := by
    unfold sIx
    simp only
    rw [if_neg (by omega), Int.toNat_natCast]
  have e0 : sIx l.length l.length none = l.length := rfl
  rw [e, e0]
  rcases Nat.le_total k l.length with h | h
  · rw [Nat.min_eq_left h, List.take_of_length_le (by simp)]
  · rw [Nat.min_eq_right h, List.drop_of_length_le (Nat.le_refl _), List.drop_of_length_le h]
    simp
theorem change_run (hφ : Φ.fn 34 = some φ) {a0 every o7 o8 o9 o10 o11 o12 o13 o14 o15 : Option W} {rows lay row : List PyData} {h w at_ k t : Int} {c c1 c2 c3 : Cell} (hr : atD lay at_ = some (.tuple row)) (hsz : row.length ≤ 1000) (hsl : lay.length ≤ 1000)
    (e1 : callF φ [.h 0, .d (.int h)] [c] = .ok (.d (.int at_)) [c1]) (e2 : callF φ [.h 0, .d (.int w)] [c1] = .ok (.d (.int k)) [c2]) (e3 : callF φ [.h 0, .d (.int (rows.length : Int))] [c2] = .ok (.d (.int t)) [c3]) :
    ∃ o8' o9' o10', runB Φ n C_change (envL a0 (some (.d (.list rows))) (some (.d (.int h))) (some (.d (.int w))) (some (.d (.list lay))) every o7 o8 o9 o10 o11 o12 o13 o14 o15) [c] =
      .ok (.nx, envL a0 (some (.d (.list rows))) (some (.d (.int h))) (some (.d (.int w))) (some (.d (.list (cut lay none (some at_) ++ [.tuple (cut row none (some k) ++ [.int t] ++ cut row (some (k + 1)) none)] ++ cut lay (some (at_ + 1)) none)))) every o7 o8' o9' o10' o11 o12 o13 o14 o15) [c3] := by
  have sp : sizeLine = 16777216 := by decide
  have cl : ∀ (l : List PyData) (lo hi : Option Int), (cut l lo hi).length ≤ l.length := fun l lo hi => by unfold cut; simp; omega
  have q1 := cl row none (some k)
  have q2 := cl row (some (k + 1)) none
  have q3 := cl lay none (some at_)
  have q4 := cl lay (some (at_ + 1)) none
  have b1 : binD .add (.tuple (cut row none (some k))) (.tuple [.int t]) = some (.tuple (cut row none (some k) ++ [.int t])) := b_addT (by simp; omega)
  have b2 : binD .add (.tuple (cut row none (some k) ++ [.int t])) (.tuple (cut row (some (k + 1)) none)) = some (.tuple (cut row none (some k) ++ [.int t] ++ cut row (some (k + 1)) none)) := b_addT (by simp; omega)
  have b3 := b_addL (a := cut lay none (some at_)) (b := [.tuple (cut row none (some k) ++ [.int t] ++ cut row (some (k + 1)) none)]) (by simp; omega)
  have b4 := b_addL (a := cut lay none (some at_) ++ [.tuple (cut row none (some k) ++ [.int t] ++ cut row (some (k + 1)) none)]) (b := cut lay (some (at_ + 1)) none) (by simp; omega)
  have z1 : (1 : Nat) ≤ sizeLine := by decide
  refine ⟨some (.d (.int at_)), some (.d (.int k)), some (.d (.tuple (cut row none (some k) ++ [.int t] ++ cut row (some (k + 1)) none))), ?_⟩
  simp [-List.append_assoc, C_change, hφ, e1, e2, e3, asgT, hr, frzsR, frzAll, z1, b1, b2, b3, b4, seeAll]
theorem gR_at {L : List (List Nat)} {a : Nat} (h : a < L.length) : L[a]? = some (gR L a) := by
  unfold gR
  rw [List.getD_eq_getElem?_getD, List.getElem?_eq_getElem h]
  rfl
theorem change_ok (hφ : Φ.fn 34 = some φ) (N : NextOk φ) {rows : List PyData} (r0 : 0 < rows.length) (r1 : rows.length ≤ 200) {h w : Nat} (h0 : 1 ≤ h) (w0 : 1 ≤ w) (hh : h ≤ 12) (hw : w ≤ 12) {L : List (List Nat)} (hl : L.length = h) (hL : LayOk rows.length w L) {a0 every o7 o8 o9 o10 o11 o12 o13 o14 o15 : Option W} {c : Cell} (hc : OkDice c) :
    ∃ (o8' o9' o10' : Option W) (c' : Cell) (L' : List (List Nat)), OkDice c' ∧ L'.length = h ∧ LayOk rows.length w L' ∧ runB Φ n C_change (envL a0 (some (.d (.list rows))) (some (.d (.int (h : Int)))) (some (.d (.int (w : Int)))) (some (.d (layD L))) every o7 o8 o9 o10 o11 o12 o13 o14 o15) [c] =
      .ok (.nx, envL a0 (some (.d (.list rows))) (some (.d (.int (h : Int)))) (some (.d (.int (w : Int)))) (some (.d (layD L'))) every o7 o8' o9' o10' o11 o12 o13 o14 o15) [c'] := by
  obtain ⟨a, c1, la, d1, e1⟩ := drawN N hc h0 (by omega)
  obtain ⟨k, c2, lk, d2, e2⟩ := drawN N d1 w0 (by omega)
  obtain ⟨t, c3, lt, d3, e3⟩ := drawN N d2 r0 (by omega)
  have ha : a < L.length := by omega
  have hm := hL _ (gR_mem ha)
  obtain ⟨o8', o9', o10', e⟩ := change_run (n := n) hφ (a0 := a0) (every := every) (o7 := o7) (o8 := o8) (o9 := o9) (o10 := o10) (o11 := o11) (o12 := o12) (o13 := o13) (o14 := o14) (o15 := o15) (at_lay ha) (by simp; omega) (by simp; omega) e1 e2 e3
  refine ⟨o8', o9', o10', c3, L.take a ++ [(gR L a).take k ++ [t] ++ (gR L a).drop (k + 1)] ++ L.drop (a + 1), d3, by simp; omega, fun r hr => ?_, ?_⟩
  · simp only [List.mem_append, List.mem_singleton] at hr
    rcases hr with (hr | rfl) | hr
    · exact hL r (List.mem_of_mem_take hr)
    · refine ⟨by simp; omega, fun i hi => ?_⟩
      simp only [List.mem_append, List.mem_singleton] at hi
      rcases hi with (hi | rfl) | hi
      · exact hm.2 i (List.mem_of_mem_take hi)
      · exact lt
      · exact hm.2 i (List.mem_of_mem_drop hi)
    · exact hL r (List.mem_of_mem_drop hr)
  · have c1 : (a : Int) + 1 = ((a + 1 : Nat) : Int) := rfl
    have c2 : (k : Int) + 1 = ((k + 1 : Nat) : Int) := rfl
    rw [c1, c2, cut_to, cut_to, cut_from, cut_from, ← List.map_take, ← List.map_take, ← List.map_drop, ← List.map_drop] at e
    have q : PyData.list (List.map rowD (List.take a L) ++ [PyData.tuple (List.map (fun (i : Nat) => PyData.int (i : Int)) (List.take k (gR L a)) ++ [PyData.int (t : Int)] ++ List.map (fun (i : Nat) => PyData.int (i : Int)) (List.drop (k + 1) (gR L a)))] ++ List.map rowD (List.drop (a + 1) L)) = layD (L.take a ++ [(gR L a).take k ++ [t] ++ (gR L a).drop (k + 1)] ++ L.drop (a + 1)) := by
      unfold layD rowD
      simp
    rw [q] at e
    exact e
/-! ### one of some layings -/
theorem rolling_run {φr : Fs} (h45 : Φ.fn 45 = some φr) (Ro : RollsOk φr) {ts : List Tile} {h w : Nat} (h0 : 1 ≤ h) (w0 : 1 ≤ w) (hw : w ≤ 12) {Ls : List (List (List Nat))} (hn : Ls.length < sizeLine) (hLs : ∀ L ∈ Ls, L.length = h ∧ LayOk ts.length w L) {a0 o3 o4 o5 o7 o8 o9 o10 o11 o12 o13 o14 o15 : Option W} {s : List Cell} :
    runE Φ E_rolling (envL a0 (some (.d (rowsD ts))) o3 o4 o5 (some (.d (.list (Ls.map layD)))) o7 o8 o9 o10 o11 o12 o13 o14 o15) s = .ok (.d (.list ((Ls.filter (rollsD ts w)).map layD))) s := by
  have key : compT Φ (.n 15) [15] (.some (.call 45 (.cons (.var 2) (.cons (.var 15) .nil)))) (.var 15) (envL a0 (some (.d (rowsD ts))) o3 o4 o5 (some (.d (.list (Ls.map layD)))) o7 o8 o9 o10 o11 o12 o13 o14 o15) (.ok (Ls.map layD) s) = .ok ((Ls.filter (rollsD ts w)).map layD) s := by
    refine compT_fm (by simpa using hn) fun L hL => ?_
    obtain ⟨l1, l2⟩ := hLs L hL
    have er := Ro ts w L s l2 (by omega) w0 (by omega)
    refine turnK_c (s' := s) ?_ (fun _ => rfl) fun _ => rfl
    show runE Φ (.call 45 (.cons (.var 2) (.cons (.var 15) .nil))) (envL a0 (some (.d (rowsD ts))) o3 o4 o5 (some (.d (.list (Ls.map layD)))) o7 o8 o9 o10 o11 o12 o13 o14 (some (.d (layD L)))) s = _
    simp only [rE_call, h45, rEs_cons, rEs_nil, rE_var]
    exact er
  rw [rE_fr, rF_comp]
  have eI : runI Φ (.seq (.var 6)) (envL a0 (some (.d (rowsD ts))) o3 o4 o5 (some (.d (.list (Ls.map layD)))) o7 o8 o9 o10 o11 o12 o13 o14 o15) s = .ok (Ls.map layD) s := rfl
  rw [eI, key]
  rfl
theorem atD_map {β : Type} {f : β → PyData} {l : List β} {j : Nat} (h : j < l.length) : atD (l.map f) (j : Int) = some (f l[j]) := by
  refine atD_nat (by omega) ?_
  rw [Int.toNat_natCast, List.getElem?_map, List.getElem?_eq_getElem h]
  rfl
/-- one step, then the rest -/
theorem step1 {S1 : S} {r : List S} {ρ ρ' : Env} {s s' : List Cell} (h : runS Φ n S1 ρ s = .ok (.nx, ρ') s') : runB Φ n (S1 :: r) ρ s = runB Φ n r ρ' s' := by rw [rB_cons, h, R.sq_nx]
theorem pick_one (hφ : Φ.fn 34 = some φ) {a0 o2 o3 o4 o5 o7 o8 o9 o10 o11 o12 o13 o14 o15 : Option W} {l : List PyData} {j : Int} {x : PyData} {c c' : Cell} (e : callF φ [.h 0, .d (.int (l.length : Int))] [c] = .ok (.d (.int j)) [c']) (ex : atD l j = some x) :
    runS Φ n (.asg (.n 5) (.idx (.var 6) (.call 34 (.cons (.var 1) (.cons (.bi .len (.cons (.var 6) .nil)) .nil))))) (envL a0 o2 o3 o4 o5 (some (.d (.list l))) o7 o8 o9 o10 o11 o12 o13 o14 o15) [c] = .ok (.nx, envL a0 o2 o3 o4 (some (.d x)) (some (.d (.list l))) o7 o8 o9 o10 o11 o12 o13 o14 o15) [c'] := by
  simp [hφ, seeAll, e, ex, asgT]
theorem pick_two (hφ : Φ.fn 34 = some φ) {a0 o2 o3 o4 o5 o6 o8 o9 o10 o11 o12 o13 o14 o15 : Option W} {l : List PyData} {j : Int} {x : PyData} {c c' : Cell} (e : callF φ [.h 0, .d (.int (l.length : Int))] [c] = .ok (.d (.int j)) [c']) (ex : atD l j = some x) :
    runS Φ n (.asg (.n 5) (.idx (.var 7) (.call 34 (.cons (.var 1) (.cons (.bi .len (.cons (.var 7) .nil)) .nil))))) (envL a0 o2 o3 o4 o5 o6 (some (.d (.list l))) o8 o9 o10 o11 o12 o13 o14 o15) [c] = .ok (.nx, envL a0 o2 o3 o4 (some (.d x)) o6 (some (.d (.list l))) o8 o9 o10 o11 o12 o13 o14 o15) [c'] := by
  simp [hφ, seeAll, e, ex, asgT]
theorem set_n {i : Nat} {e : E} {ρ : Env} {w : W} {s s' : List Cell} (h : runE Φ e ρ s = .ok w s') : runS Φ n (.asg (.n i) e) ρ s = .ok (.nx, ρ.set i (some w)) s' := by
  rw [rS_asg, h]
  rfl
theorem ite_T {c : E} {a b : List S} {ρ : Env} {s s' : List Cell} (h : runE Φ c ρ s = .ok (.d (.bool true)) s') : runS Φ n (.ite c a b) ρ s = runB Φ n a ρ s' := by
  rw [rS_ite, h]
  rfl
theorem ite_F {c : E} {a b : List S} {ρ : Env} {s s' : List Cell} (h : runE Φ c ρ s = .ok (.d (.bool false)) s') : runS Φ n (.ite c a b) ρ s = runB Φ n b ρ s' := by
  rw [rS_ite, h]
  rfl
theorem isEmpty_of {β γ : Type} {f : β → γ} {l : List β} : (l.map f).isEmpty = l.isEmpty := by cases l <;> rfl
theorem pick_ok (hφ : Φ.fn 34 = some φ) (N : NextOk φ) {φr : Fs} (h45 : Φ.fn 45 = some φr) (Ro : RollsOk φr) {ts : List Tile} (t0 : 1 ≤ ts.length) (t1 : ts.length ≤ 200) {h w : Nat} (h0 : 1 ≤ h) (w0 : 1 ≤ w) (hh : h ≤ 12) (hw : w ≤ 12) {Ls : List (List (List Nat))} (hne : 0 < Ls.length) (hn : Ls.length ≤ 1000000) (hLs : ∀ L ∈ Ls, L.length = h ∧ LayOk ts.length w L) {a0 o5 o7 o8 o9 o10 o11 o12 o13 o14 o15 : Option W} {c : Cell} (hc : OkDice c) :
    ∃ (o7' o8' o9' o10' : Option W) (c' : Cell) (L' : List (List Nat)), OkDice c' ∧ L'.length = h ∧ LayOk ts.length w L' ∧ runB Φ n C_pick (envL a0 (some (.d (rowsD ts))) (some (.d (.int (h : Int)))) (some (.d (.int (w : Int)))) o5 (some (.d (.list (Ls.map layD)))) o7 o8 o9 o10 o11 o12 o13 o14 o15) [c] =
      .ok (.nx, envL a0 (some (.d (rowsD ts))) (some (.d (.int (h : Int)))) (some (.d (.int (w : Int)))) (some (.d (layD L'))) (some (.d (.list (Ls.map layD)))) o7' o8' o9' o10' o11 o12 o13 o14 o15) [c'] := by
  have sp : sizeLine = 16777216 := by decide
  have e1 := rolling_run h45 Ro h0 w0 hw (Ls := Ls) (by omega) hLs (a0 := a0) (o3 := some (.d (.int (h : Int)))) (o4 := some (.d (.int (w : Int)))) (o5 := o5) (o7 := o7) (o8 := o8) (o9 := o9) (o10 := o10) (o11 := o11) (o12 := o12) (o13 := o13) (o14 := o14) (o15 := o15) (s := [c])
  obtain ⟨j, c1, lj, d1, e2⟩ := drawN N hc hne (by omega)
  have e2' : callF φ [.h 0, .d (.int ((Ls.map layD).length : Int))] [c] = .ok (.d (.int (j : Int))) [c1] := by rw [List.length_map]; exact e2
  have p1 := pick_one (n := n) (a0 := a0) (o2 := some (.d (rowsD ts))) (o3 := some (.d (.int (h : Int)))) (o4 := some (.d (.int (w : Int)))) (o5 := o5) (o7 := some (.d (.list ((Ls.filter (rollsD ts w)).map layD)))) (o8 := o8) (o9 := o9) (o10 := o10) (o11 := o11) (o12 := o12) (o13 := o13) (o14 := o14) (o15 := o15) hφ e2' (atD_map lj)
  have hm1 := hLs _ (List.getElem_mem lj)
  -- the third statement
  have third : ∃ (c2 : Cell) (L2 : List (List Nat)), OkDice c2 ∧ L2 ∈ Ls ∧ runS Φ n (.ite (.and (.cmp .ne (.var 7) (.fr (.lst .nil))) (.cmp .eq (.call 34 (.cons (.var 1) (.cons (.cst (.int 2)) .nil))) (.cst (.int 1)))) [(.asg (.n 5) (.idx (.var 7) (.call 34 (.cons (.var 1) (.cons (.bi .len (.cons (.var 7) .nil)) .nil)))))] [])
      (envL a0 (some (.d (rowsD ts))) (some (.d (.int (h : Int)))) (some (.d (.int (w : Int)))) (some (.d (layD Ls[j]))) (some (.d (.list (Ls.map layD)))) (some (.d (.list ((Ls.filter (rollsD ts w)).map layD)))) o8 o9 o10 o11 o12 o13 o14 o15) [c1] =
      .ok (.nx, envL a0 (some (.d (rowsD ts))) (some (.d (.int (h : Int)))) (some (.d (.int (w : Int)))) (some (.d (layD L2))) (some (.d (.list (Ls.map layD)))) (some (.d (.list ((Ls.filter (rollsD ts w)).map layD)))) o8 o9 o10 o11 o12 o13 o14 o15) [c2] := by
    have fl : (Ls.filter (rollsD ts w)).length ≤ Ls.length := List.length_filter_le _ _
    have hnd : okD (.list ((Ls.filter (rollsD ts w)).map layD)) = true := Nd_okD (n := 3) (by decide) (lays_Nd (by omega) fun L hL => by
      obtain ⟨l1, l2⟩ := hLs L (List.mem_filter.mp hL).1
      exact layOk_Nd l2 (by omega) (by omega))
    have hne' := c_ne_nil hnd
    have z0 : (0 : Nat) ≤ sizeLine := Nat.zero_le _
    rw [isEmpty_of] at hne'
    cases he : (Ls.filter (rollsD ts w)).isEmpty with
    | true =>
      rw [he] at hne'
      refine ⟨c1, Ls[j], d1, List.getElem_mem lj, ?_⟩
      rw [ite_F (s' := [c1]) (by simp [-List.map_map, frzsR, frzAll, hne'])]
      rfl
    | false =>
      rw [he] at hne'
      obtain ⟨b, c2, b0, b1, d2, e3⟩ := draw0 N d1 (m := 2) (by decide) (by decide)
      by_cases hb : b = 1
      · subst hb
        have hl : 0 < (Ls.filter (rollsD ts w)).length := by
          cases q : Ls.filter (rollsD ts w) with
          | nil => rw [q] at he; cases he
          | cons _ _ => simp
        obtain ⟨j2, c3, lj2, d3, e4⟩ := drawN N d2 hl (by omega)
        have e4' : callF φ [.h 0, .d (.int (((Ls.filter (rollsD ts w)).map layD).length : Int))] [c2] = .ok (.d (.int (j2 : Int))) [c3] := by rw [List.length_map]; exact e4
        refine ⟨c3, (Ls.filter (rollsD ts w))[j2], d3, (List.mem_filter.mp (List.getElem_mem lj2)).1, ?_⟩
        rw [ite_T (s' := [c2]) (by simp [-List.map_map, frzsR, frzAll, hne', hφ, e3])]
        rw [step1 (pick_two hφ e4' (atD_map lj2))]
        rfl
      · refine ⟨c2, Ls[j], d2, List.getElem_mem lj, ?_⟩
        rw [ite_F (s' := [c2]) (by simp [-List.map_map, frzsR, frzAll, hne', hφ, e3, hb])]
        rfl
  obtain ⟨c2, L2, d2, hL2, e3⟩ := third
  obtain ⟨l1, l2⟩ := hLs L2 hL2
  obtain ⟨b, c3, b0, b1, d3, e4⟩ := draw0 N d2 (m := 3) (by decide) (by decide)
  unfold C_pick
  rw [step1 (set_n e1)]
  rw [show (envL a0 (some (.d (rowsD ts))) (some (.d (.int (h : Int)))) (some (.d (.int (w : Int)))) o5 (some (.d (.list (Ls.map layD)))) o7 o8 o9 o10 o11 o12 o13 o14 o15).set 7 (some (.d (.list ((Ls.filter (rollsD ts w)).map layD)))) = envL a0 (some (.d (rowsD ts))) (some (.d (.int (h : Int)))) (some (.d (.int (w : Int)))) o5 (some (.d (.list (Ls.map layD)))) (some (.d (.list ((Ls.filter (rollsD ts w)).map layD)))) o8 o9 o10 o11 o12 o13 o14 o15 from rfl]
  rw [step1 p1, step1 e3]
  by_cases hb : b = 2
  · subst hb
    obtain ⟨o8', o9', o10', c4, L4, d4, l4, lo4, e5⟩ := change_ok (n := n) hφ N (rows := ts.map Tile.d) (by simp; omega) (by simpa using t1) h0 w0 hh hw l1 (by simpa using l2) (a0 := a0) (every := some (.d (.list (Ls.map layD)))) (o7 := some (.d (.list ((Ls.filter (rollsD ts w)).map layD)))) (o8 := o8) (o9 := o9) (o10 := o10) (o11 := o11) (o12 := o12) (o13 := o13) (o14 := o14) (o15 := o15) d3
    refine ⟨some (.d (.list ((Ls.filter (rollsD ts w)).map layD))), o8', o9', o10', c4, L4, d4, l4, by simpa using lo4, ?_⟩
    rw [rB_cons, ite_T (s' := [c3]) (by simp [-List.map_map, hφ, e4]), e5]
    rfl
  · refine ⟨some (.d (.list ((Ls.filter (rollsD ts w)).map layD))), o8, o9, o10, c3, L2, d3, l1, l2, ?_⟩
    rw [rB_cons, ite_F (s' := [c3]) (by simp [-List.map_map, hφ, e4, hb])]
    rfl
abbrev B_suf02 : List S := [(.asg (.n 11) (.fr (.list (.var 5)))), (.asg (.n 12) (.call 67 (.cons (.mk 2 (.cons (.var 2) .nil)) (.cons (.var 11) .nil)))), (.ite (.or (.not (.isi .bool (.var 12))) (.cmp .ne (.var 12) (.call 22 (.cons (.var 2) (.cons (.var 5) .nil))))) [(.ret (.cst (.bool false)))] []), (.asg (.n 13) (.call 68 (.cons (.mk 2 (.cons (.var 2) .nil)) (.cons (.var 11) .nil)))), (.asg (.n 14) (.and (.var 12) (.call 45 (.cons (.var 2) (.cons (.var 5) .nil))))), (.ret (.and (.isi .bool (.var 13)) (.and (.cmp .eq (.var 13) (.var 14)) (.cmp .eq (.var 11) (.var 5)))))]
def B_law02 : List S := [(.asg (.n 1) (.th (.call 9 (.cons (.var 0) .nil)))), (.asg (.n 2) (.call 50 (.cons (.var 1) (.cons (.cst (.int 5)) .nil)))), (.asg (.t [3, 4]) (.call 47 (.cons (.var 1) (.cons (.bi .len (.cons (.var 2) .nil)) (.cons (.cst (.int 4096)) .nil))))), (.asg (.n 5) E_drawLay), (.asg (.n 6) (.call 27 (.cons (.var 2) (.cons (.var 3) (.cons (.var 4) .nil))))), S_pick] ++ B_suf02
theorem suf02 {ψ : Ms} {φ67 φ22 φ68 φ45 : Fs} (hψ : Φ.cl 2 = some ψ) (h67 : Φ.fn 67 = some φ67) (h22 : Φ.fn 22 = some φ22) (h68 : Φ.fn 68 = some φ68) (h45 : Φ.fn 45 = some φ45) {T : W} {R : PyData} {l : List PyData} {b r : Bool} {a0 o3 o4 o6 o7 o8 o9 o10 o11 o12 o13 o14 o15 : Option W} {s : List Cell}
    (eK : mkF ψ 2 [.d R] s = .ok T s) (e67 : callF φ67 [T, .d (.list l)] s = .ok (.d (.bool b)) s) (e22 : callF φ22 [.d R, .d (.list l)] s = .ok (.d (.bool b)) s) (e68 : callF φ68 [T, .d (.list l)] s = .ok (.d (.bool (b && r))) s) (e45 : callF φ45 [.d R, .d (.list l)] s = .ok (.d (.bool r)) s) (q : cmpD .eq (.list l) (.list l) = some true) :
    endP (runB Φ n B_suf02 (envL a0 (some (.d R)) o3 o4 (some (.d (.list l))) o6 o7 o8 o9 o10 o11 o12 o13 o14 o15) s) = some (.ret (.d (.bool true))) := by
  cases b <;> cases r <;> simp only [Bool.and_true, Bool.and_false, Bool.false_and, Bool.true_and] at e68 <;> simp [B_suf02, asgT, hψ, eK, h67, h22, h68, h45, e67, e22, e68, e45, q, isiD, c_eq_bool, endP, finP]
theorem law02 {φ9 φ50 φ47 φ27 φ67 φ22 φ68 φ45 : Fs} {ψ : Ms} (h9 : Φ.fn 9 = some φ9) (D : DiceOk φ9) (h50 : Φ.fn 50 = some φ50) (Ti : TilesOk φ50) (h47 : Φ.fn 47 = some φ47) (Si : SizeOk φ47) (hφ : Φ.fn 34 = some φ) (N : NextOk φ) (h27 : Φ.fn 27 = some φ27) (Lg : LayingsOk φ27)
    (h45 : Φ.fn 45 = some φ45) (Ro : RollsOk φ45) (h67 : Φ.fn 67 = some φ67) (La : LaidOk φ67) (h22 : Φ.fn 22 = some φ22) (Lk : LookOk φ22) (h68 : Φ.fn 68 = some φ68) (Ir : IsRolledOk φ68) (hψ : Φ.cl 2 = some ψ) (K : MkTiles ψ) (ns : List Int) (hl : ns.length ≤ 63) : gP Φ n B_law02 16 [.d (.list (ns.map .int))] = some (.ret (.d (.bool true))) := by
  have sp : sizeLine = 16777216 := by decide
  obtain ⟨l, dl, e1⟩ := D ns [] hl
  obtain ⟨ts, c2, t0, t1, tk, d2, e2⟩ := Ti [.lst l] 0 (.lst l) 5 dl rfl rfl (by decide) (by decide)
  replace e2 := callF_X e2
  simp only [List.set_cons_zero] at e2
  have t2 : ts.length ≤ 200 := by omega
  obtain ⟨lst2, rfl⟩ := d2.lst
  obtain ⟨h, w, c3, h0, h4, w0, w4, hz, d3, e3⟩ := Si [.lst lst2] 0 (.lst lst2) ts.length 4096 d2 rfl rfl t0 (by omega) (by omega)
  simp only [List.set_cons_zero] at e3
  rw [show ((4096 : Nat) : Int) = 4096 from rfl] at e3
  obtain ⟨L0, c4, l0, lo0, d4, e4⟩ := drawLay (Φ := Φ) hφ N (rows := ts.map Tile.d) (by simp; omega) (by simpa using t2) (h := h) (w := w) (by omega) (by omega) d3 (a0 := some (.d (.list (ns.map .int)))) (o5 := none) (o6 := none) (o7 := none) (o8 := none) (o9 := none) (o10 := none) (o11 := none) (o12 := none) (o13 := none) (o14 := none) (o15 := none)
  rw [List.length_map] at lo0
  have e5 := callF_X (Lg ts h w [c4] t0 t2 h0 (by omega) w0 (by omega) (by omega))
  have eE : ((layF ts w (h * w)).map fun r => layD (rowsOf h w r)) = ((layF ts w (h * w)).map (rowsOf h w)).map layD := by rw [List.map_map]; rfl
  rw [eE] at e5
  have hLs : ∀ L ∈ (layF ts w (h * w)).map (rowsOf h w), L.length = h ∧ LayOk ts.length w L := fun L hL => by
    obtain ⟨r, hr, rfl⟩ := List.mem_map.mp hL
    obtain ⟨q1, q2⟩ := layF_mem hr
    exact ⟨rowsOf_len _ _ _, rowsOf_ok q1 q2⟩
  have hLn : ((layF ts w (h * w)).map (rowsOf h w)).length ≤ 4096 := by rw [List.length_map]; exact Nat.le_trans (layF_len ts w _) hz
  generalize hg : (layF ts w (h * w)).map (rowsOf h w) = Ls at e5 hLs hLn
  -- one of some, or what is drawn
  have pick : ∃ (o7' o8' o9' o10' : Option W) (c' : Cell) (L' : List (List Nat)), OkDice c' ∧ L'.length = h ∧ LayOk ts.length w L' ∧ runS Φ n S_pick (envL (some (.d (.list (ns.map .int)))) (some (.d (rowsD ts))) (some (.d (.int (h : Int)))) (some (.d (.int (w : Int)))) (some (.d (layD L0))) (some (.d (.list (Ls.map layD)))) none none none none none none none none none) [c4] =
      .ok (.nx, envL (some (.d (.list (ns.map .int)))) (some (.d (rowsD ts))) (some (.d (.int (h : Int)))) (some (.d (.int (w : Int)))) (some (.d (layD L'))) (some (.d (.list (Ls.map layD)))) o7' o8' o9' o10' none none none none none) [c'] := by
    have hnd : okD (.list (Ls.map layD)) = true := Nd_okD (n := 3) (by decide) (lays_Nd (by omega) fun L hL => by
      obtain ⟨l1, l2⟩ := hLs L hL
      exact layOk_Nd l2 (by omega) (by omega))
    have hne' := c_ne_nil hnd
    have z0 : (0 : Nat) ≤ sizeLine := Nat.zero_le _
    rw [isEmpty_of] at hne'
    cases he : Ls.isEmpty with
    | true =>
      rw [he] at hne'
      refine ⟨none, none, none, none, c4, L0, d4, l0, lo0, ?_⟩
      rw [ite_F (s' := [c4]) (by simp [-List.map_map, frzsR, frzAll, hne'])]
      rfl
    | false =>
      rw [he] at hne'
      obtain ⟨b, c5, b0, b1, d5, e6⟩ := draw0 N d4 (m := 3) (by decide) (by decide)
      by_cases hb : 0 < b
      · have hl : 0 < Ls.length := by
          cases Ls with
          | nil => cases he
          | cons _ _ => simp
        obtain ⟨o7', o8', o9', o10', c6, L6, d6, l6, lo6, e7⟩ := pick_ok (n := n) hφ N h45 Ro t0 t2 h0 w0 (by omega) (by omega) hl (by omega) hLs (a0 := some (.d (.list (ns.map .int)))) (o5 := some (.d (layD L0))) (o7 := none) (o8 := none) (o9 := none) (o10 := none) (o11 := none) (o12 := none) (o13 := none) (o14 := none) (o15 := none) d5
        refine ⟨o7', o8', o9', o10', c6, L6, d6, l6, lo6, ?_⟩
        rw [ite_T (s' := [c5]) (by simp [-List.map_map, frzsR, frzAll, hne', hφ, e6, hb])]
        exact e7
      · refine ⟨none, none, none, none, c5, L0, d5, l0, lo0, ?_⟩
        rw [ite_F (s' := [c5]) (by simp [-List.map_map, frzsR, frzAll, hne', hφ, e6, hb])]
        rfl
  obtain ⟨o7', o8', o9', o10', c6, L, d6, lL, loL, e6⟩ := pick
  have s5 : runS Φ n (.asg (.n 5) E_drawLay) (envL (some (.d (.list (ns.map .int)))) (some (.d (rowsD ts))) (some (.d (.int (h : Int)))) (some (.d (.int (w : Int)))) none none none none none none none none none none none) [c3] = .ok (.nx, envL (some (.d (.list (ns.map .int)))) (some (.d (rowsD ts))) (some (.d (.int (h : Int)))) (some (.d (.int (w : Int)))) (some (.d (layD L0))) none none none none none none none none none none) [c4] := set_n e4
  have e1' : runS Φ n (.asg (.n 1) (.th (.call 9 (.cons (.var 0) .nil)))) (startE 16 [.d (.list (ns.map .int))]) [] = .ok (.nx, (startE 16 [.d (.list (ns.map .int))]).set 1 (some (.h 0))) [.lst l] := set_n (by simp [startE, h9, e1])
  have fin := suf02 (n := n) hψ h67 h22 h68 h45 (K ts [c6] t0 t2 tk) (La ts w L [c6] loL (by omega) (by omega)) (Lk ts w L [c6] loL (by omega) (by omega)) (Ir ts w L [c6] loL (by omega) (by omega) w0 (by omega)) (Ro ts w L [c6] loL (by omega) w0 (by omega)) (c_eq_self (n := 2) (by decide) (layOk_Nd loL (by omega) (by omega)))
    (a0 := some (.d (.list (ns.map .int)))) (o3 := some (.d (.int (h : Int)))) (o4 := some (.d (.int (w : Int)))) (o6 := some (.d (.list (Ls.map layD)))) (o7 := o7') (o8 := o8') (o9 := o9') (o10 := o10') (o11 := none) (o12 := none) (o13 := none) (o14 := none) (o15 := none)
  show endP (runB Φ n B_law02 (startE 16 [.d (.list (ns.map .int))]) []) = _
  unfold B_law02
  rw [List.cons_append, step1 e1', List.cons_append]
  rw [step1 (set_n (w := .d (rowsD ts)) (s' := [.lst lst2]) (by simp [-List.map_map, startE, h50, e2]))]
  rw [List.cons_append, step1 (ρ' := envL (some (.d (.list (ns.map .int)))) (some (.d (rowsD ts))) (some (.d (.int (h : Int)))) (some (.d (.int (w : Int)))) none none none none none none none none none none none) (s' := [c3]) (by simp [-List.map_map, startE, h47, seeAll, e3, asgT, setAll])]
  rw [List.cons_append, step1 s5, List.cons_append]
  rw [step1 (show runS Φ n (.asg (.n 6) (.call 27 (.cons (.var 2) (.cons (.var 3) (.cons (.var 4) .nil))))) (envL (some (.d (.list (ns.map .int)))) (some (.d (rowsD ts))) (some (.d (.int (h : Int)))) (some (.d (.int (w : Int)))) (some (.d (layD L0))) none none none none none none none none none none) [c4] = .ok (.nx, envL (some (.d (.list (ns.map .int)))) (some (.d (rowsD ts))) (some (.d (.int (h : Int)))) (some (.d (.int (w : Int)))) (some (.d (layD L0))) (some (.d (.list (Ls.map layD)))) none none none none none none none none none) [c4] from set_n (by simp [-List.map_map, h27, e5]))]
  rw [List.cons_append, step1 e6]
  exact fin
end
end DM

set_option maxRecDepth 100000
/-! L12: loops as folds; sizes, columns. -/
namespace DM
open PySem
theorem forK_pre0 {β : Type} {Φ : Phi} {n : Nat} {t : Tg} {b : List S} (d : β → PyData) (I : List β → Env → List Cell → Prop) : ∀ (xs done : List β) (ρ : Env) (s : List Cell), I done ρ s →
    (∀ pre x post ρ s, xs = pre ++ x :: post → I (done ++ pre) ρ s → ∃ ρ1 ρ' s', asgT ρ t (.d (d x)) = some ρ1 ∧ (runB Φ n b ρ1 s = .ok (.nx, ρ') s' ∨ runB Φ n b ρ1 s = .ok (.ct, ρ') s') ∧ I (done ++ pre ++ [x]) ρ' s') →
    ∃ ρ' s', forK Φ n t b (xs.map d) ρ s = .ok (.nx, ρ') s' ∧ I (done ++ xs) ρ' s'
  | [], done, ρ, s, h, _ => ⟨ρ, s, rfl, by simpa using h⟩
  | x :: xs, done, ρ, s, h, st => by
    obtain ⟨ρ1, ρ', s', e1, e2, h'⟩ := st [] x xs ρ s rfl (by simpa using h)
    obtain ⟨ρ2, s2, e3, h3⟩ := forK_pre0 d I xs (done ++ [x]) ρ' s' (by simpa using h') fun pre y post ρ s e hi => by
      obtain ⟨ρ1, ρ', s', q1, q2, q3⟩ := st (x :: pre) y post ρ s (by rw [e]; rfl) (by simpa using hi)
      exact ⟨ρ1, ρ', s', q1, q2, by simpa using q3⟩
    refine ⟨ρ2, s2, ?_, by simpa using h3⟩
    rw [List.map_cons, forK_cons, e1]
    rcases e2 with e2 | e2 <;> simp only [e2, R.lp_nx, R.lp_ct] <;> exact e3
/-- a loop, by what is done -/
theorem forK_pre {β : Type} {Φ : Phi} {n : Nat} {t : Tg} {b : List S} (d : β → PyData) (I : List β → Env → List Cell → Prop) (xs : List β) (ρ : Env) (s : List Cell) (h : I [] ρ s)
    (st : ∀ pre x post ρ s, xs = pre ++ x :: post → I pre ρ s → ∃ ρ1 ρ' s', asgT ρ t (.d (d x)) = some ρ1 ∧ (runB Φ n b ρ1 s = .ok (.nx, ρ') s' ∨ runB Φ n b ρ1 s = .ok (.ct, ρ') s') ∧ I (pre ++ [x]) ρ' s') :
    ∃ ρ' s', forK Φ n t b (xs.map d) ρ s = .ok (.nx, ρ') s' ∧ I xs ρ' s' := by
  have := forK_pre0 (Φ := Φ) (n := n) (t := t) (b := b) d I xs [] ρ s h (fun pre x post ρ s e hi => by simpa using st pre x post ρ s e (by simpa using hi))
  simpa using this
theorem pre_lt {β : Type} {xs pre post : List β} {x : β} (e : xs = pre ++ x :: post) : pre.length < xs.length := by rw [e]; simp
theorem pre_mem {β : Type} {xs pre post : List β} {x : β} (e : xs = pre ++ x :: post) : x ∈ xs := by rw [e]; simp
theorem pre_range {k : Nat} {pre post : List Nat} {x : Nat} (e : List.range k = pre ++ x :: post) : x = pre.length ∧ x < k ∧ pre = List.range x := by
  have hl := pre_lt e
  rw [List.length_range] at hl
  have h1 : (List.range k)[pre.length]? = some x := by rw [e]; simp
  rw [List.getElem?_range hl] at h1
  cases h1
  refine ⟨rfl, hl, ?_⟩
  have h2 : (List.range k).take pre.length = pre := by rw [e]; simp
  rw [← h2, List.take_range, Nat.min_eq_left (Nat.le_of_lt hl)]
  simp
theorem fold_filter {β γ : Type} (p : β → Bool) (g : β → γ) : ∀ (l : List β) (acc : List γ), l.foldl (fun acc t => if p t then acc ++ [g t] else acc) acc = acc ++ (l.filter p).map g
  | [], acc => by simp
  | x :: l, acc => by
    rw [List.foldl_cons, fold_filter p g l]
    cases h : p x <;> simp [h]
theorem fold_flat {β γ : Type} (g : β → List γ) : ∀ (l : List β) (acc : List γ), l.foldl (fun acc t => acc ++ g t) acc = acc ++ l.flatMap g
  | [], acc => by simp
  | x :: l, acc => by rw [List.foldl_cons, fold_flat g l, List.flatMap_cons, List.append_assoc]
abbrev iD : Nat → PyData := fun i => PyData.int (i : Int)
theorem rng_map (k : Nat) : upTo 0 k = (List.range k).map iD := upTo_range k
/-! ### sizes -/
def B_needSize : List S := [(.ite (.or (.not (.chain .le .le (.cst (.int 1)) (.var 0) (.cst (.int 12)))) (.not (.chain .le .le (.cst (.int 1)) (.var 1) (.cst (.int 12))))) [.no] [])]
def NeedOk (φ : Fs) : Prop := ∀ (h w : Int) (s : List Cell), 1 ≤ h → h ≤ 12 → 1 ≤ w → w ≤ 12 → callF φ [.d (.int h), .d (.int w)] s = .ok (.d .none) s
theorem need_ok (Φ : Phi) (n : Nat) : NeedOk (.p 2 (gP Φ n B_needSize 2)) := fun h w s h1 h2 w1 w2 => by
  refine callP rfl (vs := [.d (.int h), .d (.int w)]) rfl ?_
  simp [gP, B_needSize, startE, h1, h2, w1, w2, endP]
/-! ### how many -/
def B_many : List S := [(.ret (.bi .len (.cons (.fld (.var 0) 3) .nil)))]
def ManyOk (φ : Fs) : Prop := ∀ (ts : List Tile) (s : List Cell), callF φ [setW ts] s = .ok (.d (.int (ts.length : Int))) s
theorem many_ok (Φ : Phi) (n : Nat) : ManyOk (.p 1 (gP Φ n B_many 1)) := fun ts s => by
  refine callP rfl (vs := [setW ts]) rfl ?_
  simp [gP, B_many, startE, fldW, getN, seeAll, endP, finP]
/-! ### columns -/
abbrev B_colTile : List S := [(.ite (.or (.cmp .eq (.var 3) (.cst (.int 0))) (.meth (.var 0) 3 (.cons (.idx (.var 5) (.bin .sub (.var 3) (.cst (.int 1)))) (.cons (.var 6) .nil)))) [(.ex (.app (.var 4) (.bin .add (.var 5) (.tup (.cons (.var 6) .nil)))))] [])]
abbrev B_colCol : List S := [(.for (.n 6) (.rng1 (.meth (.var 0) 1 .nil)) B_colTile)]
abbrev B_colPlace : List S := [(.asg (.n 4) (.th (.lst .nil))), (.for (.n 5) (.seq (.var 2)) B_colCol), (.ite (.cmp .gt (.bi .len (.cons (.var 4) .nil)) (.cst (.int 500))) [.no] []), (.asg (.n 2) (.var 4))]
def B_columns : List S := [(.ex (.call 78 (.cons (.var 1) (.cons (.cst (.int 1)) .nil)))), (.asg (.n 2) (.fr (.lst (.cons (.tup .nil) .nil)))), (.for (.n 3) (.rng1 (.var 1)) B_colPlace), (.ret (.var 2))]
theorem see_last {base : List Cell} {l : List PyData} : see (base ++ [Cell.lst l]) (.h base.length) = some (.list l) := by simp [see]
theorem get_last {base : List Cell} {c : Cell} : (base ++ [c])[base.length]? = some c := by simp
theorem set_last {base : List Cell} {c c' : Cell} : (base ++ [c]).set base.length c' = base ++ [c'] := by
  rw [List.set_append_right _ _ (Nat.le_refl _)]; simp
section
variable {Φ : Phi} {n : Nat} {γ μ : Fs}
theorem col_yes0 {T h v2 : Option W} {row : List PyData} {t : Int} {acc : List PyData} {base : List Cell} (hr : row.length ≤ 1000) (ha : acc.length < sizeLine) :
    runB Φ n B_colTile [T, h, v2, some (.d (.int 0)), some (.h base.length), some (.d (.tuple row)), some (.d (.int t))] (base ++ [.lst acc]) = .ok (.nx, [T, h, v2, some (.d (.int 0)), some (.h base.length), some (.d (.tuple row)), some (.d (.int t))]) (base ++ [.lst (acc ++ [.tuple (row ++ [.int t])])]) := by
  have sp : sizeLine = 16777216 := by decide
  have ea : binD .add (.tuple row) (.tuple [.int t]) = some (.tuple (row ++ [.int t])) := b_addT (by simp; omega)
  have z1 : (1 : Nat) ≤ sizeLine := by decide
  simp [B_colTile, isL, see_last, frzsR, frzAll, z1, ea, frzR, appW, get_last, ha, set_last]
theorem col_some {fs : List (Nat × PyData)} {h v2 : Option W} {row : List PyData} {j x t : Int} {b : Bool} {acc : List PyData} {base : List Cell} (hγ : Φ.mt 2 3 = some γ) (hj : ¬ j = 0) (hx : atD row (j - 1) = some (.int x)) (hr : row.length ≤ 1000) (ha : acc.length < sizeLine)
    (e : ∀ s, callF γ [.o 2 fs, .d (.int x), .d (.int t)] s = .ok (.d (.bool b)) s) :
    runB Φ n B_colTile [some (.o 2 fs), h, v2, some (.d (.int j)), some (.h base.length), some (.d (.tuple row)), some (.d (.int t))] (base ++ [.lst acc]) = .ok (.nx, [some (.o 2 fs), h, v2, some (.d (.int j)), some (.h base.length), some (.d (.tuple row)), some (.d (.int t))]) (base ++ [.lst (if b then acc ++ [.tuple (row ++ [.int t])] else acc)]) := by
  have sp : sizeLine = 16777216 := by decide
  have ea : binD .add (.tuple row) (.tuple [.int t]) = some (.tuple (row ++ [.int t])) := b_addT (by simp; omega)
  have z1 : (1 : Nat) ≤ sizeLine := by decide
  cases b with
  | true => simp [B_colTile, hj, clsOf, hγ, hx, e, isL, see_last, frzsR, frzAll, z1, ea, frzR, appW, get_last, ha, set_last]
  | false => simp [B_colTile, hj, clsOf, hγ, hx, e]
theorem rowD_snoc (r : List Nat) (t : Nat) : PyData.tuple ((r.map fun (i : Nat) => PyData.int (i : Int)) ++ [.int (t : Int)]) = rowD (r ++ [t]) := by unfold rowD; simp
/-- one tile tried -/
theorem col_tile (hγ : Φ.mt 2 3 = some γ) (Bl : PairOk γ belowB) {ts : List Tile} {h v2 : Option W} {row : List Nat} {t : Nat} (hr : ∀ i ∈ row, i < ts.length) (hl : row.length ≤ 12) (ht : t < ts.length) {acc : List (List Nat)} (ha : acc.length < sizeLine) {base : List Cell} :
    runB Φ n B_colTile [some (setW ts), h, v2, some (.d (.int (row.length : Int))), some (.h base.length), some (.d (rowD row)), some (.d (.int (t : Int)))] (base ++ [.lst (acc.map rowD)]) =
      .ok (.nx, [some (setW ts), h, v2, some (.d (.int (row.length : Int))), some (.h base.length), some (.d (rowD row)), some (.d (.int (t : Int)))]) (base ++ [.lst ((if fitsB ts 1 row t then acc ++ [row ++ [t]] else acc).map rowD)]) := by
  by_cases h0 : row.length = 0
  · obtain rfl := List.eq_nil_of_length_eq_zero h0
    have hf : fitsB ts 1 [] t = true := by simp [fitsB]
    rw [hf, if_pos rfl]
    have := col_yes0 (Φ := Φ) (n := n) (T := some (setW ts)) (h := h) (v2 := v2) (row := []) (t := (t : Int)) (acc := acc.map rowD) (base := base) (by simp) (by simpa using ha)
    rw [List.map_append]
    exact this
  · have hj : row.length - 1 < row.length := by omega
    have e0 : ((row.length : Int) - 1) = ((row.length - 1 : Nat) : Int) := by omega
    have hx := at_row hj
    rw [← e0] at hx
    have hb := fun s => Bl ts _ _ s (getD_lt hr hj) ht
    have hf : fitsB ts 1 row t = belowB ts (gN row (row.length - 1)) t := by
      unfold fitsB belowB
      have : ¬ row.length < 1 := by omega
      simp [Nat.mod_one, this]
    have := col_some (Φ := Φ) (n := n) (fs := [(3, rowsD ts)]) (h := h) (v2 := v2) (j := (row.length : Int)) (t := (t : Int)) (acc := acc.map rowD) (base := base) hγ (by omega) hx (by simp; omega) (by simpa using ha) hb
    rw [hf]
    rw [rowD_snoc] at this
    cases hbb : belowB ts (gN row (row.length - 1)) t with
    | true => rw [hbb] at this; rw [if_pos rfl, List.map_append]; exact this
    | false => rw [hbb] at this; exact this
theorem rng_many (hμ : Φ.mt 2 1 = some μ) (Mn : ManyOk μ) {ts : List Tile} (ht : ts.length ≤ 200) {h v2 v3 v4 v5 v6 : Option W} {s : List Cell} : runI Φ (.rng1 (.meth (.var 0) 1 .nil)) [some (setW ts), h, v2, v3, v4, v5, v6] s = .ok ((List.range ts.length).map iD) s := by
  have hsm : smallI (ts.length : Int) = true := smallI_len (Nat.le_of_lt (len_sz ht))
  have e := Mn ts s
  rw [← rng_map]
  simp only [setW] at e
  simp [clsOf, hμ, e, hsm]
/-- one column tried on -/
theorem col_row (hγ : Φ.mt 2 3 = some γ) (Bl : PairOk γ belowB) (hμ : Φ.mt 2 1 = some μ) (Mn : ManyOk μ) {ts : List Tile} (ht : ts.length ≤ 200) {h v2 o6 : Option W} {row : List Nat} (hr : ∀ i ∈ row, i < ts.length) (hl : row.length ≤ 12) {acc : List (List Nat)} (ha : acc.length ≤ 1000000) {base : List Cell} :
    ∃ o6', runB Φ n B_colCol [some (setW ts), h, v2, some (.d (.int (row.length : Int))), some (.h base.length), some (.d (rowD row)), o6] (base ++ [.lst (acc.map rowD)]) =
      .ok (.nx, [some (setW ts), h, v2, some (.d (.int (row.length : Int))), some (.h base.length), some (.d (rowD row)), o6']) (base ++ [.lst ((acc ++ extF ts 1 row).map rowD)]) := by
  have sp : sizeLine = 16777216 := by decide
  obtain ⟨ρ', s', e, o6', rfl, rfl⟩ := forK_pre (Φ := Φ) (n := n) (t := .n 6) (b := B_colTile) iD
    (fun pre ρ s => ∃ o6', ρ = [some (setW ts), h, v2, some (.d (.int (row.length : Int))), some (.h base.length), some (.d (rowD row)), o6'] ∧ s = base ++ [.lst ((acc ++ (pre.filter (fitsB ts 1 row)).map fun t => row ++ [t]).map rowD)])
    (List.range ts.length) [some (setW ts), h, v2, some (.d (.int (row.length : Int))), some (.h base.length), some (.d (rowD row)), o6] (base ++ [.lst (acc.map rowD)]) ⟨o6, rfl, by simp⟩ fun pre t post ρ s ep ⟨o6', hρ, hs⟩ => by
      subst hρ hs
      obtain ⟨_, htl, _⟩ := pre_range ep
      have hz : (acc ++ (pre.filter (fitsB ts 1 row)).map fun t => row ++ [t]).length < sizeLine := by
        have h1 := List.length_filter_le (fitsB ts 1 row) pre
        have h2 := pre_lt ep
        rw [List.length_range] at h2
        rw [List.length_append, List.length_map]
        omega
      refine ⟨_, _, _, rfl, .inl (col_tile hγ Bl hr hl htl hz), some (.d (.int (t : Int))), rfl, ?_⟩
      congr 4
      rw [List.filter_append, List.map_append]
      cases hf : fitsB ts 1 row t <;> simp [hf]
  refine ⟨o6', ?_⟩
  rw [rB_cons, rS_for, rng_many hμ Mn ht, forS_ok, e]
  rfl
theorem rng_cols {v2 : W} {T h v3 v4 v5 v6 : Option W} {l : List PyData} {s s' : List Cell} (hf : frz s v2 = some (.list l, s')) : runI Φ (.seq (.var 2)) [T, h, some v2, v3, v4, v5, v6] s = .ok l s' := by
  simp [frzR, hf]
theorem col_loop (hγ : Φ.mt 2 3 = some γ) (Bl : PairOk γ belowB) (hμ : Φ.mt 2 1 = some μ) (Mn : ManyOk μ) {ts : List Tile} (ht : ts.length ≤ 200) {h : Option W} {v2 o5 o6 : Option W} {k : Nat} (hk : k ≤ 12) {cols : List (List Nat)} (hc : ∀ r ∈ cols, r.length = k ∧ ∀ i ∈ r, i < ts.length) (hn : cols.length ≤ 500) {base : List Cell} :
    ∃ o5' o6', forK Φ n (.n 5) B_colCol (cols.map rowD) [some (setW ts), h, v2, some (.d (.int (k : Int))), some (.h base.length), o5, o6] (base ++ [.lst []]) =
      .ok (.nx, [some (setW ts), h, v2, some (.d (.int (k : Int))), some (.h base.length), o5', o6']) (base ++ [.lst ((cols.flatMap (extF ts 1)).map rowD)]) := by
  obtain ⟨ρ', s', e, o5', o6', rfl, rfl⟩ := forK_pre (Φ := Φ) (n := n) (t := .n 5) (b := B_colCol) rowD
    (fun pre ρ s => ∃ o5' o6', ρ = [some (setW ts), h, v2, some (.d (.int (k : Int))), some (.h base.length), o5', o6'] ∧ s = base ++ [.lst ((pre.flatMap (extF ts 1)).map rowD)])
    cols [some (setW ts), h, v2, some (.d (.int (k : Int))), some (.h base.length), o5, o6] (base ++ [.lst []]) ⟨o5, o6, rfl, rfl⟩ fun pre row post ρ s ep ⟨o5', o6', hρ, hs⟩ => by
      subst hρ hs
      obtain ⟨hl, hr⟩ := hc row (pre_mem ep)
      have hz : (pre.flatMap (extF ts 1)).length ≤ 1000000 := by
        have h1 := flat_len (ts := ts) (w := 1) pre
        have h2 := pre_lt ep
        have h3 : pre.length * ts.length ≤ 500 * 200 := Nat.mul_le_mul (by omega) ht
        omega
      obtain ⟨o6'', e⟩ := col_row (n := n) hγ Bl hμ Mn ht (h := h) (v2 := v2) (o6 := o6') hr (by omega) hz (base := base)
      rw [hl] at e
      refine ⟨_, _, _, rfl, .inl e, some (.d (rowD row)), o6'', rfl, ?_⟩
      rw [List.flatMap_append]
      simp
  exact ⟨o5', o6', e⟩
theorem col_tail {T h v2 v3 v5 v6 : Option W} {l : List PyData} {base : List Cell} (hl : l.length ≤ 500) :
    runB Φ n [(.ite (.cmp .gt (.bi .len (.cons (.var 4) .nil)) (.cst (.int 500))) [.no] []), (.asg (.n 2) (.var 4))] [T, h, v2, v3, some (.h base.length), v5, v6] (base ++ [.lst l]) = .ok (.nx, [T, h, some (.h base.length), v3, some (.h base.length), v5, v6]) (base ++ [.lst l]) := by
  have z : ¬ (500 : Int) < (l.length : Int) := by omega
  simp [seeAll, see_last, z, asgT]
/-- one place more -/
theorem col_place (hγ : Φ.mt 2 3 = some γ) (Bl : PairOk γ belowB) (hμ : Φ.mt 2 1 = some μ) (Mn : ManyOk μ) {ts : List Tile} (ht : ts.length ≤ 200) {h : Option W} {v2 : W} {o4 o5 o6 : Option W} {k : Nat} (hk : k ≤ 12) {cols : List (List Nat)} (hc : ∀ r ∈ cols, r.length = k ∧ ∀ i ∈ r, i < ts.length) (hn : cols.length ≤ 500) (hm : (cols.flatMap (extF ts 1)).length ≤ 500) {s base : List Cell}
    (hf : frz (s ++ [.lst []]) v2 = some (.list (cols.map rowD), base ++ [.lst []])) (hb : base.length = s.length) :
    ∃ o5' o6', runB Φ n B_colPlace [some (setW ts), h, some v2, some (.d (.int (k : Int))), o4, o5, o6] s =
      .ok (.nx, [some (setW ts), h, some (.h base.length), some (.d (.int (k : Int))), some (.h base.length), o5', o6']) (base ++ [.lst ((cols.flatMap (extF ts 1)).map rowD)]) := by
  obtain ⟨o5', o6', e⟩ := col_loop (n := n) hγ Bl hμ Mn ht (h := h) (v2 := some v2) (o5 := o5) (o6 := o6) hk hc hn (base := base)
  refine ⟨o5', o6', ?_⟩
  have z0 : (0 : Nat) ≤ sizeLine := Nat.zero_le _
  have e1 : runS Φ n (.asg (.n 4) (.th (.lst .nil))) [some (setW ts), h, some v2, some (.d (.int (k : Int))), o4, o5, o6] s = .ok (.nx, [some (setW ts), h, some v2, some (.d (.int (k : Int))), some (.h base.length), o5, o6]) (s ++ [.lst []]) := by
    rw [hb]
    exact set_n (by simp [frzsR, frzAll])
  unfold B_colPlace
  rw [step1 e1]
  have e2 : runS Φ n (.for (.n 5) (.seq (.var 2)) B_colCol) [some (setW ts), h, some v2, some (.d (.int (k : Int))), some (.h base.length), o5, o6] (s ++ [.lst []]) = .ok (.nx, [some (setW ts), h, some v2, some (.d (.int (k : Int))), some (.h base.length), o5', o6']) (base ++ [.lst ((cols.flatMap (extF ts 1)).map rowD)]) := by
    rw [rS_for, rng_cols hf, forS_ok, e]
  rw [step1 e2]
  exact col_tail (by simpa using hm)
/-- all columns so high -/
theorem col_all (hγ : Φ.mt 2 3 = some γ) (Bl : PairOk γ belowB) (hμ : Φ.mt 2 1 = some μ) (Mn : ManyOk μ) {ts : List Tile} (ht : ts.length ≤ 200) {H : Nat} (hH : H ≤ 12) (hm : ∀ k, k ≤ H → (layF ts 1 k).length ≤ 500) {h o3 o4 o5 o6 : Option W} :
    ∃ (v2 : W) (o3' o4' o5' o6' : Option W) (s : List Cell), forK Φ n (.n 3) B_colPlace (upTo 0 H) [some (setW ts), h, some (.d (.list [.tuple []])), o3, o4, o5, o6] [] = .ok (.nx, [some (setW ts), h, some v2, o3', o4', o5', o6']) s ∧
      (H = 0 ∨ ∃ base, v2 = .h base.length ∧ s = base ++ [.lst ((layF ts 1 H).map rowD)]) := by
  rw [rng_map]
  obtain ⟨ρ', s', e, v2, o3', o4', o5', o6', rfl, hv⟩ := forK_pre (Φ := Φ) (n := n) (t := .n 3) (b := B_colPlace) iD
    (fun pre ρ s => ∃ (v2 : W) (o3' o4' o5' o6' : Option W), ρ = [some (setW ts), h, some v2, o3', o4', o5', o6'] ∧ ((pre.length = 0 ∧ v2 = .d (.list [.tuple []]) ∧ s = []) ∨ ∃ base, v2 = .h base.length ∧ s = base ++ [.lst ((layF ts 1 pre.length).map rowD)]))
    (List.range H) [some (setW ts), h, some (.d (.list [.tuple []])), o3, o4, o5, o6] [] ⟨_, o3, o4, o5, o6, rfl, .inl ⟨rfl, rfl, rfl⟩⟩ fun pre k post ρ s ep ⟨v2, o3', o4', o5', o6', hρ, hv⟩ => by
      subst hρ
      obtain ⟨hk, hkl, _⟩ := pre_range ep
      rw [← hk] at hv
      have hcols : ∀ r ∈ layF ts 1 k, r.length = k ∧ ∀ i ∈ r, i < ts.length := fun r hr => layF_mem hr
      have key : ∃ base, frz (s ++ [.lst []]) v2 = some (.list ((layF ts 1 k).map rowD), base ++ [.lst []]) ∧ base.length = s.length := by
        rcases hv with ⟨h0, rfl, rfl⟩ | ⟨base, rfl, rfl⟩
        · refine ⟨[], ?_, rfl⟩
          subst h0
          rfl
        · refine ⟨base ++ [.fzl ((layF ts 1 k).map rowD)], ?_, by simp⟩
          have q : (base ++ [Cell.lst ((layF ts 1 k).map rowD)] ++ [Cell.lst []])[base.length]? = some (.lst ((layF ts 1 k).map rowD)) := by simp
          unfold frz
          simp only [q]
          congr 1
          simp [List.set_append_right]
      obtain ⟨base, hf, hb⟩ := key
      obtain ⟨o5'', o6'', e⟩ := col_place (n := n) hγ Bl hμ Mn ht (h := h) (v2 := v2) (o4 := o4') (o5 := o5') (o6 := o6') (by omega) hcols (hm k (by omega)) (hm (k + 1) (by omega)) hf hb
      refine ⟨_, _, _, rfl, .inl e, _, _, _, _, _, rfl, .inr ⟨base, rfl, ?_⟩⟩
      rw [List.length_append, List.length_singleton, ← hk]
      rfl
  rw [List.length_range] at hv
  refine ⟨v2, o3', o4', o5', o6', s', e, ?_⟩
  rcases hv with ⟨h0, _, _⟩ | h
  · exact .inl h0
  · exact .inr h
def ColumnsOk (φ : Fs) : Prop := ∀ (ts : List Tile) (h : Nat) (s : List Cell), ts.length ≤ 200 → 1 ≤ h → h ≤ 12 → (∀ k, k ≤ h → (layF ts 1 k).length ≤ 500) → callX φ [setW ts, .d (.int h)] s = .ok (.l ((layF ts 1 h).map rowD)) s
theorem col_head {φ : Fs} (h78 : Φ.fn 78 = some φ) {T : W} {h : Int} {o2 o3 o4 o5 o6 : Option W} {rest : List S} (e : callF φ [.d (.int h), .d (.int 1)] [] = .ok (.d .none) []) (hsm : smallI h = true) {H : Nat} (hH : h.toNat = H) {b : List S} :
    runB Φ n ((.ex (.call 78 (.cons (.var 1) (.cons (.cst (.int 1)) .nil)))) :: (.asg (.n 2) (.fr (.lst (.cons (.tup .nil) .nil)))) :: (.for (.n 3) (.rng1 (.var 1)) b) :: rest) [some T, some (.d (.int h)), o2, o3, o4, o5, o6] [] = R.sq (forK Φ n (.n 3) b (upTo 0 H) [some T, some (.d (.int h)), some (.d (.list [.tuple []])), o3, o4, o5, o6] []) (runB Φ n rest) := by
  have z0 : (0 : Nat) ≤ sizeLine := Nat.zero_le _
  have z1 : (1 : Nat) ≤ sizeLine := by decide
  have e1 : runS Φ n (.ex (.call 78 (.cons (.var 1) (.cons (.cst (.int 1)) .nil)))) [some T, some (.d (.int h)), o2, o3, o4, o5, o6] [] = .ok (.nx, [some T, some (.d (.int h)), o2, o3, o4, o5, o6]) [] := by simp [h78, e]
  have e2 : runS Φ n (.asg (.n 2) (.fr (.lst (.cons (.tup .nil) .nil)))) [some T, some (.d (.int h)), o2, o3, o4, o5, o6] [] = .ok (.nx, [some T, some (.d (.int h)), some (.d (.list [.tuple []])), o3, o4, o5, o6]) [] := set_n (by simp [frzsR, frzAll, z0, z1])
  rw [step1 e1, step1 e2, rB_cons, rS_for, rng_var (j := h) rfl hsm, hH, forS_ok]
theorem columns_ok {φ : Fs} (h78 : Φ.fn 78 = some φ) (Ne : NeedOk φ) (hγ : Φ.mt 2 3 = some γ) (Bl : PairOk γ belowB) (hμ : Φ.mt 2 1 = some μ) (Mn : ManyOk μ) : ColumnsOk (.p 2 (gP Φ n B_columns 7)) := fun ts h s ht h1 h2 hm => by
  obtain ⟨v2, o3', o4', o5', o6', s', e, hv⟩ := col_all (n := n) hγ Bl hμ Mn ht h2 hm (h := some (.d (.int (h : Int)))) (o3 := none) (o4 := none) (o5 := none) (o6 := none)
  refine callXF rfl (vs := [setW ts, .d (.int h)]) rfl ?_
  rcases hv with h0 | ⟨base, rfl, rfl⟩
  · omega
  · have sp : sizeLine = 16777216 := by decide
    show endP (runB Φ n B_columns [some (setW ts), some (.d (.int (h : Int))), none, none, none, none, none] []) = _
    unfold B_columns
    rw [col_head h78 (Ne _ _ [] (by omega) (by omega) (by omega) (by omega)) (smallI_len (by omega)) (Int.toNat_natCast h), e, R.sq_nx]
    have q : finP (.h base.length) (base ++ [Cell.lst ((layF ts 1 h).map rowD)]) = some (.fresh ((layF ts 1 h).map rowD)) := by
      unfold finP
      simp only [get_last]
    rw [rB_cons, rS_ret]
    exact q
end
end DM

set_option maxRecDepth 100000
/-! L13: which column stands beside which; bands. -/
namespace DM
open PySem
/-! ### goes_on -/
def goB (ts : List Tile) (a b : List Nat) : Bool := (List.range a.length).all fun k => besideB ts (gN a k) (gN b k)
abbrev B_goIn : List S := [(.ite (.not (.meth (.var 0) 2 (.cons (.idx (.var 1) (.var 3)) (.cons (.idx (.var 2) (.var 3)) .nil)))) [(.ret (.cst (.bool false)))] [])]
def B_goesOn : List S := [(.for (.n 3) (.rng1 (.bi .len (.cons (.var 1) .nil))) B_goIn), (.ret (.cst (.bool true)))]
def GoOk (φ : Fs) : Prop := ∀ (ts : List Tile) (a b : List Nat) (s : List Cell), a.length = b.length → a.length ≤ 1000 → (∀ i ∈ a, i < ts.length) → (∀ i ∈ b, i < ts.length) → callF φ [setW ts, .d (rowD a), .d (rowD b)] s = .ok (.d (.bool (goB ts a b))) s
theorem go_in {Φ : Phi} {n : Nat} {β : Fs} {fs : List (Nat × PyData)} (hβ : Φ.mt 2 2 = some β) {a b : List PyData} {k x y : Int} {r : Bool} {s : List Cell} (e1 : atD a k = some (.int x)) (e2 : atD b k = some (.int y)) (e3 : callF β [.o 2 fs, .d (.int x), .d (.int y)] s = .ok (.d (.bool r)) s) :
    runB Φ n B_goIn [some (.o 2 fs), some (.d (.tuple a)), some (.d (.tuple b)), some (.d (.int k))] s = if r then .ok (.nx, [some (.o 2 fs), some (.d (.tuple a)), some (.d (.tuple b)), some (.d (.int k))]) s else .ok (.ret (.d (.bool false)), [some (.o 2 fs), some (.d (.tuple a)), some (.d (.tuple b)), some (.d (.int k))]) s := by
  cases r <;> simp [B_goIn, clsOf, hβ, e1, e2, e3]
theorem go_rng {Φ : Phi} {T b o : Option W} {l : List PyData} {s : List Cell} (hl : l.length ≤ sizeLine) : runI Φ (.rng1 (.bi .len (.cons (.var 1) .nil))) [T, some (.d (.tuple l)), b, o] s = .ok (upTo 0 l.length) s := by
  have hsm := smallI_len hl
  simp [seeAll, hsm]
theorem goesOn_ok {Φ : Phi} {β : Fs} (n : Nat) (hβ : Φ.mt 2 2 = some β) (Be : PairOk β besideB) : GoOk (.p 3 (gP Φ n B_goesOn 4)) := fun ts a b s hab hl ha hb => by
  refine callP rfl (vs := [setW ts, .d (rowD a), .d (rowD b)]) rfl ?_
  have sp : sizeLine = 16777216 := by decide
  have step := forK_find (Φ := Φ) (n := n) (t := .n 3) (b := B_goIn) (w := .d (.bool false)) (s := []) (fun ρ => ∃ o, ρ = [some (setW ts), some (.d (rowD a)), some (.d (rowD b)), o])
    (fun k => besideB ts (gN a k) (gN b k)) (upTo 0 a.length) 0 [some (setW ts), some (.d (rowD a)), some (.d (rowD b)), none] ⟨none, rfl⟩ fun j x ρ hj ⟨o, hρ⟩ => by
      subst hρ
      obtain ⟨rfl, hjl⟩ := upTo_get _ _ _ _ hj
      rw [Int.zero_add, Nat.zero_add]
      have e := go_in (Φ := Φ) (n := n) (fs := [(3, rowsD ts)]) hβ (at_row hjl) (at_row (show j < b.length by omega)) (Be ts _ _ [] (getD_lt ha hjl) (getD_lt hb (by omega)))
      refine ⟨_, rfl, fun hp => ⟨[some (setW ts), some (.d (rowD a)), some (.d (rowD b)), some (.d (.int (j : Int)))], .inl ?_, _, rfl⟩, fun hp => ⟨[some (setW ts), some (.d (rowD a)), some (.d (rowD b)), some (.d (.int (j : Int)))], ?_⟩⟩
      · rw [hp] at e; exact e
      · rw [hp] at e; exact e
  rw [upTo_len] at step
  simp only [Nat.zero_add] at step
  have er := go_rng (Φ := Φ) (T := some (setW ts)) (b := some (.d (rowD b))) (o := none) (l := a.map fun (i : Nat) => PyData.int (i : Int)) (s := []) (by rw [List.length_map]; omega)
  rw [List.length_map] at er
  show endP (runB Φ n B_goesOn [some (setW ts), some (.d (rowD a)), some (.d (rowD b)), none] []) = _
  unfold B_goesOn
  rw [rB_cons, rS_for]
  refine (congrArg (fun r => endP (R.sq (forS Φ n (.n 3) B_goIn [some (setW ts), some (.d (rowD a)), some (.d (rowD b)), none] r) (runB Φ n [(.ret (.cst (.bool true)))]))) er).trans ?_
  simp only [forS_ok]
  have hg : (∀ j, j < a.length → besideB ts (gN a j) (gN b j) = true) ↔ goB ts a b = true := by
    unfold goB
    rw [List.all_eq_true]
    exact ⟨fun h j hj => h j (List.mem_range.mp hj), fun h j hj => h j (List.mem_range.mpr hj)⟩
  cases hb : goB ts a b with
  | true =>
    obtain ⟨ρ', e, o, rfl⟩ := step.1 (hg.mpr hb)
    rw [e, R.sq_nx, rB_cons, rS_ret, rE_cst, R.st_ok, R.sq_ret]
    rfl
  | false =>
    obtain ⟨ρ', e⟩ := step.2 (fun h => by rw [hg.mp h] at hb; cases hb)
    rw [e, R.sq_ret]
    rfl
/-! ### a band -/
def nextL (ts : List Tile) (C : List (List Nat)) (a : List Nat) : List Nat := (List.range C.length).filter fun k => goB ts a (gR C k)
def nextsD (ts : List Tile) (C : List (List Nat)) : PyData := .list (C.map fun a => .list ((nextL ts C a).map iD))
abbrev bandW (ts : List Tile) (C : List (List Nat)) : W := .o 7 [(4, layD C), (5, nextsD ts C)]
abbrev E_nextRow : E := .fr (.comp (.rng1 (.bi .len (.cons (.fld (.var 0) 4) .nil))) (.n 5) [5] (.some (.call 64 (.cons (.var 1) (.cons (.var 3) (.cons (.idx (.fld (.var 0) 4) (.var 5)) .nil))))) (.var 5))
abbrev B_bandIn : List S := [(.asg (.n 4) E_nextRow), (.ex (.app (.fld (.var 0) 5) (.var 4)))]
def B_bandInit : List S := [(.setF (.var 0) 4 (.call 58 (.cons (.var 1) (.cons (.var 2) .nil)))), (.setF (.var 0) 5 (.th (.lst .nil))), (.for (.n 3) (.seq (.fld (.var 0) 4)) B_bandIn)]
def MkBand (ψ : Ms) : Prop := ∀ (ts : List Tile) (h : Nat) (s : List Cell), ts.length ≤ 200 → 1 ≤ h → h ≤ 12 → (∀ k, k ≤ h → (layF ts 1 k).length ≤ 500) → mkF ψ 7 [setW ts, .d (.int h)] s = .ok (bandW ts (layF ts 1 h)) s
theorem band_cond {Φ : Phi} {φ : Fs} {h r : Option W} {cols : List PyData} {k : Int} {x : PyData} {b : Bool} {nl : W} {rest : List Cell} (h64 : Φ.fn 64 = some φ) {t o : W} (ex : atD cols k = some x) (e : callF φ [t, o, .d x] ([.ins 7 [(4, .d (.list cols)), (5, nl)]] ++ rest) = .ok (.d (.bool b)) ([.ins 7 [(4, .d (.list cols)), (5, nl)]] ++ rest)) :
    runE Φ (.call 64 (.cons (.var 1) (.cons (.var 3) (.cons (.idx (.fld (.var 0) 4) (.var 5)) .nil)))) [some (.h 0), some t, h, some o, r, some (.d (.int k))] ([.ins 7 [(4, .d (.list cols)), (5, nl)]] ++ rest) = .ok (.d (.bool b)) ([.ins 7 [(4, .d (.list cols)), (5, nl)]] ++ rest) := by
  simp at e
  simp [h64, fldW, getN, ex, e]
theorem band_rng {Φ : Phi} {t h o r k : Option W} {cols : List PyData} {nl : W} {rest : List Cell} (hl : cols.length ≤ sizeLine) : runI Φ (.rng1 (.bi .len (.cons (.fld (.var 0) 4) .nil))) [some (.h 0), t, h, o, r, k] ([.ins 7 [(4, .d (.list cols)), (5, nl)]] ++ rest) = .ok (upTo 0 cols.length) ([.ins 7 [(4, .d (.list cols)), (5, nl)]] ++ rest) := by
  have hsm := smallI_len hl
  simp [fldW, getN, seeAll, hsm]
theorem band_row {Φ : Phi} {φ : Fs} (h64 : Φ.fn 64 = some φ) (Go : GoOk φ) {ts : List Tile} {h : Nat} (hh : h ≤ 1000) {C : List (List Nat)} (hC : ∀ r ∈ C, r.length = h ∧ ∀ i ∈ r, i < ts.length) (hn : C.length ≤ 100000) {a : List Nat} (ha : a.length = h ∧ ∀ i ∈ a, i < ts.length) {o2 o4 o5 : Option W} {nl : W} {rest : List Cell} :
    runE Φ E_nextRow [some (.h 0), some (setW ts), o2, some (.d (rowD a)), o4, o5] ([.ins 7 [(4, .d (layD C)), (5, nl)]] ++ rest) = .ok (.d (.list ((nextL ts C a).map iD))) ([.ins 7 [(4, .d (layD C)), (5, nl)]] ++ rest) := by
  have sp : sizeLine = 16777216 := by decide
  have key : compT Φ (.n 5) [5] (.some (.call 64 (.cons (.var 1) (.cons (.var 3) (.cons (.idx (.fld (.var 0) 4) (.var 5)) .nil))))) (.var 5) [some (.h 0), some (setW ts), o2, some (.d (rowD a)), o4, o5] (.ok ((List.range C.length).map iD) ([.ins 7 [(4, .d (layD C)), (5, nl)]] ++ rest)) = .ok ((nextL ts C a).map iD) ([.ins 7 [(4, .d (layD C)), (5, nl)]] ++ rest) := by
    refine compT_fm (by simp; omega) fun k hk => ?_
    have hkl : k < C.length := List.mem_range.mp hk
    have hm := hC _ (gR_mem hkl)
    have eg := Go ts a (gR C k) ([.ins 7 [(4, .d (layD C)), (5, nl)]] ++ rest) (by rw [ha.1, hm.1]) (by omega) ha.2 hm.2
    refine turnK_c (band_cond h64 (at_lay hkl) eg) (fun _ => rfl) fun _ => rfl
  have er := band_rng (Φ := Φ) (t := some (setW ts)) (h := o2) (o := some (.d (rowD a))) (r := o4) (k := o5) (cols := C.map rowD) (nl := nl) (rest := rest) (by rw [List.length_map]; omega)
  rw [List.length_map, rng_map] at er
  rw [rE_fr, rF_comp]
  exact (congrArg (fun r => (compT Φ (.n 5) [5] (.some (.call 64 (.cons (.var 1) (.cons (.var 3) (.cons (.idx (.fld (.var 0) 4) (.var 5)) .nil))))) (.var 5) [some (.h 0), some (setW ts), o2, some (.d (rowD a)), o4, o5] r).bind fun l s => R.ok (W.d (.list l)) s) er).trans (congrArg (fun r => R.bind r fun l s => R.ok (W.d (.list l)) s) key)
theorem band_app {Φ : Phi} {n : Nat} {t h o k o4 : Option W} {cols x : PyData} {acc : List PyData} (ha : acc.length < sizeLine) : runS Φ n (.ex (.app (.fld (.var 0) 5) (.var 4))) [some (.h 0), t, h, o, some (.d x), k] [.ins 7 [(4, .d cols), (5, .h 1)], .lst acc] = .ok (.nx, [some (.h 0), t, h, o, some (.d x), k]) [.ins 7 [(4, .d cols), (5, .h 1)], .lst (acc ++ [x])] := by
  simp [fldW, getN, isL, see, frzR, appW, ha]
theorem band_head {Φ : Phi} {n : Nat} {φ : Fs} {t : W} {h : Int} {o3 o4 o5 : Option W} {l : List PyData} (h58 : Φ.fn 58 = some φ) (hh4 : Φ.has 7 4 = true) (hh5 : Φ.has 7 5 = true) (e : callF φ [t, .d (.int h)] [.ins 7 []] = .ok (.d (.list l)) [.ins 7 []]) {rest : List S} :
    runB Φ n ((.setF (.var 0) 4 (.call 58 (.cons (.var 1) (.cons (.var 2) .nil)))) :: (.setF (.var 0) 5 (.th (.lst .nil))) :: rest) [some (.h 0), some t, some (.d (.int h)), o3, o4, o5] [.ins 7 []] =
      runB Φ n rest [some (.h 0), some t, some (.d (.int h)), o3, o4, o5] [.ins 7 [(4, .d (.list l)), (5, .h 1)], .lst []] := by
  have z0 : (0 : Nat) ≤ sizeLine := Nat.zero_le _
  have e1 : runS Φ n (.setF (.var 0) 4 (.call 58 (.cons (.var 1) (.cons (.var 2) .nil)))) [some (.h 0), some t, some (.d (.int h)), o3, o4, o5] [.ins 7 []] = .ok (.nx, [some (.h 0), some t, some (.d (.int h)), o3, o4, o5]) [.ins 7 [(4, .d (.list l))]] := by
    simp [h58, e, setFW, hh4, putN]
  have e2 : runS Φ n (.setF (.var 0) 5 (.th (.lst .nil))) [some (.h 0), some t, some (.d (.int h)), o3, o4, o5] [.ins 7 [(4, .d (.list l))]] = .ok (.nx, [some (.h 0), some t, some (.d (.int h)), o3, o4, o5]) [.ins 7 [(4, .d (.list l)), (5, .h 1)], .lst []] := by
    simp [frzsR, frzAll, setFW, hh5, putN]
  rw [step1 e1, step1 e2]
theorem band_ok {Φ : Phi} {φ58 φ64 : Fs} (n : Nat) (h58 : Φ.fn 58 = some φ58) (Co : ColumnsOk φ58) (h64 : Φ.fn 64 = some φ64) (Go : GoOk φ64) (hh4 : Φ.has 7 4 = true) (hh5 : Φ.has 7 5 = true) : MkBand (.p 2 (gI 7 Φ n B_bandInit 6)) := fun ts h s ht h1 h2 hm => by
  have sp : sizeLine = 16777216 := by decide
  have e := callF_X (Co ts h [.ins 7 []] ht h1 h2 hm)
  have hC : ∀ r ∈ layF ts 1 h, r.length = h ∧ ∀ i ∈ r, i < ts.length := fun r hr => layF_mem hr
  have hn := hm h (Nat.le_refl _)
  generalize layF ts 1 h = C at e hC hn ⊢
  have lp : ∃ o3' o4' o5', forK Φ n (.n 3) B_bandIn (C.map rowD) [some (.h 0), some (setW ts), some (.d (.int (h : Int))), none, none, none] [.ins 7 [(4, .d (layD C)), (5, .h 1)], .lst []] = .ok (.nx, [some (.h 0), some (setW ts), some (.d (.int (h : Int))), o3', o4', o5']) [.ins 7 [(4, .d (layD C)), (5, .h 1)], .lst (C.map fun a => .list ((nextL ts C a).map iD))] := by
    obtain ⟨ρ', s', e, o3', o4', o5', rfl, rfl⟩ := forK_pre (Φ := Φ) (n := n) (t := .n 3) (b := B_bandIn) rowD
      (fun pre ρ s => ∃ o3' o4' o5', ρ = [some (.h 0), some (setW ts), some (.d (.int (h : Int))), o3', o4', o5'] ∧ s = [.ins 7 [(4, .d (layD C)), (5, .h 1)], .lst (pre.map fun a => .list ((nextL ts C a).map iD))])
      C [some (.h 0), some (setW ts), some (.d (.int (h : Int))), none, none, none] [.ins 7 [(4, .d (layD C)), (5, .h 1)], .lst []] ⟨none, none, none, rfl, rfl⟩ fun pre a post ρ s ep ⟨o3', o4', o5', hρ, hs⟩ => by
        subst hρ hs
        have e1 := band_row h64 Go (show h ≤ 1000 by omega) hC (by omega) (hC a (pre_mem ep)) (o2 := some (.d (.int (h : Int)))) (o4 := o4') (o5 := o5') (nl := .h 1) (rest := [.lst (pre.map fun a => .list ((nextL ts C a).map iD))])
        have e2 := band_app (Φ := Φ) (n := n) (t := some (setW ts)) (h := some (.d (.int (h : Int)))) (o := some (.d (rowD a))) (k := o5') (o4 := none) (cols := layD C) (x := .list ((nextL ts C a).map iD)) (acc := pre.map fun a => .list ((nextL ts C a).map iD)) (by have := pre_lt ep; rw [List.length_map]; omega)
        refine ⟨_, [some (.h 0), some (setW ts), some (.d (.int (h : Int))), some (.d (rowD a)), some (.d (.list ((nextL ts C a).map iD))), o5'], _, rfl, .inl ?_, _, _, _, rfl, rfl⟩
        unfold B_bandIn
        refine (step1 (set_n e1)).trans ?_
        refine (step1 e2).trans ?_
        rw [rB_nil, List.map_append]
        rfl
    exact ⟨o3', o4', o5', e⟩
  obtain ⟨o3', o4', o5', e2⟩ := lp
  have g : gI 7 Φ n B_bandInit 6 [setW ts, .d (.int h)] = some (.ok [(4, layD C), (5, nextsD ts C)]) := by
    show endI 7 (runB Φ n B_bandInit [some (.h 0), some (setW ts), some (.d (.int (h : Int))), none, none, none] [.ins 7 []]) = _
    unfold B_bandInit
    rw [band_head h58 hh4 hh5 e, rB_cons, rS_for]
    have eI : runI Φ (.seq (.fld (.var 0) 4)) [some (.h 0), some (setW ts), some (.d (.int (h : Int))), none, none, none] [.ins 7 [(4, .d (.list (C.map rowD))), (5, .h 1)], .lst []] = .ok (C.map rowD) [.ins 7 [(4, .d (.list (C.map rowD))), (5, .h 1)], .lst []] := rfl
    rw [eI, forS_ok]
    refine (congrArg (fun r => endI 7 (R.sq r (runB Φ n []))) e2).trans ?_
    rfl
  unfold mkF
  show (if 2 = 2 then match viewAll s [setW ts, .d (.int h)] with
    | some (vs, live) => match gI 7 Φ n B_bandInit 6 vs with
      | some (.ok fs) => if !live then R.ok (W.o 7 fs) s else .no
      | some (.error x) => .ex x s
      | none => .no
    | none => .no else .no : R W) = _
  rw [if_pos rfl]
  have hv : viewAll s [setW ts, .d (.int h)] = some ([setW ts, .d (.int h)], false) := rfl
  rw [hv]
  simp only [g]
  rfl
end DM

set_option maxRecDepth 100000
/-! L14: steps from column to column; counts, around. -/
namespace DM
open PySem
def addA (acc : List Int) (j : Nat) (x : Int) : List Int := acc.set j (acc.getD j 0 + x)
theorem addA_len (acc : List Int) (j : Nat) (x : Int) : (addA acc j x).length = acc.length := by simp [addA]
def addAll (acc : List Int) (js : List Nat) (x : Int) : List Int := js.foldl (fun a j => addA a j x) acc
theorem addAll_len : ∀ (js : List Nat) (acc : List Int) (x : Int), (addAll acc js x).length = acc.length
  | [], _, _ => rfl
  | j :: js, acc, x => by
    show (addAll (addA acc j x) js x).length = _
    rw [addAll_len js, addA_len]
theorem addAll_snoc (acc : List Int) (js : List Nat) (j : Nat) (x : Int) : addAll acc (js ++ [j]) x = addA (addAll acc js x) j x := by simp [addAll]
def stepTo (N : Nat → List Nat) (v : List Int) (ks : List Nat) (acc : List Int) : List Int := ks.foldl (fun a k => addAll a (N k) (v.getD k 0)) acc
theorem stepTo_len (N : Nat → List Nat) (v : List Int) : ∀ (ks : List Nat) (acc : List Int), (stepTo N v ks acc).length = acc.length
  | [], _ => rfl
  | k :: ks, acc => by
    show (stepTo N v ks (addAll acc (N k) (v.getD k 0))).length = _
    rw [stepTo_len N v ks, addAll_len]
theorem stepTo_snoc (N : Nat → List Nat) (v : List Int) (ks : List Nat) (k : Nat) (acc : List Int) : stepTo N v (ks ++ [k]) acc = addAll (stepTo N v ks acc) (N k) (v.getD k 0) := by simp [stepTo]
/-- the numbers of the columns to the east of the column with a number -/
def nxt (ts : List Tile) (C : List (List Nat)) (k : Nat) : List Nat := nextL ts C (gR C k)
theorem nxt_lt {ts : List Tile} {C : List (List Nat)} {k j : Nat} (h : j ∈ nxt ts C k) : j < C.length := by
  unfold nxt nextL at h
  rw [List.mem_filter, List.mem_range] at h
  exact h.1
def stepV (ts : List Tile) (C : List (List Nat)) (v : List Int) : List Int := stepTo (nxt ts C) v (List.range v.length) (C.map fun _ => 0)
theorem stepV_len (ts : List Tile) (C : List (List Nat)) (v : List Int) : (stepV ts C v).length = C.length := by unfold stepV; rw [stepTo_len, List.length_map]
abbrev B_stepIn : List S := [(.setI (.var 2) (.var 4) (.bin .add (.idx (.var 2) (.var 4)) (.idx (.var 1) (.var 3))))]
abbrev B_stepK : List S := [(.for (.n 4) (.seq (.idx (.fld (.var 0) 5) (.var 3))) B_stepIn)]
def B_step : List S := [(.asg (.n 2) (.th (.comp (.seq (.fld (.var 0) 4)) (.n 5) [5] .none (.cst (.int 0))))), (.for (.n 3) (.rng1 (.bi .len (.cons (.var 1) .nil))) B_stepK), (.ret (.var 2))]
section
variable {Φ : Phi} {n : Nat}
theorem step_in {b o5 : Option W} {cs acc : List PyData} {k : Int} {j : Nat} {x y : Int} (hc : atD cs k = some (.int x)) (hj : j < acc.length) (ha : acc[j]? = some (.int y)) :
    runB Φ n B_stepIn [b, some (.d (.list cs)), some (.h 0), some (.d (.int k)), some (.d (.int (j : Int))), o5] [.lst acc] = .ok (.nx, [b, some (.d (.list cs)), some (.h 0), some (.d (.int k)), some (.d (.int (j : Int))), o5]) [.lst (acc.set j (.int (y + x)))] := by
  have hx : ixD acc.length (j : Int) = some j := by unfold ixD; rw [if_pos (by omega), if_pos (by omega)]; simp
  have ha' : atD acc (j : Int) = some (.int y) := by unfold atD; rw [hx]; exact ha
  simp [B_stepIn, see, hc, ha', frzR, setIW, hx]
theorem step_add {b o5 : Option W} {v acc : List Int} {k j : Nat} (hk : k < v.length) (hj : j < acc.length) :
    runB Φ n B_stepIn [b, some (.d (.list (v.map .int))), some (.h 0), some (.d (.int (k : Int))), some (.d (.int (j : Int))), o5] [.lst (acc.map .int)] = .ok (.nx, [b, some (.d (.list (v.map .int))), some (.h 0), some (.d (.int (k : Int))), some (.d (.int (j : Int))), o5]) [.lst ((addA acc j (v.getD k 0)).map .int)] := by
  have e := step_in (Φ := Φ) (n := n) (b := b) (o5 := o5) (cs := v.map .int) (acc := acc.map .int) (k := (k : Int)) (atD_map hk) (by simpa using hj) (show (acc.map PyData.int)[j]? = some (.int acc[j]) by simp [hj])
  rw [e]
  unfold addA
  rw [List.map_set]
  simp [hk, hj, List.getD_eq_getElem?_getD]
theorem step_row {ts : List Tile} {C : List (List Nat)} {v acc : List Int} {k : Nat} (hv : v.length = C.length) (hk : k < C.length) (ha : acc.length = C.length) {o4 o5 : Option W} :
    ∃ o4', runB Φ n B_stepK [some (bandW ts C), some (.d (.list (v.map .int))), some (.h 0), some (.d (.int (k : Int))), o4, o5] [.lst (acc.map .int)] = .ok (.nx, [some (bandW ts C), some (.d (.list (v.map .int))), some (.h 0), some (.d (.int (k : Int))), o4', o5]) [.lst ((addAll acc (nxt ts C k) (v.getD k 0)).map .int)] := by
  obtain ⟨ρ', s', e, o4', rfl, rfl⟩ := forK_pre (Φ := Φ) (n := n) (t := .n 4) (b := B_stepIn) iD
    (fun pre ρ s => ∃ o4', ρ = [some (bandW ts C), some (.d (.list (v.map .int))), some (.h 0), some (.d (.int (k : Int))), o4', o5] ∧ s = [.lst ((addAll acc pre (v.getD k 0)).map .int)])
    (nxt ts C k) [some (bandW ts C), some (.d (.list (v.map .int))), some (.h 0), some (.d (.int (k : Int))), o4, o5] [.lst (acc.map .int)] ⟨o4, rfl, rfl⟩ fun pre j post ρ s ep ⟨o4', hρ, hs⟩ => by
      subst hρ hs
      have hj : j < (addAll acc pre (v.getD k 0)).length := by rw [addAll_len, ha]; exact nxt_lt (pre_mem ep)
      refine ⟨_, _, _, rfl, .inl (step_add (by omega) hj), some (.d (.int (j : Int))), rfl, ?_⟩
      rw [addAll_snoc]
  refine ⟨o4', ?_⟩
  have eI : runI Φ (.seq (.idx (.fld (.var 0) 5) (.var 3))) [some (bandW ts C), some (.d (.list (v.map .int))), some (.h 0), some (.d (.int (k : Int))), o4, o5] [.lst (acc.map .int)] = .ok ((nxt ts C k).map iD) [.lst (acc.map .int)] := by
    have ex : atD (C.map fun a => PyData.list ((nextL ts C a).map iD)) (k : Int) = some (.list ((nxt ts C k).map iD)) := by
      rw [atD_map hk]
      have : C[k] = gR C k := by have := gR_at hk; rw [List.getElem?_eq_getElem hk] at this; exact Option.some.inj this
      rw [this]
      rfl
    unfold bandW nextsD
    simp [-List.map_map, fldW, getN, ex, frzR]
  unfold B_stepK
  rw [rB_cons, rS_for, eI, forS_ok, e]
  rfl
def StepOk (φ : Fs) : Prop := ∀ (ts : List Tile) (C : List (List Nat)) (v : List Int) (s : List Cell), C.length ≤ 100000 → v.length = C.length → callF φ [bandW ts C, .d (.list (v.map .int))] s = .ok (.d (.list ((stepV ts C v).map .int))) s
theorem step_ok : StepOk (.p 2 (gP Φ n B_step 6)) := fun ts C v s hC hv => by
  have sp : sizeLine = 16777216 := by decide
  refine callF_X (callXF rfl (vs := [bandW ts C, .d (.list (v.map .int))]) rfl ?_)
  obtain ⟨ρ', s', e, o3', o4', rfl, rfl⟩ := forK_pre (Φ := Φ) (n := n) (t := .n 3) (b := B_stepK) iD
    (fun pre ρ s => ∃ o3' o4', ρ = [some (bandW ts C), some (.d (.list (v.map .int))), some (.h 0), o3', o4', none] ∧ s = [.lst ((stepTo (nxt ts C) v pre (C.map fun _ => 0)).map .int)])
    (List.range v.length) [some (bandW ts C), some (.d (.list (v.map .int))), some (.h 0), none, none, none] [.lst ((C.map fun _ => (0 : Int)).map .int)] ⟨none, none, rfl, rfl⟩ fun pre k post ρ s ep ⟨o3', o4', hρ, hs⟩ => by
      subst hρ hs
      obtain ⟨_, hk, _⟩ := pre_range ep
      obtain ⟨o4'', e⟩ := step_row (Φ := Φ) (n := n) (ts := ts) (C := C) (k := k) (acc := stepTo (nxt ts C) v pre (C.map fun _ => 0)) hv (by omega) (by rw [stepTo_len, List.length_map]) (o4 := o4') (o5 := none)
      refine ⟨_, _, _, rfl, .inl e, some (.d (.int (k : Int))), o4'', rfl, ?_⟩
      rw [stepTo_snoc]
  have e1 : runS Φ n (.asg (.n 2) (.th (.comp (.seq (.fld (.var 0) 4)) (.n 5) [5] .none (.cst (.int 0))))) [some (bandW ts C), some (.d (.list (v.map .int))), none, none, none, none] [] = .ok (.nx, [some (bandW ts C), some (.d (.list (v.map .int))), some (.h 0), none, none, none]) [.lst ((C.map fun _ => (0 : Int)).map .int)] := by
    have key : compT Φ (.n 5) [5] .none (.cst (.int 0)) [some (bandW ts C), some (.d (.list (v.map .int))), none, none, none, none] (.ok (C.map rowD) []) = .ok (C.map fun _ => PyData.int 0) [] := compT_mp (by omega) fun r _ => turnK_e rfl
    have eI : runI Φ (.seq (.fld (.var 0) 4)) [some (bandW ts C), some (.d (.list (v.map .int))), none, none, none, none] [] = .ok (C.map rowD) [] := rfl
    refine set_n ?_
    rw [rE_th, rF_comp, eI, key]
    simp
  have eI : runI Φ (.rng1 (.bi .len (.cons (.var 1) .nil))) [some (bandW ts C), some (.d (.list (v.map .int))), some (.h 0), none, none, none] [.lst ((C.map fun _ => (0 : Int)).map .int)] = .ok ((List.range v.length).map iD) [.lst ((C.map fun _ => (0 : Int)).map .int)] := by
    have hsm : smallI (v.length : Int) = true := smallI_len (by omega)
    rw [← rng_map]
    simp [seeAll, hsm]
  show endP (runB Φ n B_step [some (bandW ts C), some (.d (.list (v.map .int))), none, none, none, none] []) = _
  unfold B_step
  rw [step1 e1, rB_cons, rS_for, eI, forS_ok, e]
  rfl
/-! ### counts -/
def rowsT (ts : List Tile) (C : List (List Nat)) (v : List Int) : Nat → List Int
  | 0 => v
  | t + 1 => stepV ts C (rowsT ts C v t)
theorem rowsT_len (ts : List Tile) (C : List (List Nat)) (v : List Int) (hv : v.length = C.length) : ∀ t, (rowsT ts C v t).length = C.length
  | 0 => hv
  | t + 1 => stepV_len _ _ _
abbrev B_cntTurn : List S := [(.asg (.n 4) (.meth (.var 3) 5 (.cons (.var 4) .nil)))]
def B_counts : List S := [(.ex (.call 78 (.cons (.var 1) (.cons (.var 2) .nil)))), (.asg (.n 3) (.mk 7 (.cons (.var 0) (.cons (.var 1) .nil)))), (.asg (.n 4) (.fr (.comp (.seq (.fld (.var 3) 4)) (.n 6) [6] .none (.cst (.int 1))))), (.for (.n 5) (.rng1 (.bin .sub (.var 2) (.cst (.int 1)))) B_cntTurn), (.ret (.bi .sum (.cons (.var 4) .nil)))]
def countZ (ts : List Tile) (C : List (List Nat)) (w : Nat) : Int := (rowsT ts C (C.map fun _ => 1) (w - 1)).sum
theorem intsOf_is : ∀ ns : List Int, intsOf (ns.map .int) = some ns
  | [] => rfl
  | n :: ns => by show (intsOf (ns.map .int)).map (n :: ·) = _; rw [intsOf_is ns]; rfl
theorem bi_sum (ns : List Int) : biD .sum [.list (ns.map .int)] = some (.int ns.sum) := by
  show (intsOf (ns.map .int)).map (fun ns => PyData.int ns.sum) = _
  rw [intsOf_is]; rfl
def CountsOk (φ : Fs) : Prop := ∀ (ts : List Tile) (h w : Nat) (s : List Cell), ts.length ≤ 200 → 1 ≤ h → h ≤ 12 → 1 ≤ w → w ≤ 12 → (∀ k, k ≤ h → (layF ts 1 k).length ≤ 500) → callF φ [setW ts, .d (.int h), .d (.int w)] s = .ok (.d (.int (countZ ts (layF ts 1 h) w))) s
theorem cnt_turn {σ : Fs} (hσ : Φ.mt 7 5 = some σ) (St : StepOk σ) {ts : List Tile} {C : List (List Nat)} (hC : C.length ≤ 100000) {v : List Int} (hv : v.length = C.length) {a b c o5 o6 : Option W} {s : List Cell} :
    runB Φ n B_cntTurn [a, b, c, some (bandW ts C), some (.d (.list (v.map .int))), o5, o6] s = .ok (.nx, [a, b, c, some (bandW ts C), some (.d (.list ((stepV ts C v).map .int))), o5, o6]) s := by
  have e := St ts C v s hC hv
  unfold bandW at e ⊢
  simp [-List.map_map, B_cntTurn, clsOf, hσ, e, asgT]
theorem counts_ok {φ78 σ : Fs} {ψ : Ms} (h78 : Φ.fn 78 = some φ78) (Ne : NeedOk φ78) (hψ : Φ.cl 7 = some ψ) (Mb : MkBand ψ) (hσ : Φ.mt 7 5 = some σ) (St : StepOk σ) : CountsOk (.p 3 (gP Φ n B_counts 7)) := fun ts h w s ht h1 h2 w1 w2 hm => by
  have sp : sizeLine = 16777216 := by decide
  refine callP rfl (vs := [setW ts, .d (.int h), .d (.int w)]) rfl ?_
  have e0 := Ne (h : Int) (w : Int) [] (by omega) (by omega) (by omega) (by omega)
  have e1 := Mb ts h [] ht h1 h2 hm
  have hn := hm h (Nat.le_refl _)
  generalize layF ts 1 h = C at e1 hn ⊢
  have s0 : runS Φ n (.ex (.call 78 (.cons (.var 1) (.cons (.var 2) .nil)))) [some (setW ts), some (.d (.int (h : Int))), some (.d (.int (w : Int))), none, none, none, none] [] = .ok (.nx, [some (setW ts), some (.d (.int (h : Int))), some (.d (.int (w : Int))), none, none, none, none]) [] := by simp [h78, e0]
  have s1 : runS Φ n (.asg (.n 3) (.mk 7 (.cons (.var 0) (.cons (.var 1) .nil)))) [some (setW ts), some (.d (.int (h : Int))), some (.d (.int (w : Int))), none, none, none, none] [] = .ok (.nx, [some (setW ts), some (.d (.int (h : Int))), some (.d (.int (w : Int))), some (bandW ts C), none, none, none]) [] := set_n (by
    simp only [rE_mk, hψ, rEs_cons, rEs_nil, rE_var]
    exact e1)
  have s2 : runS Φ n (.asg (.n 4) (.fr (.comp (.seq (.fld (.var 3) 4)) (.n 6) [6] .none (.cst (.int 1))))) [some (setW ts), some (.d (.int (h : Int))), some (.d (.int (w : Int))), some (bandW ts C), none, none, none] [] = .ok (.nx, [some (setW ts), some (.d (.int (h : Int))), some (.d (.int (w : Int))), some (bandW ts C), some (.d (.list ((C.map fun _ => (1 : Int)).map .int))), none, none]) [] := by
    have key : compT Φ (.n 6) [6] .none (.cst (.int 1)) [some (setW ts), some (.d (.int (h : Int))), some (.d (.int (w : Int))), some (bandW ts C), none, none, none] (.ok (C.map rowD) []) = .ok (C.map fun _ => PyData.int 1) [] := compT_mp (by omega) fun r _ => turnK_e rfl
    have eI : runI Φ (.seq (.fld (.var 3) 4)) [some (setW ts), some (.d (.int (h : Int))), some (.d (.int (w : Int))), some (bandW ts C), none, none, none] [] = .ok (C.map rowD) [] := rfl
    refine set_n ?_
    rw [rE_fr, rF_comp, eI, key]
    simp
  have eI : runI Φ (.rng1 (.bin .sub (.var 2) (.cst (.int 1)))) [some (setW ts), some (.d (.int (h : Int))), some (.d (.int (w : Int))), some (bandW ts C), some (.d (.list ((C.map fun _ => (1 : Int)).map .int))), none, none] [] = .ok ((List.range (w - 1)).map iD) [] := by
    have hsm : smallI ((w : Int) - 1) = true := by
      have : ((w : Int) - 1) = ((w - 1 : Nat) : Int) := by omega
      rw [this]; exact smallI_len (by omega)
    have e : ((w : Int) - 1).toNat = w - 1 := by omega
    rw [← rng_map]
    simp [hsm, e]
  obtain ⟨ρ', s', e, o5', rfl, rfl⟩ := forK_pre (Φ := Φ) (n := n) (t := .n 5) (b := B_cntTurn) iD
    (fun pre ρ s => ∃ o5', ρ = [some (setW ts), some (.d (.int (h : Int))), some (.d (.int (w : Int))), some (bandW ts C), some (.d (.list ((rowsT ts C (C.map fun _ => 1) pre.length).map .int))), o5', none] ∧ s = [])
    (List.range (w - 1)) [some (setW ts), some (.d (.int (h : Int))), some (.d (.int (w : Int))), some (bandW ts C), some (.d (.list ((C.map fun _ => (1 : Int)).map .int))), none, none] [] ⟨none, rfl, rfl⟩ fun pre k post ρ s ep ⟨o5', hρ, hs⟩ => by
      subst hρ hs
      have e := cnt_turn (Φ := Φ) (n := n) hσ St (show C.length ≤ 100000 by omega) (rowsT_len ts C (C.map fun _ => 1) (by simp) pre.length) (ts := ts) (a := some (setW ts)) (b := some (.d (.int (h : Int)))) (c := some (.d (.int (w : Int)))) (o5 := some (.d (.int (k : Int)))) (o6 := none) (s := [])
      refine ⟨_, _, _, rfl, .inl e, some (.d (.int (k : Int))), ?_, rfl⟩
      rw [List.length_append, List.length_singleton]
      rfl
  rw [List.length_range] at e
  show endP (runB Φ n B_counts [some (setW ts), some (.d (.int (h : Int))), some (.d (.int (w : Int))), none, none, none, none] []) = _
  unfold B_counts
  rw [step1 s0, step1 s1, step1 s2, rB_cons, rS_for, eI, forS_ok, e]
  simp [-List.map_map, seeAll, bi_sum, endP, finP, countZ]
/-! ### around -/
def ind (N b : Nat) : List Int := (List.range N).map fun k => if k = b then 1 else 0
abbrev B_arTurn : List S := [(.asg (.n 6) (.meth (.var 3) 5 (.cons (.var 6) .nil)))]
abbrev E_ind : E := .fr (.comp (.rng1 (.bi .len (.cons (.fld (.var 3) 4) .nil))) (.n 8) [8] .none (.bi .int (.cons (.cmp .eq (.var 8) (.var 5)) .nil)))
abbrev B_arBegin : List S := [(.asg (.n 6) E_ind), (.for (.n 7) (.rng1 (.var 2)) B_arTurn), (.asg (.n 4) (.bin .add (.var 4) (.idx (.var 6) (.var 5))))]
def B_around : List S := [(.ex (.call 78 (.cons (.var 1) (.cons (.var 2) .nil)))), (.asg (.n 3) (.mk 7 (.cons (.var 0) (.cons (.var 1) .nil)))), (.asg (.n 4) (.cst (.int 0))), (.for (.n 5) (.rng1 (.bi .len (.cons (.fld (.var 3) 4) .nil))) B_arBegin), (.ret (.var 4))]
def backZ (ts : List Tile) (C : List (List Nat)) (w b : Nat) : Int := (rowsT ts C (ind C.length b) w).getD b 0
def aroundZ (ts : List Tile) (C : List (List Nat)) (w : Nat) : Int := ((List.range C.length).map (backZ ts C w)).sum
def AroundOk (φ : Fs) : Prop := ∀ (ts : List Tile) (h w : Nat) (s : List Cell), ts.length ≤ 200 → 1 ≤ h → h ≤ 12 → 1 ≤ w → w ≤ 12 → (∀ k, k ≤ h → (layF ts 1 k).length ≤ 500) → callF φ [setW ts, .d (.int h), .d (.int w)] s = .ok (.d (.int (aroundZ ts (layF ts 1 h) w))) s
theorem ar_turn {σ : Fs} (hσ : Φ.mt 7 5 = some σ) (St : StepOk σ) {ts : List Tile} {C : List (List Nat)} (hC : C.length ≤ 100000) {v : List Int} (hv : v.length = C.length) {a b c o4 o5 o7 o8 : Option W} {s : List Cell} :
    runB Φ n B_arTurn [a, b, c, some (bandW ts C), o4, o5, some (.d (.list (v.map .int))), o7, o8] s = .ok (.nx, [a, b, c, some (bandW ts C), o4, o5, some (.d (.list ((stepV ts C v).map .int))), o7, o8]) s := by
  have e := St ts C v s hC hv
  unfold bandW at e ⊢
  simp [-List.map_map, B_arTurn, clsOf, hσ, e, asgT]
theorem rng_band {i : Nat} {ts : List Tile} {C : List (List Nat)} {ρ : Env} {s : List Cell} (h : ρ[i]? = some (some (bandW ts C))) (hC : C.length ≤ 100000) : runI Φ (.rng1 (.bi .len (.cons (.fld (.var i) 4) .nil))) ρ s = .ok ((List.range C.length).map iD) s := by
  have sp : sizeLine = 16777216 := by decide
  have hsm : smallI (C.length : Int) = true := smallI_len (by omega)
  rw [← rng_map]
  unfold bandW layD at h
  simp [-List.map_map, h, fldW, getN, seeAll, hsm]
theorem ind_at {a b c d o4 o6 o7 : Option W} {x y : Int} {s : List Cell} : runE Φ (.bi .int (.cons (.cmp .eq (.var 8) (.var 5)) .nil)) [a, b, c, d, o4, some (.d (.int y)), o6, o7, some (.d (.int x))] s = .ok (.d (.int (if x = y then 1 else 0))) s := by
  by_cases h : x = y <;> simp [seeAll, bi_intB, h]
theorem ind_run {ts : List Tile} {C : List (List Nat)} (hC : C.length ≤ 100000) {b : Nat} {a0 a1 a2 o4 o6 o7 o8 : Option W} {s : List Cell} : runE Φ E_ind [a0, a1, a2, some (bandW ts C), o4, some (.d (.int (b : Int))), o6, o7, o8] s = .ok (.d (.list ((ind C.length b).map .int))) s := by
  have sp : sizeLine = 16777216 := by decide
  have key : compT Φ (.n 8) [8] .none (.bi .int (.cons (.cmp .eq (.var 8) (.var 5)) .nil)) [a0, a1, a2, some (bandW ts C), o4, some (.d (.int (b : Int))), o6, o7, o8] (.ok ((List.range C.length).map iD) s) = .ok ((List.range C.length).map fun k => PyData.int (if k = b then 1 else 0)) s := by
    refine compT_mp (by simp; omega) fun k _ => turnK_e ?_
    refine Eq.trans (b := R.ok (W.d (.int (if (k : Int) = (b : Int) then 1 else 0))) s) ind_at ?_
    by_cases h : k = b
    · subst h; simp
    · have h' : ¬ (k : Int) = (b : Int) := by omega
      simp [h, h']
  rw [rE_fr, rF_comp, rng_band rfl hC, key]
  unfold ind
  rw [List.map_map]
  rfl
theorem ar_last {a0 a1 a2 a3 o7 o8 : Option W} {f x : Int} {b : Int} {l : List PyData} {s : List Cell} (e : atD l b = some (.int x)) : runS Φ n (.asg (.n 4) (.bin .add (.var 4) (.idx (.var 6) (.var 5)))) [a0, a1, a2, a3, some (.d (.int f)), some (.d (.int b)), some (.d (.list l)), o7, o8] s = .ok (.nx, [a0, a1, a2, a3, some (.d (.int (f + x))), some (.d (.int b)), some (.d (.list l)), o7, o8]) s := by
  simp [e, asgT]
theorem ar_begin {σ : Fs} (hσ : Φ.mt 7 5 = some σ) (St : StepOk σ) {ts : List Tile} {C : List (List Nat)} (hC : C.length ≤ 100000) {w b : Nat} (hw : w ≤ 1000) (hb : b < C.length) {a0 a1 o6 o7 o8 : Option W} {f : Int} {s : List Cell} :
    ∃ o6' o7', runB Φ n B_arBegin [a0, a1, some (.d (.int (w : Int))), some (bandW ts C), some (.d (.int f)), some (.d (.int (b : Int))), o6, o7, o8] s = .ok (.nx, [a0, a1, some (.d (.int (w : Int))), some (bandW ts C), some (.d (.int (f + backZ ts C w b))), some (.d (.int (b : Int))), o6', o7', o8]) s := by
  have sp : sizeLine = 16777216 := by decide
  obtain ⟨ρ', s', e, o7', rfl, hss⟩ := forK_pre (Φ := Φ) (n := n) (t := .n 7) (b := B_arTurn) iD
    (fun pre ρ s1 => ∃ o7', ρ = [a0, a1, some (.d (.int (w : Int))), some (bandW ts C), some (.d (.int f)), some (.d (.int (b : Int))), some (.d (.list ((rowsT ts C (ind C.length b) pre.length).map .int))), o7', o8] ∧ s1 = s)
    (List.range w) [a0, a1, some (.d (.int (w : Int))), some (bandW ts C), some (.d (.int f)), some (.d (.int (b : Int))), some (.d (.list ((ind C.length b).map .int))), o7, o8] s ⟨o7, rfl, rfl⟩ fun pre k post ρ s1 ep ⟨o7', hρ, hs⟩ => by
      subst hρ hs
      have e := ar_turn (Φ := Φ) (n := n) hσ St hC (rowsT_len ts C (ind C.length b) (by simp [ind]) pre.length) (ts := ts) (a := a0) (b := a1) (c := some (.d (.int (w : Int)))) (o4 := some (.d (.int f))) (o5 := some (.d (.int (b : Int)))) (o7 := some (.d (.int (k : Int)))) (o8 := o8) (s := s1)
      refine ⟨_, _, _, rfl, .inl e, some (.d (.int (k : Int))), ?_, rfl⟩
      rw [List.length_append, List.length_singleton]
      rfl
  rw [List.length_range, hss] at e
  have hl : b < (rowsT ts C (ind C.length b) w).length := by rw [rowsT_len _ _ _ (by simp [ind])]; exact hb
  have ex : atD ((rowsT ts C (ind C.length b) w).map PyData.int) (b : Int) = some (.int (backZ ts C w b)) := by
    rw [atD_map hl]
    unfold backZ
    rw [List.getD_eq_getElem?_getD, List.getElem?_eq_getElem hl]
    rfl
  refine ⟨some (.d (.list ((rowsT ts C (ind C.length b) w).map .int))), o7', ?_⟩
  unfold B_arBegin
  refine (step1 (set_n (ind_run hC))).trans ?_
  have e2 : runS Φ n (.for (.n 7) (.rng1 (.var 2)) B_arTurn) [a0, a1, some (.d (.int (w : Int))), some (bandW ts C), some (.d (.int f)), some (.d (.int (b : Int))), some (.d (.list ((ind C.length b).map .int))), o7, o8] s = .ok (.nx, [a0, a1, some (.d (.int (w : Int))), some (bandW ts C), some (.d (.int f)), some (.d (.int (b : Int))), some (.d (.list ((rowsT ts C (ind C.length b) w).map .int))), o7', o8]) s := by
    rw [rS_for, rng_var (j := (w : Int)) rfl (smallI_len (by omega)), Int.toNat_natCast, rng_map, forS_ok, e]
  refine (step1 e2).trans ?_
  refine (step1 (ar_last ex)).trans ?_
  rfl
theorem around_ok {φ78 σ : Fs} {ψ : Ms} (h78 : Φ.fn 78 = some φ78) (Ne : NeedOk φ78) (hψ : Φ.cl 7 = some ψ) (Mb : MkBand ψ) (hσ : Φ.mt 7 5 = some σ) (St : StepOk σ) : AroundOk (.p 3 (gP Φ n B_around 9)) := fun ts h w s ht h1 h2 w1 w2 hm => by
  have sp : sizeLine = 16777216 := by decide
  refine callP rfl (vs := [setW ts, .d (.int h), .d (.int w)]) rfl ?_
  have e0 := Ne (h : Int) (w : Int) [] (by omega) (by omega) (by omega) (by omega)
  have e1 := Mb ts h [] ht h1 h2 hm
  have hn := hm h (Nat.le_refl _)
  generalize layF ts 1 h = C at e1 hn ⊢
  have s0 : runS Φ n (.ex (.call 78 (.cons (.var 1) (.cons (.var 2) .nil)))) [some (setW ts), some (.d (.int (h : Int))), some (.d (.int (w : Int))), none, none, none, none, none, none] [] = .ok (.nx, [some (setW ts), some (.d (.int (h : Int))), some (.d (.int (w : Int))), none, none, none, none, none, none]) [] := by simp [h78, e0]
  have s1 : runS Φ n (.asg (.n 3) (.mk 7 (.cons (.var 0) (.cons (.var 1) .nil)))) [some (setW ts), some (.d (.int (h : Int))), some (.d (.int (w : Int))), none, none, none, none, none, none] [] = .ok (.nx, [some (setW ts), some (.d (.int (h : Int))), some (.d (.int (w : Int))), some (bandW ts C), none, none, none, none, none]) [] := set_n (by
    simp only [rE_mk, hψ, rEs_cons, rEs_nil, rE_var]
    exact e1)
  have s2 : runS Φ n (.asg (.n 4) (.cst (.int 0))) [some (setW ts), some (.d (.int (h : Int))), some (.d (.int (w : Int))), some (bandW ts C), none, none, none, none, none] [] = .ok (.nx, [some (setW ts), some (.d (.int (h : Int))), some (.d (.int (w : Int))), some (bandW ts C), some (.d (.int 0)), none, none, none, none]) [] := set_n rfl
  obtain ⟨ρ', s', e, o5', o6', o7', rfl, rfl⟩ := forK_pre (Φ := Φ) (n := n) (t := .n 5) (b := B_arBegin) iD
    (fun pre ρ s => ∃ o5' o6' o7', ρ = [some (setW ts), some (.d (.int (h : Int))), some (.d (.int (w : Int))), some (bandW ts C), some (.d (.int ((pre.map (backZ ts C w)).sum))), o5', o6', o7', none] ∧ s = [])
    (List.range C.length) [some (setW ts), some (.d (.int (h : Int))), some (.d (.int (w : Int))), some (bandW ts C), some (.d (.int 0)), none, none, none, none] [] ⟨none, none, none, rfl, rfl⟩ fun pre b post ρ s ep ⟨o5', o6', o7', hρ, hs⟩ => by
      subst hρ hs
      obtain ⟨_, hb, _⟩ := pre_range ep
      obtain ⟨o6'', o7'', e⟩ := ar_begin (Φ := Φ) (n := n) hσ St (show C.length ≤ 100000 by omega) (show w ≤ 1000 by omega) hb (ts := ts) (a0 := some (setW ts)) (a1 := some (.d (.int (h : Int)))) (o6 := o6') (o7 := o7') (o8 := none) (f := (pre.map (backZ ts C w)).sum) (s := [])
      refine ⟨_, _, _, rfl, .inl e, some (.d (.int (b : Int))), o6'', o7'', ?_, rfl⟩
      rw [List.map_append, List.sum_append]
      simp
  show endP (runB Φ n B_around [some (setW ts), some (.d (.int (h : Int))), some (.d (.int (w : Int))), none, none, none, none, none, none] []) = _
  unfold B_around
  rw [step1 s0, step1 s1, step1 s2, rB_cons, rS_for, rng_band rfl (by omega), forS_ok, e]
  rfl
end
end DM

set_option maxRecDepth 100000
/-! M1: layings counted: plain mathematics. -/
namespace DM
open PySem
/-! ### lists -/
theorem gN_lt {r : List Nat} {i : Nat} (h : i < r.length) : gN r i = r[i] := by unfold gN; rw [List.getD_eq_getElem?_getD, List.getElem?_eq_getElem h]; rfl
theorem ext_gN {r q : List Nat} (hl : r.length = q.length) (h : ∀ i, i < r.length → gN r i = gN q i) : r = q := by
  apply List.ext_getElem hl
  intro i h1 h2
  have := h i h1
  rwa [gN_lt h1, gN_lt h2] at this
theorem gN_map {k : Nat} {f : Nat → Nat} {i : Nat} (h : i < k) : gN ((List.range k).map f) i = f i := by
  rw [gN_lt (by simpa using h)]; simp
theorem gN_append_left {r s : List Nat} {i : Nat} (h : i < r.length) : gN (r ++ s) i = gN r i := by
  rw [gN_lt (by simp; omega), gN_lt h, List.getElem_append_left h]
theorem gN_snoc {r : List Nat} {x : Nat} : gN (r ++ [x]) r.length = x := by
  rw [gN_lt (by simp)]; simp
theorem gN_take {r : List Nat} {i k : Nat} (h : i < k) (hk : k ≤ r.length) : gN (r.take k) i = gN r i := by
  rw [gN_lt (by simp; omega), gN_lt (by omega), List.getElem_take]
theorem take_snoc {r : List Nat} {k : Nat} (h : k < r.length) : r.take (k + 1) = r.take k ++ [gN r k] := by
  rw [gN_lt h, List.take_succ, List.getElem?_eq_getElem h]; rfl
theorem nodup_le {α : Type} [DecidableEq α] : ∀ {l m : List α}, l.Nodup → (∀ x ∈ l, x ∈ m) → l.length ≤ m.length
  | [], m, _, _ => Nat.zero_le _
  | x :: l, m, hn, hs => by
    rw [List.nodup_cons] at hn
    have hx := hs x List.mem_cons_self
    have h := nodup_le (l := l) (m := m.erase x) hn.2 fun y hy => by
      have hne : y ≠ x := fun e => hn.1 (by rw [← e]; exact hy)
      exact (List.mem_erase_of_ne hne).mpr (hs y (List.mem_cons_of_mem _ hy))
    rw [List.length_erase_of_mem hx] at h
    have := List.length_pos_of_mem hx
    rw [List.length_cons]
    omega
theorem nodup_map {α β : Type} (f : α → β) : ∀ {l : List α}, l.Nodup → (∀ x ∈ l, ∀ y ∈ l, f x = f y → x = y) → (l.map f).Nodup
  | [], _, _ => List.nodup_nil
  | x :: l, hn, hi => by
    rw [List.nodup_cons] at hn
    rw [List.map_cons, List.nodup_cons]
    refine ⟨fun hm => ?_, nodup_map f hn.2 fun a ha b hb => hi a (List.mem_cons_of_mem _ ha) b (List.mem_cons_of_mem _ hb)⟩
    obtain ⟨y, hy, e⟩ := List.mem_map.mp hm
    have := hi y (List.mem_cons_of_mem _ hy) x List.mem_cons_self e
    exact hn.1 (this ▸ hy)
theorem len_bij {α β : Type} [DecidableEq α] [DecidableEq β] {A : List α} {B : List β} (nA : A.Nodup) (nB : B.Nodup) (f : α → β) (g : β → α) (hf : ∀ a ∈ A, f a ∈ B ∧ g (f a) = a) (hg : ∀ b ∈ B, g b ∈ A ∧ f (g b) = b) : A.length = B.length := by
  have h1 : (A.map f).length ≤ B.length := nodup_le (nodup_map f nA fun a ha b hb e => by rw [← (hf a ha).2, ← (hf b hb).2, e]) fun x hx => by
    obtain ⟨a, ha, rfl⟩ := List.mem_map.mp hx
    exact (hf a ha).1
  have h2 : (B.map g).length ≤ A.length := nodup_le (nodup_map g nB fun a ha b hb e => by rw [← (hg a ha).2, ← (hg b hb).2, e]) fun x hx => by
    obtain ⟨a, ha, rfl⟩ := List.mem_map.mp hx
    exact (hg a ha).1
  rw [List.length_map] at h1 h2
  omega
/-! ### lists grown one by one -/
def grow (E : List Nat → List Nat) (X0 : List (List Nat)) : Nat → List (List Nat)
  | 0 => X0
  | t + 1 => (grow E X0 t).flatMap fun q => (E q).map fun j => q ++ [j]
theorem grow_mem {E : List Nat → List Nat} {X0 : List (List Nat)} {m : Nat} (h0 : ∀ q ∈ X0, q.length = m) : ∀ (t : Nat) (r : List Nat), r ∈ grow E X0 t ↔ r.length = m + t ∧ r.take m ∈ X0 ∧ ∀ i, m ≤ i → i < m + t → gN r i ∈ E (r.take i)
  | 0, r => by
    constructor
    · intro h
      have := h0 r h
      refine ⟨by omega, by rw [List.take_of_length_le (by omega)]; exact h, fun i h1 h2 => by omega⟩
    · rintro ⟨h1, h2, _⟩
      rw [List.take_of_length_le (by omega)] at h2
      exact h2
  | t + 1, r => by
    show r ∈ (grow E X0 t).flatMap _ ↔ _
    rw [List.mem_flatMap]
    constructor
    · rintro ⟨q, hq, hr⟩
      obtain ⟨j, hj, rfl⟩ := List.mem_map.mp hr
      obtain ⟨l, h2, h3⟩ := (grow_mem h0 t q).mp hq
      refine ⟨by simp; omega, by rw [List.take_append_of_le_length (by omega)]; exact h2, fun i h4 h5 => ?_⟩
      by_cases hi : i < m + t
      · rw [gN_append_left (by omega), List.take_append_of_le_length (by omega)]
        exact h3 i h4 hi
      · have : i = q.length := by omega
        subst this
        rw [gN_snoc, List.take_left']
        · exact hj
        · rfl
    · rintro ⟨h1, h2, h3⟩
      refine ⟨r.take (m + t), (grow_mem h0 t _).mpr ⟨by simp; omega, by rw [List.take_take, Nat.min_eq_left (by omega)]; exact h2, fun i h4 h5 => ?_⟩, ?_⟩
      · rw [gN_take h5 (by omega), List.take_take, Nat.min_eq_left (by omega)]
        exact h3 i h4 (by omega)
      · refine List.mem_map.mpr ⟨gN r (m + t), h3 (m + t) (by omega) (by omega), ?_⟩
        rw [← take_snoc (by omega), List.take_of_length_le (by omega)]
theorem flat_nodup {E : List Nat → List Nat} (hE : ∀ q, (E q).Nodup) {m : Nat} : ∀ {l : List (List Nat)}, l.Nodup → (∀ q ∈ l, q.length = m) → (l.flatMap fun q => (E q).map fun j => q ++ [j]).Nodup
  | [], _, _ => by simp
  | q :: l, hn, hl => by
    rw [List.nodup_cons] at hn
    rw [List.flatMap_cons, List.nodup_append]
    refine ⟨nodup_map _ (hE q) fun a _ b _ e => by simpa using e, flat_nodup hE hn.2 fun q hq => hl q (List.mem_cons_of_mem _ hq), fun x hx y hy e => ?_⟩
    subst e
    obtain ⟨j, _, rfl⟩ := List.mem_map.mp hx
    obtain ⟨p, hp, hy⟩ := List.mem_flatMap.mp hy
    obtain ⟨j', _, e⟩ := List.mem_map.mp hy
    have l1 := hl q List.mem_cons_self
    have l2 := hl p (List.mem_cons_of_mem _ hp)
    have := (List.append_inj e (by omega)).1
    exact hn.1 (this ▸ hp)
theorem grow_nodup {E : List Nat → List Nat} (hE : ∀ q, (E q).Nodup) {X0 : List (List Nat)} {m : Nat} (h0 : ∀ q ∈ X0, q.length = m) (hn : X0.Nodup) : ∀ t, (grow E X0 t).Nodup
  | 0 => hn
  | t + 1 => flat_nodup hE (m := m + t) (grow_nodup hE h0 hn t) fun q hq => ((grow_mem h0 t q).mp hq).1
theorem nodup_range (k : Nat) : (List.range k).Nodup := List.nodup_range
/-! ### the law's layings -/
theorem layF_grow (ts : List Tile) (w : Nat) : ∀ k, layF ts w k = grow (fun row => (List.range ts.length).filter (fitsB ts w row)) [[]] k
  | 0 => rfl
  | k + 1 => by
    show (layF ts w k).flatMap (extF ts w) = _
    rw [layF_grow ts w k]
    rfl
theorem layF_nodup (ts : List Tile) (w k : Nat) : (layF ts w k).Nodup := by
  rw [layF_grow]
  exact grow_nodup (fun q => List.Pairwise.filter _ (nodup_range _)) (m := 0) (by simp) (by simp) k
theorem layF_iff {ts : List Tile} {w k : Nat} {r : List Nat} : r ∈ layF ts w k ↔ r.length = k ∧ ∀ p, p < k → gN r p < ts.length ∧ fitsB ts w (r.take p) (gN r p) = true := by
  rw [layF_grow, grow_mem (m := 0) (by simp)]
  constructor
  · rintro ⟨h1, _, h3⟩
    refine ⟨by omega, fun p hp => ?_⟩
    have := h3 p (by omega) (by omega)
    rw [List.mem_filter, List.mem_range] at this
    exact this
  · rintro ⟨h1, h3⟩
    refine ⟨by omega, by simp, fun p _ hp => ?_⟩
    rw [List.mem_filter, List.mem_range]
    exact h3 p (by omega)
/-- a filling of h rows and w places by g fits -/
def GridOk (ts : List Tile) (h w : Nat) (g : Nat → Nat → Nat) : Prop := ∀ i, i < h → ∀ j, j < w → g i j < ts.length ∧ (j = 0 ∨ besideB ts (g i (j - 1)) (g i j) = true) ∧ (i = 0 ∨ belowB ts (g (i - 1) j) (g i j) = true)
theorem GridOk.congr {ts : List Tile} {h w : Nat} {g g' : Nat → Nat → Nat} (H : GridOk ts h w g) (e : ∀ i, i < h → ∀ j, j < w → g i j = g' i j) : GridOk ts h w g' := fun i hi j hj => by
  obtain ⟨a, b, c⟩ := H i hi j hj
  rw [e i hi j hj] at a b c
  refine ⟨a, b.imp_right fun z => ?_, c.imp_right fun z => ?_⟩
  · rw [e i hi (j - 1) (by omega)] at z; exact z
  · rw [e (i - 1) (by omega) j hj] at z; exact z
theorem fits_at {ts : List Tile} {h w : Nat} (w0 : 0 < w) {r : List Nat} (hr : r.length = h * w) {i j : Nat} (hi : i < h) (hj : j < w) : fitsB ts w (r.take (i * w + j)) (gN r (i * w + j)) = true ↔ (j = 0 ∨ besideB ts (gN r (i * w + (j - 1))) (gN r (i * w + j)) = true) ∧ (i = 0 ∨ belowB ts (gN r ((i - 1) * w + j)) (gN r (i * w + j)) = true) := by
  have hp : i * w + j < h * w := by
    have : i * w + w ≤ h * w := by rw [← Nat.succ_mul]; exact Nat.mul_le_mul_right _ hi
    omega
  have hl : (r.take (i * w + j)).length = i * w + j := by simp; omega
  unfold fitsB besideB belowB
  rw [hl, Bool.and_eq_true, Bool.or_eq_true, Bool.or_eq_true, decide_eq_true_eq, decide_eq_true_eq, decide_eq_true_eq, decide_eq_true_eq, decide_eq_true_eq, decide_eq_true_eq]
  have hm : (i * w + j) % w = j := by rw [Nat.mul_comm, Nat.mul_add_mod, Nat.mod_eq_of_lt hj]
  rw [hm]
  have c1 : ∀ {P : Prop}, (¬ j = 0 → P) → (j = 0 ∨ P) := fun f => Classical.byCases .inl fun h => .inr (f h)
  have hw : i * w + j < w ↔ i = 0 := by
    constructor
    · intro q
      rcases Nat.eq_zero_or_pos i with h | h
      · exact h
      · have : 1 * w ≤ i * w := Nat.mul_le_mul_right _ h
        omega
    · rintro rfl; omega
  rw [hw]
  refine and_congr ?_ ?_
  · by_cases h0 : j = 0
    · simp [h0]
    · rw [gN_take (by omega) (by omega), show i * w + j - 1 = i * w + (j - 1) by omega]
  · by_cases h0 : i = 0
    · simp [h0]
    · have e : i * w + j - w = (i - 1) * w + j := by
        have : i * w = (i - 1) * w + w := by rw [← Nat.succ_mul]; congr 1; omega
        omega
      rw [gN_take (by omega) (by omega), e]
theorem lay_grid {ts : List Tile} {h w : Nat} (w0 : 0 < w) {r : List Nat} : r ∈ layF ts w (h * w) ↔ r.length = h * w ∧ GridOk ts h w fun i j => gN r (i * w + j) := by
  rw [layF_iff]
  constructor
  · rintro ⟨h1, h2⟩
    refine ⟨h1, fun i hi j hj => ?_⟩
    have hp : i * w + j < h * w := by
      have : i * w + w ≤ h * w := by rw [← Nat.succ_mul]; exact Nat.mul_le_mul_right _ hi
      omega
    obtain ⟨a, b⟩ := h2 _ hp
    exact ⟨a, (fits_at w0 h1 hi hj).mp b⟩
  · rintro ⟨h1, h2⟩
    refine ⟨h1, fun p hp => ?_⟩
    have e : p = p / w * w + p % w := by rw [Nat.mul_comm]; exact (Nat.div_add_mod p w).symm
    have hi : p / w < h := Nat.div_lt_of_lt_mul (by rw [Nat.mul_comm]; exact hp)
    have hj : p % w < w := Nat.mod_lt _ w0
    have := h2 _ hi _ hj
    rw [e]
    exact ⟨this.1, (fits_at w0 h1 hi hj).mpr this.2⟩
end DM

set_option maxRecDepth 100000
/-! M2: what counts and around count. -/
namespace DM
open PySem
/-! ### weights -/
def dot (N : Nat) (v : List Int) (f : Nat → Int) : Int := ((List.range N).map fun j => v.getD j 0 * f j).sum
theorem sum_add (N : Nat) (a b : Nat → Int) : ((List.range N).map fun j => a j + b j).sum = ((List.range N).map a).sum + ((List.range N).map b).sum := by
  induction N with
  | zero => rfl
  | succ N ih =>
    rw [List.range_succ, List.map_append, List.map_append, List.map_append, List.sum_append, List.sum_append, List.sum_append, ih]
    simp
    omega
theorem sum_one (N : Nat) (c : Nat → Int) (j : Nat) (hj : j < N) : ((List.range N).map fun k => if k = j then c k else 0).sum = c j := by
  induction N with
  | zero => omega
  | succ N ih =>
    rw [List.range_succ, List.map_append, List.sum_append]
    by_cases h : j = N
    · subst h
      have : ((List.range j).map fun k => if k = j then c k else 0) = (List.range j).map fun _ => (0 : Int) := List.map_congr_left fun k hk => by
        have := List.mem_range.mp hk
        rw [if_neg (by omega)]
      rw [this]
      have z : ∀ n : Nat, ((List.range n).map fun _ => (0 : Int)).sum = 0 := fun n => by
        induction n with
        | zero => rfl
        | succ n ih => rw [List.range_succ, List.map_append, List.sum_append, ih]; rfl
      rw [z]
      simp
    · rw [ih (by omega)]
      have h' : ¬ N = j := fun e => h e.symm
      simp [h']
theorem getD_set (acc : List Int) (j k : Nat) (y : Int) (hj : j < acc.length) : (acc.set j y).getD k 0 = if k = j then y else acc.getD k 0 := by
  rw [List.getD_eq_getElem?_getD, List.getD_eq_getElem?_getD, List.getElem?_set]
  by_cases h : j = k
  · subst h; simp [hj]
  · simp [h, Ne.symm h]
theorem dot_add {N : Nat} {acc : List Int} (hl : acc.length = N) {j : Nat} (hj : j < N) (x : Int) (f : Nat → Int) : dot N (addA acc j x) f = dot N acc f + x * f j := by
  unfold dot addA
  have e : (fun k => (acc.set j (acc.getD j 0 + x)).getD k 0 * f k) = fun k => acc.getD k 0 * f k + (if k = j then x * f k else 0) := by
    funext k
    rw [getD_set _ _ _ _ (by omega)]
    by_cases h : k = j
    · subst h; simp [Int.add_mul]
    · simp [h]
  rw [e, sum_add, sum_one N (fun k => x * f k) j hj]
theorem dot_addAll {N : Nat} (x : Int) (f : Nat → Int) : ∀ (js : List Nat) {acc : List Int}, acc.length = N → (∀ j ∈ js, j < N) → dot N (addAll acc js x) f = dot N acc f + x * (js.map f).sum
  | [], acc, _, _ => by show dot N acc f = dot N acc f + x * 0; omega
  | j :: js, acc, hl, hj => by
    show dot N (addAll (addA acc j x) js x) f = _
    rw [dot_addAll x f js (by rw [addA_len]; exact hl) fun k hk => hj k (List.mem_cons_of_mem _ hk), dot_add hl (hj j List.mem_cons_self), List.map_cons, List.sum_cons, Int.mul_add]
    omega
theorem dot_stepTo {N : Nat} {E : Nat → List Nat} (hE : ∀ k, ∀ j ∈ E k, j < N) (v : List Int) (f : Nat → Int) : ∀ (ks : List Nat) {acc : List Int}, acc.length = N → dot N (stepTo E v ks acc) f = dot N acc f + (ks.map fun k => v.getD k 0 * ((E k).map f).sum).sum
  | [], acc, _ => by show dot N acc f = dot N acc f + 0; omega
  | k :: ks, acc, hl => by
    show dot N (stepTo E v ks (addAll acc (E k) (v.getD k 0))) f = _
    rw [dot_stepTo hE v f ks (by rw [addAll_len]; exact hl), dot_addAll _ f _ hl (hE k), List.map_cons, List.sum_cons]
    omega
theorem dot_zero (C : List (List Nat)) (f : Nat → Int) : dot C.length (C.map fun _ => 0) f = 0 := by
  unfold dot
  have e : ((List.range C.length).map fun j => (C.map fun _ => (0 : Int)).getD j 0 * f j) = (List.range C.length).map fun _ => (0 : Int) := List.map_congr_left fun j hj => by
    have := List.mem_range.mp hj
    rw [List.getD_eq_getElem?_getD, List.getElem?_map, List.getElem?_eq_getElem this]
    simp
  rw [e]
  induction C.length with
  | zero => rfl
  | succ n ih => rw [List.range_succ, List.map_append, List.sum_append, ih]; rfl
theorem dot_step {ts : List Tile} {C : List (List Nat)} {v : List Int} (hv : v.length = C.length) (f : Nat → Int) : dot C.length (stepV ts C v) f = dot C.length v fun k => ((nxt ts C k).map f).sum := by
  unfold stepV
  rw [dot_stepTo (fun k j hj => nxt_lt hj) v f _ (by simp), dot_zero, hv, Int.zero_add]
  rfl
/-! ### walks -/
def lastN (q : List Nat) : Nat := gN q (q.length - 1)
def walks (ts : List Tile) (C : List (List Nat)) (st : List Nat) (t : Nat) : List (List Nat) := grow (fun q => nxt ts C (lastN q)) (st.map fun b => [b]) t
theorem sum_flat (g : List Nat → List Nat) (f : Nat → Int) : ∀ l : List (List Nat), ((l.flatMap fun q => (g q).map fun j => q ++ [j]).map fun q => f (lastN q)).sum = (l.map fun q => ((g q).map f).sum).sum
  | [] => rfl
  | q :: l => by
    rw [List.flatMap_cons, List.map_append, List.sum_append, sum_flat g f l, List.map_cons, List.sum_cons]
    congr 1
    rw [List.map_map]
    congr 1
    apply List.map_congr_left
    intro j _
    show f (lastN (q ++ [j])) = f j
    unfold lastN
    rw [List.length_append, List.length_singleton, Nat.add_sub_cancel, gN_snoc]
theorem dot_rows {ts : List Tile} {C : List (List Nat)} {v : List Int} (hv : v.length = C.length) {st : List Nat} (h0 : ∀ f : Nat → Int, dot C.length v f = (st.map f).sum) : ∀ (t : Nat) (f : Nat → Int), dot C.length (rowsT ts C v t) f = ((walks ts C st t).map fun q => f (lastN q)).sum
  | 0, f => by
    show dot C.length v f = ((st.map fun b => [b]).map fun q => f (lastN q)).sum
    rw [h0 f, List.map_map]
    rfl
  | t + 1, f => by
    show dot C.length (stepV ts C (rowsT ts C v t)) f = _
    rw [dot_step (rowsT_len ts C v hv t), dot_rows hv h0 t]
    unfold walks
    exact (sum_flat (fun q => nxt ts C (lastN q)) f _).symm
theorem sum_dot {N : Nat} {v : List Int} (hv : v.length = N) : v.sum = dot N v fun _ => 1 := by
  unfold dot
  have e : ((List.range N).map fun j => v.getD j 0 * 1) = v := by
    apply List.ext_getElem (by simp [hv])
    intro i h1 h2
    simp [List.getD_eq_getElem?_getD, h2]
  rw [e]
theorem sum_ones {α : Type} : ∀ l : List α, (l.map fun _ => (1 : Int)).sum = (l.length : Int)
  | [] => rfl
  | x :: l => by rw [List.map_cons, List.sum_cons, sum_ones l, List.length_cons]; omega
theorem countZ_is (ts : List Tile) (C : List (List Nat)) (w : Nat) : countZ ts C w = ((walks ts C (List.range C.length) (w - 1)).length : Int) := by
  unfold countZ
  rw [sum_dot (rowsT_len ts C _ (by simp) _), dot_rows (by simp) (st := List.range C.length) fun f => ?_, sum_ones]
  unfold dot
  congr 1
  apply List.map_congr_left
  intro j hj
  have := List.mem_range.mp hj
  rw [List.getD_eq_getElem?_getD, List.getElem?_map, List.getElem?_eq_getElem this]
  simp
theorem sum_ifs {α : Type} (p : α → Bool) : ∀ l : List α, (l.map fun x => if p x then (1 : Int) else 0).sum = ((l.filter p).length : Int)
  | [] => rfl
  | x :: l => by
    rw [List.map_cons, List.sum_cons, sum_ifs p l, List.filter_cons]
    cases p x <;> simp
    omega
theorem backZ_is {ts : List Tile} {C : List (List Nat)} {w b : Nat} (hb : b < C.length) : backZ ts C w b = (((walks ts C [b] w).filter fun q => lastN q == b).length : Int) := by
  have e : backZ ts C w b = dot C.length (rowsT ts C (ind C.length b) w) fun k => if k = b then 1 else 0 := by
    unfold dot backZ
    have : (fun j => (rowsT ts C (ind C.length b) w).getD j 0 * (if j = b then (1 : Int) else 0)) = fun k => if k = b then (rowsT ts C (ind C.length b) w).getD k 0 else 0 := by
      funext k
      by_cases h : k = b <;> simp [h]
    rw [this, sum_one _ _ b hb]
  rw [e, dot_rows (by simp [ind]) (st := [b]) fun f => ?_]
  · rw [← sum_ifs]
    congr 1
    apply List.map_congr_left
    intro q _
    by_cases h : lastN q = b <;> simp [h]
  · unfold dot ind
    have : ((List.range C.length).map fun j => ((List.range C.length).map fun k => if k = b then (1 : Int) else 0).getD j 0 * f j) = (List.range C.length).map fun k => if k = b then f k else 0 := by
      apply List.map_congr_left
      intro j hj
      have := List.mem_range.mp hj
      rw [List.getD_eq_getElem?_getD, List.getElem?_map, List.getElem?_range this]
      by_cases h : j = b <;> simp [h]
    rw [this, sum_one _ f b hb]
    simp
/-- the ways around, from b to b -/
def rings (ts : List Tile) (C : List (List Nat)) (w : Nat) : List (List Nat) := (List.range C.length).flatMap fun b => (walks ts C [b] w).filter fun q => lastN q == b
theorem len_flat {α β : Type} (g : α → List β) : ∀ l : List α, ((l.flatMap g).length : Int) = (l.map fun a => ((g a).length : Int)).sum
  | [] => rfl
  | a :: l => by rw [List.flatMap_cons, List.length_append, List.map_cons, List.sum_cons, ← len_flat g l]; omega
theorem aroundZ_is (ts : List Tile) (C : List (List Nat)) (w : Nat) : aroundZ ts C w = ((rings ts C w).length : Int) := by
  unfold aroundZ rings
  rw [len_flat]
  congr 1
  apply List.map_congr_left
  intro b hb
  exact backZ_is (List.mem_range.mp hb)
theorem walks_iff {ts : List Tile} {C : List (List Nat)} {st : List Nat} {t : Nat} {q : List Nat} : q ∈ walks ts C st t ↔ q.length = t + 1 ∧ gN q 0 ∈ st ∧ ∀ i, i < t → gN q (i + 1) ∈ nxt ts C (gN q i) := by
  unfold walks
  rw [grow_mem (m := 1) (by simp)]
  constructor
  · rintro ⟨h1, h2, h3⟩
    obtain ⟨b, hb, e⟩ := List.mem_map.mp h2
    refine ⟨by omega, ?_, fun i hi => ?_⟩
    · have : gN q 0 = b := by
        rw [← gN_take (show 0 < 1 by omega) (by omega), ← e]; rfl
      rw [this]; exact hb
    · have := h3 (i + 1) (by omega) (by omega)
      have l : (q.take (i + 1)).length = i + 1 := by simp; omega
      unfold lastN at this
      rw [l, Nat.add_sub_cancel, gN_take (by omega) (by omega)] at this
      exact this
  · rintro ⟨h1, h2, h3⟩
    refine ⟨by omega, List.mem_map.mpr ⟨gN q 0, h2, ?_⟩, fun i h4 h5 => ?_⟩
    · cases q with
      | nil => simp at h1
      | cons x q => rfl
    · have l : (q.take i).length = i := by simp; omega
      have := h3 (i - 1) (by omega)
      unfold lastN
      rw [l, gN_take (by omega) (by omega)]
      rw [show i - 1 + 1 = i by omega] at this
      exact this
theorem walks_nodup {ts : List Tile} {C : List (List Nat)} {st : List Nat} (hs : st.Nodup) (t : Nat) : (walks ts C st t).Nodup :=
  grow_nodup (m := 1) (fun q => List.Pairwise.filter _ (nodup_range _)) (by simp) (nodup_map _ hs fun a _ b _ e => by simpa using e) t
end DM

set_option maxRecDepth 100000
/-! M3: as many walks as layings. -/
namespace DM
open PySem
section
variable {ts : List Tile} {h w : Nat}
theorem col_iff {c : List Nat} : c ∈ layF ts 1 h ↔ c.length = h ∧ ∀ i, i < h → gN c i < ts.length ∧ (i = 0 ∨ belowB ts (gN c (i - 1)) (gN c i) = true) := by
  have e := lay_grid (ts := ts) (h := h) (w := 1) (by decide) (r := c)
  rw [Nat.mul_one] at e
  rw [e]
  refine and_congr Iff.rfl ⟨fun H i hi => ?_, fun H i hi j hj => ?_⟩
  · obtain ⟨a, _, b⟩ := H i hi 0 (by decide)
    simp only [Nat.mul_one, Nat.add_zero] at a b
    exact ⟨a, b⟩
  · obtain rfl : j = 0 := by omega
    obtain ⟨a, b⟩ := H i hi
    simp only [Nat.mul_one, Nat.add_zero]
    exact ⟨a, by simp, b⟩
theorem gR_is {C : List (List Nat)} {k : Nat} (hk : k < C.length) : gR C k = C[k] := by
  have := gR_at hk
  rw [List.getElem?_eq_getElem hk] at this
  exact (Option.some.inj this).symm
theorem go_iff {a b : List Nat} (ha : a.length = h) : goB ts a b = true ↔ ∀ i, i < h → besideB ts (gN a i) (gN b i) = true := by
  unfold goB
  rw [List.all_eq_true, ha]
  exact ⟨fun H i hi => H i (List.mem_range.mpr hi), fun H i hi => H i (List.mem_range.mp hi)⟩
theorem nxt_iff {k j : Nat} (hk : k < (layF ts 1 h).length) : j ∈ nxt ts (layF ts 1 h) k ↔ j < (layF ts 1 h).length ∧ ∀ i, i < h → besideB ts (gN (gR (layF ts 1 h) k) i) (gN (gR (layF ts 1 h) j) i) = true := by
  unfold nxt nextL
  rw [List.mem_filter, List.mem_range, go_iff (col_iff.mp (gR_mem hk)).1]
theorem walk_grid (w0 : 0 < w) {q : List Nat} : q ∈ walks ts (layF ts 1 h) (List.range (layF ts 1 h).length) (w - 1) ↔ q.length = w ∧ (∀ j, j < w → gN q j < (layF ts 1 h).length) ∧ GridOk ts h w fun i j => gN (gR (layF ts 1 h) (gN q j)) i := by
  rw [walks_iff]
  constructor
  · rintro ⟨h1, h2, h3⟩
    have hlt : ∀ j, j < w → gN q j < (layF ts 1 h).length := fun j hj => by
      cases j with
      | zero => exact List.mem_range.mp h2
      | succ j => exact nxt_lt (h3 j (by omega))
    refine ⟨by omega, hlt, fun i hi j hj => ?_⟩
    have hc := (col_iff.mp (gR_mem (hlt j hj))).2 i hi
    refine ⟨hc.1, ?_, hc.2⟩
    cases j with
    | zero => exact .inl rfl
    | succ j => exact .inr (((nxt_iff (hlt j (by omega))).mp (h3 j (by omega))).2 i hi)
  · rintro ⟨h1, h2, h3⟩
    refine ⟨by omega, List.mem_range.mpr (h2 0 w0), fun j hj => (nxt_iff (h2 j (by omega))).mpr ⟨h2 _ (by omega), fun i hi => ?_⟩⟩
    obtain ⟨_, b, _⟩ := h3 i hi (j + 1) (by omega)
    rcases b with b | b
    · omega
    · exact b
def colOf (h w : Nat) (r : List Nat) (j : Nat) : List Nat := (List.range h).map fun i => gN r (i * w + j)
def toWalk (ts : List Tile) (h w : Nat) (r : List Nat) : List Nat := (List.range w).map fun j => (layF ts 1 h).idxOf (colOf h w r j)
def toLay (ts : List Tile) (h w : Nat) (q : List Nat) : List Nat := (List.range (h * w)).map fun p => gN (gR (layF ts 1 h) (gN q (p % w))) (p / w)
theorem colOf_at {r : List Nat} {i j : Nat} (hi : i < h) : gN (colOf h w r j) i = gN r (i * w + j) := gN_map hi
theorem idx_gR {C : List (List Nat)} {c : List Nat} (hc : c ∈ C) : C.idxOf c < C.length ∧ gR C (C.idxOf c) = c := by
  have h := List.idxOf_lt_length_of_mem hc
  exact ⟨h, by rw [gR_is h, List.getElem_idxOf]⟩
theorem gR_inj {C : List (List Nat)} (hn : C.Nodup) {a b : Nat} (ha : a < C.length) (hb : b < C.length) (e : gR C a = gR C b) : a = b := by
  rw [gR_is ha, gR_is hb] at e
  exact (List.getElem_inj hn).mp e
theorem pos_lt {i j : Nat} (hi : i < h) (hj : j < w) : i * w + j < h * w := by
  have : i * w + w ≤ h * w := by rw [← Nat.succ_mul]; exact Nat.mul_le_mul_right _ hi
  omega
theorem pos_div {i j : Nat} (hj : j < w) : (i * w + j) / w = i ∧ (i * w + j) % w = j := by
  have w0 : 0 < w := by omega
  constructor
  · rw [Nat.mul_comm, Nat.mul_add_div w0, Nat.div_eq_of_lt hj, Nat.add_zero]
  · rw [Nat.mul_comm, Nat.mul_add_mod, Nat.mod_eq_of_lt hj]
theorem toWalk_ok (w0 : 0 < w) {r : List Nat} (hr : r ∈ layF ts w (h * w)) : toWalk ts h w r ∈ walks ts (layF ts 1 h) (List.range (layF ts 1 h).length) (w - 1) ∧ toLay ts h w (toWalk ts h w r) = r ∧ ∀ j, j < w → gR (layF ts 1 h) (gN (toWalk ts h w r) j) = colOf h w r j := by
  obtain ⟨hl, hg⟩ := (lay_grid w0).mp hr
  have hc : ∀ j, j < w → colOf h w r j ∈ layF ts 1 h := fun j hj => col_iff.mpr ⟨by simp [colOf], fun i hi => by
    obtain ⟨a, _, b⟩ := hg i hi j hj
    rw [colOf_at hi]
    refine ⟨a, b.imp_right fun z => ?_⟩
    rw [colOf_at (by omega)]
    exact z⟩
  have hq : ∀ j, j < w → gN (toWalk ts h w r) j = (layF ts 1 h).idxOf (colOf h w r j) := fun j hj => gN_map hj
  have hgr : ∀ j, j < w → gR (layF ts 1 h) (gN (toWalk ts h w r) j) = colOf h w r j := fun j hj => by rw [hq j hj]; exact (idx_gR (hc j hj)).2
  refine ⟨(walk_grid w0).mpr ⟨by simp [toWalk], fun j hj => by rw [hq j hj]; exact (idx_gR (hc j hj)).1, hg.congr fun i hi j hj => by rw [hgr j hj, colOf_at hi]⟩, ?_, hgr⟩
  refine ext_gN (by simp [toLay, hl]) fun p hp => ?_
  have hp' : p < h * w := by simpa [toLay] using hp
  have hi : p / w < h := Nat.div_lt_of_lt_mul (by rw [Nat.mul_comm]; exact hp')
  have hj : p % w < w := Nat.mod_lt _ w0
  unfold toLay
  rw [gN_map hp', hgr _ hj, colOf_at hi]
  congr 1
  rw [Nat.mul_comm]
  exact Nat.div_add_mod p w
theorem toLay_at (w0 : 0 < w) {q : List Nat} {i j : Nat} (hi : i < h) (hj : j < w) : gN (toLay ts h w q) (i * w + j) = gN (gR (layF ts 1 h) (gN q j)) i := by
  unfold toLay
  rw [gN_map (pos_lt hi hj), (pos_div hj).1, (pos_div hj).2]
theorem toLay_ok (w0 : 0 < w) {q : List Nat} (hq : q ∈ walks ts (layF ts 1 h) (List.range (layF ts 1 h).length) (w - 1)) : toLay ts h w q ∈ layF ts w (h * w) ∧ toWalk ts h w (toLay ts h w q) = q := by
  obtain ⟨hl, hlt, hg⟩ := (walk_grid w0).mp hq
  have hm : toLay ts h w q ∈ layF ts w (h * w) := (lay_grid w0).mpr ⟨by simp [toLay], hg.congr fun i hi j hj => (toLay_at w0 hi hj).symm⟩
  refine ⟨hm, ?_⟩
  obtain ⟨h1, _, h3⟩ := toWalk_ok w0 hm
  refine ext_gN (by simp [toWalk, hl]) fun j hj => ?_
  have hj' : j < w := by simpa [toWalk] using hj
  refine gR_inj (layF_nodup ts 1 h) (((walk_grid w0).mp h1).2.1 j hj') (hlt j hj') ?_
  rw [h3 j hj']
  refine ext_gN (by rw [(col_iff.mp (gR_mem (hlt j hj'))).1]; simp [colOf]) fun i hi => ?_
  have hi' : i < h := by simpa [colOf] using hi
  rw [colOf_at hi', toLay_at w0 hi' hj']
/-- as many are counted as are laid -/
theorem count_lay (w0 : 0 < w) : countZ ts (layF ts 1 h) w = ((layF ts w (h * w)).length : Int) := by
  rw [countZ_is]
  congr 1
  exact (len_bij (layF_nodup ts w (h * w)) (walks_nodup (nodup_range _) (w - 1)) (toWalk ts h w) (toLay ts h w) (fun r hr => ⟨(toWalk_ok w0 hr).1, (toWalk_ok w0 hr).2.1⟩) fun q hq => toLay_ok w0 hq).symm
/-! ### around -/
/-- goes on in itself to the east -/
def eastF (ts : List Tile) (h w : Nat) (r : List Nat) : Bool := (List.range h).all fun i => besideB ts (gN r (i * w + (w - 1))) (gN r (i * w))
theorem east_iff {r : List Nat} : eastF ts h w r = true ↔ ∀ i, i < h → besideB ts (gN r (i * w + (w - 1))) (gN r (i * w)) = true := by
  unfold eastF
  rw [List.all_eq_true]
  exact ⟨fun H i hi => H i (List.mem_range.mpr hi), fun H i hi => H i (List.mem_range.mp hi)⟩
def closedB (ts : List Tile) (C : List (List Nat)) (q : List Nat) : Bool := decide (gN q 0 ∈ nxt ts C (lastN q))
theorem closed_east (w0 : 0 < w) {q : List Nat} (hq : q ∈ walks ts (layF ts 1 h) (List.range (layF ts 1 h).length) (w - 1)) : closedB ts (layF ts 1 h) q = eastF ts h w (toLay ts h w q) := by
  obtain ⟨hl, hlt, _⟩ := (walk_grid w0).mp hq
  rw [Bool.eq_iff_iff, east_iff]
  unfold closedB lastN
  rw [decide_eq_true_eq, hl, nxt_iff (hlt _ (by omega))]
  constructor
  · rintro ⟨_, H⟩ i hi
    have := H i hi
    rw [← toLay_at w0 hi (by omega), ← toLay_at w0 hi w0, Nat.add_zero] at this
    exact this
  · intro H
    refine ⟨hlt 0 w0, fun i hi => ?_⟩
    have := H i hi
    rw [toLay_at w0 hi (by omega), show i * w = i * w + 0 from rfl, toLay_at w0 hi w0] at this
    exact this
theorem rings_iff {C : List (List Nat)} (w0 : 0 < w) {q : List Nat} : q ∈ rings ts C w ↔ q.length = w + 1 ∧ gN q 0 < C.length ∧ gN q w = gN q 0 ∧ ∀ i, i < w → gN q (i + 1) ∈ nxt ts C (gN q i) := by
  unfold rings
  rw [List.mem_flatMap]
  constructor
  · rintro ⟨b, hb, h⟩
    rw [List.mem_filter, walks_iff, List.mem_singleton, beq_iff_eq] at h
    obtain ⟨⟨h1, h2, h3⟩, h4⟩ := h
    unfold lastN at h4
    rw [h1, Nat.add_sub_cancel] at h4
    exact ⟨h1, by rw [h2]; exact List.mem_range.mp hb, by rw [h4, h2], h3⟩
  · rintro ⟨h1, h2, h3, h4⟩
    refine ⟨gN q 0, List.mem_range.mpr h2, ?_⟩
    rw [List.mem_filter, walks_iff, List.mem_singleton, beq_iff_eq]
    refine ⟨⟨h1, rfl, h4⟩, ?_⟩
    unfold lastN
    rw [h1, Nat.add_sub_cancel, h3]
theorem rings_nodup (C : List (List Nat)) : (rings ts C w).Nodup := by
  unfold rings List.Nodup
  rw [List.pairwise_flatMap]
  refine ⟨fun b _ => List.Pairwise.filter _ (walks_nodup (by simp) w), ?_⟩
  refine List.Pairwise.imp (fun {a b} hab => ?_) (nodup_range C.length)
  intro x hx y hy e
  subst e
  rw [List.mem_filter, walks_iff, List.mem_singleton] at hx hy
  exact hab (hx.1.2.1.symm.trans hy.1.2.1)
theorem rings_len {C : List (List Nat)} (w0 : 0 < w) : (rings ts C w).length = ((walks ts C (List.range C.length) (w - 1)).filter (closedB ts C)).length := by
  refine len_bij (rings_nodup C) (List.Pairwise.filter _ (walks_nodup (nodup_range _) _)) (fun q => q.take w) (fun q => q ++ [gN q 0]) (fun q hq => ?_) fun q hq => ?_
  · obtain ⟨h1, h2, h3, h4⟩ := (rings_iff w0).mp hq
    refine ⟨?_, ?_⟩
    · rw [List.mem_filter, walks_iff]
      refine ⟨⟨by simp; omega, ?_, fun i hi => ?_⟩, ?_⟩
      · rw [gN_take w0 (by omega)]; exact List.mem_range.mpr h2
      · rw [gN_take (by omega) (by omega), gN_take (by omega) (by omega)]; exact h4 i (by omega)
      · unfold closedB lastN
        rw [decide_eq_true_eq, gN_take w0 (by omega), List.length_take, Nat.min_eq_left (by omega), gN_take (by omega) (by omega)]
        have := h4 (w - 1) (by omega)
        rw [show w - 1 + 1 = w by omega, h3] at this
        exact this
    · rw [gN_take w0 (by omega), ← h3, ← take_snoc (by omega), List.take_of_length_le (by omega)]
  · rw [List.mem_filter, walks_iff] at hq
    obtain ⟨⟨h1, h2, h3⟩, h4⟩ := hq
    have hl : q.length = w := by omega
    refine ⟨(rings_iff w0).mpr ⟨by simp; omega, ?_, ?_, fun i hi => ?_⟩, by rw [List.take_left' hl]⟩
    · rw [gN_append_left (by omega)]; exact List.mem_range.mp h2
    · have e1 : gN (q ++ [gN q 0]) w = gN q 0 := by rw [← hl]; exact gN_snoc
      have e2 : gN (q ++ [gN q 0]) 0 = gN q 0 := gN_append_left (by omega)
      rw [e1, e2]
    · by_cases hi' : i < w - 1
      · rw [gN_append_left (by omega), gN_append_left (by omega)]; exact h3 i hi'
      · have : i = w - 1 := by omega
        subst this
        rw [show w - 1 + 1 = q.length by omega, gN_snoc, gN_append_left (by omega)]
        unfold closedB lastN at h4
        rw [decide_eq_true_eq, hl] at h4
        exact h4
theorem around_lay (w0 : 0 < w) : aroundZ ts (layF ts 1 h) w = (((layF ts w (h * w)).filter (eastF ts h w)).length : Int) := by
  rw [aroundZ_is, rings_len w0]
  congr 1
  refine (len_bij (List.Pairwise.filter _ (layF_nodup ts w (h * w))) (List.Pairwise.filter _ (walks_nodup (nodup_range _) (w - 1))) (toWalk ts h w) (toLay ts h w) (fun r hr => ?_) fun q hq => ?_).symm
  · rw [List.mem_filter] at hr
    obtain ⟨a, b, _⟩ := toWalk_ok w0 hr.1
    refine ⟨?_, b⟩
    rw [List.mem_filter]
    refine ⟨a, ?_⟩
    rw [closed_east w0 a, b]
    exact hr.2
  · rw [List.mem_filter] at hq
    obtain ⟨a, b⟩ := toLay_ok w0 hq.1
    refine ⟨?_, b⟩
    rw [List.mem_filter]
    refine ⟨a, ?_⟩
    rw [← closed_east w0 hq.1]
    exact hq.2
end
end DM

set_option maxRecDepth 100000
/-! K04b: the law counted_by_trying, of its run. -/
namespace DM
open PySem
theorem c_eq_nil {l : List PyData} (h : okD (.list l) = true) : cmpD .eq (.list l) (.list []) = some l.isEmpty := by
  show (if okD (.list l) && okD (.list []) then some ((PyData.list l).eqv (.list [])) else none) = _
  rw [h]
  cases l <;> rfl
theorem rowsOf_at {h w : Nat} {r : List Nat} (hr : r.length = h * w) {k j : Nat} (hk : k < h) (hj : j < w) : gN ((r.drop (k * w)).take w) j = gN r (k * w + j) := by
  have hp := pos_lt (h := h) (w := w) hk hj
  have : k * w + w ≤ h * w := by rw [← Nat.succ_mul]; exact Nat.mul_le_mul_right _ hk
  rw [gN_lt (by simp; omega), gN_lt (by omega)]
  simp
/-- all rows go on in themselves -/
def eastL (ts : List Tile) (w : Nat) (L : List (List Nat)) : Bool := L.all fun row => besideB ts (gN row (w - 1)) (gN row 0)
theorem eastL_is {ts : List Tile} {h w : Nat} (w0 : 0 < w) {r : List Nat} (hr : r.length = h * w) : eastL ts w (rowsOf h w r) = eastF ts h w r := by
  rw [Bool.eq_iff_iff, east_iff]
  unfold eastL rowsOf
  rw [List.all_eq_true]
  constructor
  · intro H i hi
    have := H _ (List.mem_map.mpr ⟨i, List.mem_range.mpr hi, rfl⟩)
    rw [rowsOf_at hr hi (by omega), rowsOf_at hr hi w0] at this
    exact this
  · intro H row hm
    obtain ⟨i, hi, rfl⟩ := List.mem_map.mp hm
    rw [List.mem_range] at hi
    rw [rowsOf_at hr hi (by omega), rowsOf_at hr hi w0]
    exact H i hi
section
variable {Φ : Phi} {n : Nat}
abbrev E_odd : E := .cmp .ne (.idx (.idx (.var 2) (.idx (.var 9) (.bin .sub (.var 4) (.cst (.int 1))))) (.cst (.int 1))) (.idx (.idx (.var 2) (.idx (.var 9) (.cst (.int 0)))) (.cst (.int 3)))
abbrev E_odds : E := .fr (.comp (.seq (.var 8)) (.n 9) [9] (.some E_odd) (.var 9))
abbrev B_many04 : List S := [(.ite (.cmp .eq E_odds (.fr (.lst .nil))) [(.asg (.n 7) (.bin .add (.var 7) (.cst (.int 1))))] [])]
theorem odd_in {tsd row : List PyData} {w x y x1 x2 x3 x4 y1 y2 y3 y4 : Int} {a0 a1 a3 a5 a6 a7 a8 : Option W} {s : List Cell}
    (e1 : atD row (w - 1) = some (.int x)) (e2 : atD row 0 = some (.int y)) (ex : atD tsd x = some (.tuple [.int x1, .int x2, .int x3, .int x4])) (ey : atD tsd y = some (.tuple [.int y1, .int y2, .int y3, .int y4])) :
    runE Φ E_odd [a0, a1, some (.d (.list tsd)), a3, some (.d (.int w)), a5, a6, a7, a8, some (.d (.tuple row))] s = .ok (.d (.bool (!decide (x2 = y4)))) s := by
  simp [E_odd, e1, e2, ex, ey, at4_1, at4_3]
theorem odds_run {ts : List Tile} {w : Nat} (w0 : 1 ≤ w) {L : List (List Nat)} (hL : LayOk ts.length w L) (hn : L.length ≤ 1000) {a0 a1 a3 a5 a6 a7 a9 : Option W} {s : List Cell} :
    runE Φ E_odds [a0, a1, some (.d (rowsD ts)), a3, some (.d (.int (w : Int))), a5, a6, a7, some (.d (layD L)), a9] s = .ok (.d (.list ((L.filter fun row => !besideB ts (gN row (w - 1)) (gN row 0)).map rowD))) s := by
  have sp : sizeLine = 16777216 := by decide
  have key : compT Φ (.n 9) [9] (.some E_odd) (.var 9) [a0, a1, some (.d (rowsD ts)), a3, some (.d (.int (w : Int))), a5, a6, a7, some (.d (layD L)), a9] (.ok (L.map rowD) s) = .ok ((L.filter fun row => !besideB ts (gN row (w - 1)) (gN row 0)).map rowD) s := by
    refine compT_fm (by omega) fun row hr => ?_
    obtain ⟨hl, hi⟩ := hL row hr
    have c1 : ((w : Int) - 1) = ((w - 1 : Nat) : Int) := by omega
    have q1 : atD (row.map fun (i : Nat) => PyData.int (i : Int)) ((w : Int) - 1) = some (.int (gN row (w - 1) : Nat)) := by rw [c1]; exact at_row (by omega)
    exact turnK_c (odd_in q1 (at_row (j := 0) (by omega)) (atD_tile (getD_lt hi (by omega))) (atD_tile (getD_lt hi (by omega)))) (fun _ => rfl) fun _ => rfl
  have eI : runI Φ (.seq (.var 8)) [a0, a1, some (.d (rowsD ts)), a3, some (.d (.int (w : Int))), a5, a6, a7, some (.d (layD L)), a9] s = .ok (L.map rowD) s := rfl
  rw [rE_fr, rF_comp, eI, key]
  rfl
theorem many_step {a0 a1 a2 a3 a4 a5 a6 a8 a9 : Option W} {m : Int} {l : List PyData} {b : Bool} {s : List Cell} (e : runE Φ E_odds [a0, a1, a2, a3, a4, a5, a6, some (.d (.int m)), a8, a9] s = .ok (.d (.list l)) s) (q : cmpD .eq (.list l) (.list []) = some b) :
    runB Φ n B_many04 [a0, a1, a2, a3, a4, a5, a6, some (.d (.int m)), a8, a9] s = .ok (.nx, [a0, a1, a2, a3, a4, a5, a6, some (.d (.int (if b then m + 1 else m))), a8, a9]) s := by
  have z0 : (0 : Nat) ≤ sizeLine := Nat.zero_le _
  have ec : runE Φ (.cmp .eq E_odds (.fr (.lst .nil))) [a0, a1, a2, a3, a4, a5, a6, some (.d (.int m)), a8, a9] s = .ok (.d (.bool b)) s := by
    rw [rE_cmp, e]
    simp [frzsR, frzAll, q]
  cases b with
  | true =>
    unfold B_many04
    rw [rB_cons, ite_T ec]
    simp [asgT]
  | false =>
    unfold B_many04
    rw [rB_cons, ite_F ec]
    simp
theorem all_filter {α : Type} (p : α → Bool) (l : List α) : (l.filter fun x => !p x).isEmpty = l.all p := by
  induction l with
  | nil => rfl
  | cons x l ih => rw [List.filter_cons, List.all_cons]; cases p x <;> simp [ih]
theorem many_turn {ts : List Tile} {h w : Nat} (hh : h ≤ 12) (w0 : 1 ≤ w) (hw : w ≤ 12) {L : List (List Nat)} (hl : L.length = h) (hL : LayOk ts.length w L) {a0 a1 a3 a5 a6 a9 : Option W} {m : Int} {s : List Cell} :
    runB Φ n B_many04 [a0, a1, some (.d (rowsD ts)), a3, some (.d (.int (w : Int))), a5, a6, some (.d (.int m)), some (.d (layD L)), a9] s = .ok (.nx, [a0, a1, some (.d (rowsD ts)), a3, some (.d (.int (w : Int))), a5, a6, some (.d (.int (if eastL ts w L then m + 1 else m))), some (.d (layD L)), a9]) s := by
  have sp : sizeLine = 16777216 := by decide
  have e := odds_run (Φ := Φ) w0 hL (by omega) (a0 := a0) (a1 := a1) (a3 := a3) (a5 := a5) (a6 := a6) (a7 := some (.d (.int m))) (a9 := a9) (s := s)
  have hlen := List.length_filter_le (fun row => !besideB ts (gN row (w - 1)) (gN row 0)) L
  have hok : okD (.list ((L.filter fun row => !besideB ts (gN row (w - 1)) (gN row 0)).map rowD)) = true := Nd_okD (n := 2) (by decide) (lay_Nd (by omega) fun r hr => by rw [(hL r (List.mem_filter.mp hr).1).1]; omega)
  have q := c_eq_nil hok
  rw [isEmpty_of, all_filter] at q
  exact many_step e q
abbrev B_pre04 : List S := [(.asg (.n 1) (.th (.call 9 (.cons (.var 0) .nil)))), (.asg (.n 2) (.call 50 (.cons (.var 1) (.cons (.cst (.int 5)) .nil)))), (.asg (.t [3, 4]) (.call 47 (.cons (.var 1) (.cons (.bi .len (.cons (.var 2) .nil)) (.cons (.cst (.int 256)) .nil))))), (.asg (.n 5) (.call 27 (.cons (.var 2) (.cons (.var 3) (.cons (.var 4) .nil))))), (.asg (.n 6) (.mk 2 (.cons (.var 2) .nil))), (.ite (.not (.call 29 (.cons (.call 59 (.cons (.var 6) (.cons (.var 3) (.cons (.var 4) .nil)))) (.cons (.bi .len (.cons (.var 5) .nil)) .nil)))) [(.ret (.cst (.bool false)))] []), (.ite (.cmp .gt (.bi .len (.cons (.call 58 (.cons (.var 6) (.cons (.var 3) .nil))) .nil)) (.cst (.int 64))) [(.ret (.cst (.bool true)))] []), (.asg (.n 7) (.cst (.int 0)))]
def B_law04 : List S := B_pre04 ++ [(.for (.n 8) (.seq (.var 5)) B_many04), (.ret (.call 29 (.cons (.call 54 (.cons (.var 6) (.cons (.var 3) (.cons (.var 4) .nil)))) (.cons (.var 7) .nil))))]
theorem filt_snoc {α : Type} (p : α → Bool) (l : List α) (x : α) : (((l ++ [x]).filter p).length : Int) = if p x then ((l.filter p).length : Int) + 1 else ((l.filter p).length : Int) := by
  rw [List.filter_append, List.length_append]
  cases h : p x <;> simp [h]
theorem law04 {φ9 φ50 φ47 φ27 φ29 φ59 φ58 φ54 : Fs} {ψ : Ms} (h9 : Φ.fn 9 = some φ9) (D : DiceOk φ9) (h50 : Φ.fn 50 = some φ50) (Ti : TilesOk φ50) (h47 : Φ.fn 47 = some φ47) (Si : SizeOk φ47) (h27 : Φ.fn 27 = some φ27) (Lg : LayingsOk φ27)
    (h29 : Φ.fn 29 = some φ29) (Lk : LikeOk φ29 0) (h59 : Φ.fn 59 = some φ59) (Ct : CountsOk φ59) (h58 : Φ.fn 58 = some φ58) (Co : ColumnsOk φ58) (h54 : Φ.fn 54 = some φ54) (Ar : AroundOk φ54) (hψ : Φ.cl 2 = some ψ) (K : MkTiles ψ) (ns : List Int) (hl : ns.length ≤ 63) : gP Φ n B_law04 10 [.d (.list (ns.map .int))] = some (.ret (.d (.bool true))) := by
  have sp : sizeLine = 16777216 := by decide
  obtain ⟨l, dl, e1⟩ := D ns [] hl
  obtain ⟨ts, c2, t0, t1, tk, d2, e2⟩ := Ti [.lst l] 0 (.lst l) 5 dl rfl rfl (by decide) (by decide)
  replace e2 := callF_X e2
  simp only [List.set_cons_zero] at e2
  have t2 : ts.length ≤ 200 := by omega
  obtain ⟨lst2, rfl⟩ := d2.lst
  obtain ⟨h, w, c3, h0, h4, w0, w4, hz, d3, e3⟩ := Si [.lst lst2] 0 (.lst lst2) ts.length 256 d2 rfl rfl t0 (by omega) (by omega)
  simp only [List.set_cons_zero] at e3
  rw [show ((256 : Nat) : Int) = 256 from rfl] at e3
  have e5 := callF_X (Lg ts h w [c3] t0 t2 h0 (by omega) w0 (by omega) (by omega))
  have hcol : ∀ k, k ≤ h → (layF ts 1 k).length ≤ 500 := fun k hk => by
    have h1 := layF_len ts 1 k
    have h2 : ts.length ^ k ≤ ts.length ^ (h * w) := Nat.pow_le_pow_right t0 (Nat.le_trans hk (Nat.le_mul_of_pos_right _ w0))
    omega
  have eE : ((layF ts w (h * w)).map fun r => layD (rowsOf h w r)) = ((layF ts w (h * w)).map (rowsOf h w)).map layD := by rw [List.map_map]; rfl
  rw [eE] at e5
  have e6 := K ts [c3] t0 t2 tk
  have e7 := Ct ts h w [c3] t2 h0 (by omega) w0 (by omega) hcol
  rw [count_lay w0] at e7
  have e8 := callF_X (Co ts h [c3] t2 h0 (by omega) hcol)
  have e9 := Ar ts h w [c3] t2 h0 (by omega) w0 (by omega) hcol
  rw [around_lay w0] at e9
  have hLs : ∀ L ∈ (layF ts w (h * w)).map (rowsOf h w), L.length = h ∧ LayOk ts.length w L := fun L hL => by
    obtain ⟨r, hr, rfl⟩ := List.mem_map.mp hL
    obtain ⟨q1, q2⟩ := layF_mem hr
    exact ⟨rowsOf_len _ _ _, rowsOf_ok q1 q2⟩
  have hcnt : (((layF ts w (h * w)).filter (eastF ts h w)).length : Int) = ((((layF ts w (h * w)).map (rowsOf h w)).filter (eastL ts w)).length : Int) := by
    rw [List.filter_map, List.length_map]
    congr 2
    apply List.filter_congr
    intro r hr
    exact (eastL_is w0 (layF_mem hr).1).symm
  have hlen : ((layF ts w (h * w)).length : Int) = ((((layF ts w (h * w)).map (rowsOf h w)).length : Nat) : Int) := by rw [List.length_map]
  rw [hlen] at e7
  rw [hcnt] at e9
  generalize hg : (layF ts w (h * w)).map (rowsOf h w) = Ls at e5 e7 e9 hLs
  have l7 := Lk (.int (Ls.length : Int)) [c3] rfl
  have l9 := Lk (.int ((Ls.filter (eastL ts w)).length : Int)) [c3] rfl
  have e1' : runS Φ n (.asg (.n 1) (.th (.call 9 (.cons (.var 0) .nil)))) (startE 10 [.d (.list (ns.map .int))]) [] = .ok (.nx, [some (.d (.list (ns.map .int))), some (.h 0), none, none, none, none, none, none, none, none]) [.lst l] := set_n (by simp [startE, h9, e1])
  have e2' : runS Φ n (.asg (.n 2) (.call 50 (.cons (.var 1) (.cons (.cst (.int 5)) .nil)))) [some (.d (.list (ns.map .int))), some (.h 0), none, none, none, none, none, none, none, none] [.lst l] = .ok (.nx, [some (.d (.list (ns.map .int))), some (.h 0), some (.d (rowsD ts)), none, none, none, none, none, none, none]) [.lst lst2] := set_n (by simp [-List.map_map, h50, e2])
  have e3' : runS Φ n (.asg (.t [3, 4]) (.call 47 (.cons (.var 1) (.cons (.bi .len (.cons (.var 2) .nil)) (.cons (.cst (.int 256)) .nil))))) [some (.d (.list (ns.map .int))), some (.h 0), some (.d (rowsD ts)), none, none, none, none, none, none, none] [.lst lst2] = .ok (.nx, [some (.d (.list (ns.map .int))), some (.h 0), some (.d (rowsD ts)), some (.d (.int (h : Int))), some (.d (.int (w : Int))), none, none, none, none, none]) [c3] := by
    simp [-List.map_map, h47, seeAll, e3, asgT, setAll]
  have e5' : runS Φ n (.asg (.n 5) (.call 27 (.cons (.var 2) (.cons (.var 3) (.cons (.var 4) .nil))))) [some (.d (.list (ns.map .int))), some (.h 0), some (.d (rowsD ts)), some (.d (.int (h : Int))), some (.d (.int (w : Int))), none, none, none, none, none] [c3] = .ok (.nx, [some (.d (.list (ns.map .int))), some (.h 0), some (.d (rowsD ts)), some (.d (.int (h : Int))), some (.d (.int (w : Int))), some (.d (.list (Ls.map layD))), none, none, none, none]) [c3] := set_n (by simp [-List.map_map, h27, e5])
  have e6' : runS Φ n (.asg (.n 6) (.mk 2 (.cons (.var 2) .nil))) [some (.d (.list (ns.map .int))), some (.h 0), some (.d (rowsD ts)), some (.d (.int (h : Int))), some (.d (.int (w : Int))), some (.d (.list (Ls.map layD))), none, none, none, none] [c3] = .ok (.nx, [some (.d (.list (ns.map .int))), some (.h 0), some (.d (rowsD ts)), some (.d (.int (h : Int))), some (.d (.int (w : Int))), some (.d (.list (Ls.map layD))), some (setW ts), none, none, none]) [c3] := set_n (by
    simp only [rE_mk, hψ, rEs_cons, rEs_nil, rE_var]
    exact e6)
  have c7 : runE Φ (.not (.call 29 (.cons (.call 59 (.cons (.var 6) (.cons (.var 3) (.cons (.var 4) .nil)))) (.cons (.bi .len (.cons (.var 5) .nil)) .nil)))) [some (.d (.list (ns.map .int))), some (.h 0), some (.d (rowsD ts)), some (.d (.int (h : Int))), some (.d (.int (w : Int))), some (.d (.list (Ls.map layD))), some (setW ts), none, none, none] [c3] = .ok (.d (.bool false)) [c3] := by
    simp only [setW] at e7
    simp [-List.map_map, h29, h59, e7, seeAll, l7]
  unfold B_law04 B_pre04
  show endP (runB Φ n _ (startE 10 [.d (.list (ns.map .int))]) []) = _
  simp only [List.cons_append, List.nil_append]
  rw [step1 e1', step1 e2', step1 e3', step1 e5', step1 e6', rB_cons, ite_F c7, rB_nil, R.sq_nx, rB_cons]
  by_cases hgt : (64 : Int) < ((layF ts 1 h).length : Int)
  · have c8 : runE Φ (.cmp .gt (.bi .len (.cons (.call 58 (.cons (.var 6) (.cons (.var 3) .nil))) .nil)) (.cst (.int 64))) [some (.d (.list (ns.map .int))), some (.h 0), some (.d (rowsD ts)), some (.d (.int (h : Int))), some (.d (.int (w : Int))), some (.d (.list (Ls.map layD))), some (setW ts), none, none, none] [c3] = .ok (.d (.bool true)) [c3] := by
      simp only [setW] at e8
      simp [-List.map_map, h58, e8, seeAll, hgt]
    rw [ite_T c8]
    rfl
  · have c8 : runE Φ (.cmp .gt (.bi .len (.cons (.call 58 (.cons (.var 6) (.cons (.var 3) .nil))) .nil)) (.cst (.int 64))) [some (.d (.list (ns.map .int))), some (.h 0), some (.d (rowsD ts)), some (.d (.int (h : Int))), some (.d (.int (w : Int))), some (.d (.list (Ls.map layD))), some (setW ts), none, none, none] [c3] = .ok (.d (.bool false)) [c3] := by
      simp only [setW] at e8
      simp [-List.map_map, h58, e8, seeAll, hgt]
    rw [ite_F c8, rB_nil, R.sq_nx]
    obtain ⟨ρ', s', e, o8', o9', rfl, rfl⟩ := forK_pre (Φ := Φ) (n := n) (t := .n 8) (b := B_many04) layD
      (fun pre ρ s => ∃ o8' o9', ρ = [some (.d (.list (ns.map .int))), some (.h 0), some (.d (rowsD ts)), some (.d (.int (h : Int))), some (.d (.int (w : Int))), some (.d (.list (Ls.map layD))), some (setW ts), some (.d (.int ((pre.filter (eastL ts w)).length : Int))), o8', o9'] ∧ s = [c3])
      Ls [some (.d (.list (ns.map .int))), some (.h 0), some (.d (rowsD ts)), some (.d (.int (h : Int))), some (.d (.int (w : Int))), some (.d (.list (Ls.map layD))), some (setW ts), some (.d (.int 0)), none, none] [c3] ⟨none, none, rfl, rfl⟩ fun pre L post ρ s ep ⟨o8', o9', hρ, hs⟩ => by
        subst hρ hs
        obtain ⟨q1, q2⟩ := hLs L (pre_mem ep)
        refine ⟨_, _, _, rfl, .inl (many_turn (by omega) w0 (by omega) q1 q2), some (.d (layD L)), o9', ?_, rfl⟩
        rw [filt_snoc]
    have s7 : runS Φ n (.asg (.n 7) (.cst (.int 0))) [some (.d (.list (ns.map .int))), some (.h 0), some (.d (rowsD ts)), some (.d (.int (h : Int))), some (.d (.int (w : Int))), some (.d (.list (Ls.map layD))), some (setW ts), none, none, none] [c3] = .ok (.nx, [some (.d (.list (ns.map .int))), some (.h 0), some (.d (rowsD ts)), some (.d (.int (h : Int))), some (.d (.int (w : Int))), some (.d (.list (Ls.map layD))), some (setW ts), some (.d (.int 0)), none, none]) [c3] := set_n rfl
    have eI : runI Φ (.seq (.var 5)) [some (.d (.list (ns.map .int))), some (.h 0), some (.d (rowsD ts)), some (.d (.int (h : Int))), some (.d (.int (w : Int))), some (.d (.list (Ls.map layD))), some (setW ts), some (.d (.int 0)), none, none] [c3] = .ok (Ls.map layD) [c3] := rfl
    rw [step1 s7, rB_cons, rS_for, eI, forS_ok, e, R.sq_nx]
    simp only [setW] at e9
    simp [-List.map_map, h29, h54, e9, l9, endP, finP]
end
end DM

set_option maxRecDepth 100000
/-! P1: going on place by place; what was found before. -/
namespace DM
open PySem
abbrev Fit := List Nat → Nat → Bool
/-- all ways on of so many places -/
def compl (fit : Fit) (T : Nat) : Nat → List Nat → List (List Nat)
  | 0, p => [p]
  | k + 1, p => (List.range T).flatMap fun t => if fit p t then compl fit T k (p ++ [t]) else []
def extG (fit : Fit) (T : Nat) (p : List Nat) : List (List Nat) := ((List.range T).filter (fit p)).map fun t => p ++ [t]
theorem flat_if {β γ : Type} (p : β → Bool) (f : β → γ) : ∀ l : List β, (l.flatMap fun t => if p t then [f t] else []) = (l.filter p).map f
  | [] => rfl
  | x :: l => by
    rw [List.flatMap_cons, flat_if p f l]
    cases h : p x <;> simp [h]
theorem compl_grow (fit : Fit) (T : Nat) : ∀ (k : Nat) (p : List Nat), compl fit T (k + 1) p = (compl fit T k p).flatMap (extG fit T)
  | 0, p => by
    show ((List.range T).flatMap fun t => if fit p t then [p ++ [t]] else []) = _
    rw [flat_if]
    simp [compl, extG]
  | k + 1, p => by
    show ((List.range T).flatMap fun t => if fit p t then compl fit T (k + 1) (p ++ [t]) else []) = ((List.range T).flatMap fun t => if fit p t then compl fit T k (p ++ [t]) else []).flatMap (extG fit T)
    rw [List.flatMap_assoc]
    congr 1
    funext t
    cases h : fit p t
    · simp
    · simp only [if_true]
      exact compl_grow fit T k (p ++ [t])
theorem compl_layF (ts : List Tile) (w : Nat) : ∀ k, compl (fitsB ts w) ts.length k [] = layF ts w k
  | 0 => rfl
  | k + 1 => by rw [compl_grow, compl_layF ts w k]; rfl
theorem compl_mem {fit : Fit} {T : Nat} : ∀ {k : Nat} {p q : List Nat}, q ∈ compl fit T k p → q.length = p.length + k ∧ q.take p.length = p ∧ ((∀ i ∈ p, i < T) → ∀ i ∈ q, i < T)
  | 0, p, q, h => by
    have : q = p := by simpa [compl] using h
    subst this
    exact ⟨rfl, by simp, fun h => h⟩
  | k + 1, p, q, h => by
    have h : q ∈ (List.range T).flatMap fun t => if fit p t then compl fit T k (p ++ [t]) else [] := h
    rw [List.mem_flatMap] at h
    obtain ⟨t, ht, h⟩ := h
    rw [List.mem_range] at ht
    split at h
    · obtain ⟨h1, h2, h3⟩ := compl_mem h
      refine ⟨by rw [h1]; simp; omega, ?_, fun hp => h3 fun i hi => ?_⟩
      · have := congrArg (List.take p.length) h2
        rw [List.take_take] at this
        simpa using this
      · rcases List.mem_append.mp hi with hi | hi
        · exact hp i hi
        · rw [List.mem_singleton] at hi; subst hi; exact ht
    · cases h
/-! ### what the ways on depend on -/
def lastW (w : Nat) (p : List Nat) : List Nat := p.drop (p.length - w)
def Alike (w : Nat) (p q : List Nat) : Prop := p.length = q.length ∧ lastW w p = lastW w q
theorem gN_last {w : Nat} {p : List Nat} {i : Nat} (h : p.length - w ≤ i) : gN p i = gN (lastW w p) (i - (p.length - w)) := by
  unfold gN lastW
  rw [List.getD_eq_getElem?_getD, List.getD_eq_getElem?_getD, List.getElem?_drop]
  congr 2
  omega
theorem Alike.gN {w : Nat} {p q : List Nat} (a : Alike w p q) {i : Nat} (h : p.length - w ≤ i) : gN p i = gN q i := by
  rw [gN_last (p := p) h, gN_last (p := q) (w := w) (by rw [← a.1]; exact h), a.2, a.1]
theorem Alike.snoc {w : Nat} {p q : List Nat} (a : Alike w p q) (t : Nat) : Alike w (p ++ [t]) (q ++ [t]) := by
  refine ⟨by simp [a.1], ?_⟩
  have e : ∀ r : List Nat, lastW w (r ++ [t]) = if w = 0 then [] else (r ++ [t]).drop ((r ++ [t]).length - w) := fun r => by
    unfold lastW
    split
    · rename_i h; subst h; simp
    · rfl
  rw [e, e]
  split
  · rfl
  · refine List.ext_getElem? fun i => ?_
    rw [List.getElem?_drop, List.getElem?_drop]
    have hl := a.1
    by_cases hi : (p ++ [t]).length - w + i < p.length
    · rw [List.getElem?_append_left hi, List.getElem?_append_left (by simp at hi ⊢; omega)]
      have h1 : p[(p ++ [t]).length - w + i]? = (lastW w p)[(p ++ [t]).length - w + i - (p.length - w)]? := by
        unfold lastW; rw [List.getElem?_drop]; congr 1; simp at hi ⊢; omega
      have h2 : q[(q ++ [t]).length - w + i]? = (lastW w q)[(q ++ [t]).length - w + i - (q.length - w)]? := by
        unfold lastW; rw [List.getElem?_drop]; congr 1; simp at hi ⊢; omega
      rw [h1, h2, a.2]
      congr 1
      simp at hi ⊢
      omega
    · rw [List.getElem?_append_right (by omega), List.getElem?_append_right (by simp at hi ⊢; omega)]
      congr 1
      simp at hi ⊢
      omega
def Local (w : Nat) (fit : Fit) : Prop := ∀ p q t, Alike w p q → fit p t = fit q t
theorem compl_alike {w : Nat} {fit : Fit} (L : Local w fit) {T : Nat} : ∀ {k : Nat} {p q : List Nat}, Alike w p q → (compl fit T k p).length = (compl fit T k q).length
  | 0, _, _, _ => rfl
  | k + 1, p, q, a => by
    show ((List.range T).flatMap fun t => if fit p t then compl fit T k (p ++ [t]) else []).length = ((List.range T).flatMap fun t => if fit q t then compl fit T k (q ++ [t]) else []).length
    rw [List.length_flatMap, List.length_flatMap]
    congr 2
    funext t
    rw [L p q t a]
    split
    · exact compl_alike L (a.snoc t)
    · rfl
theorem local_fits (ts : List Tile) {w : Nat} (w0 : 0 < w) : Local w (fitsB ts w) := fun p q t a => by
  unfold fitsB
  rw [← a.1]
  by_cases h : p.length = 0
  · have hq : q.length = 0 := by rw [← a.1]; exact h
    rw [List.length_eq_zero_iff.mp h, List.length_eq_zero_iff.mp hq]
  · rw [a.gN (i := p.length - 1) (by omega), a.gN (i := p.length - w) (by omega)]
/-- .. with some tiles told -/
def fixB (f : Nat → Nat → Option Nat) (w : Nat) (p : List Nat) (t : Nat) : Bool := match f (p.length / w) (p.length % w) with
  | none => true
  | some u => decide (u = t)
def fitX (ts : List Tile) (w : Nat) (f : Nat → Nat → Option Nat) : Fit := fun p t => fitsB ts w p t && fixB f w p t
theorem local_fitX (ts : List Tile) {w : Nat} (w0 : 0 < w) (f : Nat → Nat → Option Nat) : Local w (fitX ts w f) := fun p q t a => by
  unfold fitX
  rw [local_fits ts w0 p q t a]
  unfold fixB
  rw [a.1]
/-! ### what was found before -/
abbrev Mem := List ((Nat × List Nat) × PyData)
def keyD (k : Nat × List Nat) : PyData := .tuple [.int (k.1 : Int), .tuple (k.2.map iD)]
def keyOf (w : Nat) (p : List Nat) : Nat × List Nat := (p.length, lastW w p)
def memD (es : Mem) : List (PyData × PyData) := es.map fun q => (keyD q.1, q.2)
def look (es : Mem) (k : Nat × List Nat) : Option PyData := (es.find? fun q => decide (q.1 = k)).map (·.2)
def kk (k : Nat × List Nat) : L2.Key × List L2.Key := (.inl (k.1 : Int), k.2.map fun (i : Nat) => Sum.inl (i : Int))
theorem flatKs_nat : ∀ l : List Nat, flatKs (l.map iD) = some (l.map fun (i : Nat) => Sum.inl (i : Int))
  | [] => rfl
  | i :: l => by
    show (match flatK (iD i), flatKs (l.map iD) with | some k, some ks => some (k :: ks) | _, _ => none) = _
    rw [flatKs_nat l]
    rfl
theorem pkO_key (k : Nat × List Nat) : pkO (keyD k) = some (kk k) := by
  show (match flatK (.int (k.1 : Int)), flatKs (k.2.map iD) with | some k, some ks => some (k, ks) | _, _ => none) = _
  rw [flatKs_nat]
  rfl
theorem kk_inj {k j : Nat × List Nat} (h : kk k = kk j) : k = j := by
  obtain ⟨a, l⟩ := k
  obtain ⟨b, m⟩ := j
  unfold kk at h
  simp only [Prod.mk.injEq, Sum.inl.injEq] at h
  obtain ⟨h1, h2⟩ := h
  have : a = b := by exact_mod_cast h1
  subst this
  have inj : Function.Injective fun (i : Nat) => (Sum.inl (i : Int) : L2.Key) := fun x y e => by
    have e : (Sum.inl (x : Int) : L2.Key) = Sum.inl (y : Int) := e
    cases e; rfl
  rw [(List.map_inj_right inj).mp h2]
theorem find_mem (es : Mem) (k : Nat × List Nat) : dFind pkO (memD es) (kk k) = look es k := by
  unfold dFind memD look
  rw [List.find?_map, Option.map_map]
  have e : ((fun q : PyData × PyData => decide (pkO q.1 = some (kk k))) ∘ fun q : (Nat × List Nat) × PyData => (keyD q.1, q.2)) = fun q => decide (q.1 = k) := by
    funext q
    show decide (pkO (keyD q.1) = some (kk k)) = decide (q.1 = k)
    rw [pkO_key]
    by_cases h : q.1 = k
    · simp [h]
    · rw [decide_eq_false h, decide_eq_false]
      intro e
      exact h (kk_inj (Option.some.inj e))
  rw [e]
  rfl
theorem get_mem (es : Mem) (k : Nat × List Nat) : dGet true (memD es) (keyD k) = some (look es k) := by
  show (pkO (keyD k)).map (dFind pkO (memD es)) = _
  rw [pkO_key]
  exact congrArg some (find_mem es k)
theorem put_mem {es : Mem} {k : Nat × List Nat} (v : PyData) (h : look es k = none) : dPut true (memD es) (keyD k) v = some (memD (es ++ [(k, v)])) := by
  show ((pkO (keyD k)).map fun c => dPutK pkO (memD es) c (keyD k) v) = _
  rw [pkO_key]
  show some (dPutK pkO (memD es) (kk k) (keyD k) v) = _
  unfold dPutK
  rw [find_mem, h]
  simp [memD]
theorem look_none {es : Mem} {k : Nat × List Nat} (h : ∀ q ∈ es, q.1 ≠ k) : look es k = none := by
  unfold look
  rw [List.find?_eq_none.mpr (by simpa using h)]
  rfl
theorem look_some {es : Mem} {k : Nat × List Nat} {v : PyData} (h : look es k = some v) : (k, v) ∈ es := by
  unfold look at h
  cases e : es.find? fun q => decide (q.1 = k) with
  | none => rw [e] at h; cases h
  | some q =>
    rw [e] at h
    cases h
    have h1 := List.find?_some e
    have h2 := List.mem_of_find?_eq_some e
    have : q.1 = k := by simpa using h1
    subst this
    exact h2
theorem none_look {es : Mem} {k : Nat × List Nat} (h : look es k = none) : ∀ q ∈ es, q.1 ≠ k := fun q hq e => by
  unfold look at h
  rw [Option.map_eq_none_iff, List.find?_eq_none] at h
  exact h q hq (by simpa using e)
structure MemOk (T w n : Nat) (V : List Nat → PyData → Prop) (es : Mem) : Prop where
  nd : (es.map (·.1)).Nodup
  ok : ∀ q ∈ es, ∃ p : List Nat, p.length < n ∧ (∀ i ∈ p, i < T) ∧ q.1 = keyOf w p ∧ V p q.2
theorem MemOk.put {T w n : Nat} {V : List Nat → PyData → Prop} {es : Mem} (M : MemOk T w n V es) {p : List Nat} {v : PyData} (h : look es (keyOf w p) = none) (hp : p.length < n) (hi : ∀ i ∈ p, i < T) (hv : V p v) : MemOk T w n V (es ++ [(keyOf w p, v)]) := by
  refine ⟨?_, fun q hq => ?_⟩
  · rw [List.map_append, List.nodup_append]
    refine ⟨M.nd, by simp, fun a ha b hb => ?_⟩
    rw [List.mem_map] at ha
    obtain ⟨q, hq, rfl⟩ := ha
    have : b = keyOf w p := by simpa using hb
    subst this
    exact none_look h q hq
  · rcases List.mem_append.mp hq with hq | hq
    · exact M.ok q hq
    · have : q = (keyOf w p, v) := by simpa using hq
      subst this
      exact ⟨p, hp, hi, rfl, hv⟩
theorem MemOk.hit {T w n : Nat} {V : List Nat → PyData → Prop} {es : Mem} (M : MemOk T w n V es) {p : List Nat} {v : PyData} (h : look es (keyOf w p) = some v) : ∃ q : List Nat, Alike w q p ∧ V q v := by
  obtain ⟨q, _, _, e, hv⟩ := M.ok _ (look_some h)
  unfold keyOf at e
  rw [Prod.mk.injEq] at e
  exact ⟨q, ⟨e.1.symm, e.2.symm⟩, hv⟩
theorem words_mem {T : Nat} : ∀ (x p : List Nat), (∀ i ∈ x, i < T) → p ++ x ∈ compl (fun _ _ => true) T x.length p
  | [], p, _ => by simp [compl]
  | t :: x, p, h => by
    show p ++ t :: x ∈ (List.range T).flatMap fun t => if true then compl (fun _ _ => true) T x.length (p ++ [t]) else []
    rw [List.mem_flatMap]
    refine ⟨t, List.mem_range.mpr (h t List.mem_cons_self), ?_⟩
    have := words_mem x (p ++ [t]) fun i hi => h i (List.mem_cons_of_mem _ hi)
    simpa using this
theorem sum_le {β : Type} (f : β → Nat) (m : Nat) : ∀ l : List β, (∀ x ∈ l, f x ≤ m) → (l.map f).sum ≤ l.length * m
  | [], _ => by simp
  | x :: l, h => by
    have h1 := h x List.mem_cons_self
    have h2 := sum_le f m l fun y hy => h y (List.mem_cons_of_mem _ hy)
    rw [List.map_cons, List.sum_cons, List.length_cons, Nat.succ_mul]
    omega
theorem compl_len (fit : Fit) (T : Nat) : ∀ (k : Nat) (p : List Nat), (compl fit T k p).length ≤ T ^ k
  | 0, _ => by simp [compl]
  | k + 1, p => by
    show ((List.range T).flatMap fun t => if fit p t then compl fit T k (p ++ [t]) else []).length ≤ _
    rw [List.length_flatMap]
    refine Nat.le_trans (sum_le _ (T ^ k) _ fun t _ => ?_) (by rw [List.length_range, Nat.pow_succ, Nat.mul_comm]; exact Nat.le_refl _)
    split
    · exact compl_len fit T k _
    · exact Nat.zero_le _
def allKeys (n T w : Nat) : List (Nat × List Nat) := (List.range n).flatMap fun l => (compl (fun _ _ => true) T (min l w) []).map fun x => (l, x)
theorem allKeys_len {n T w : Nat} (h : 1 ≤ T) : (allKeys n T w).length ≤ n * T ^ w := by
  unfold allKeys
  rw [List.length_flatMap]
  refine Nat.le_trans (sum_le _ (T ^ w) _ fun l _ => ?_) (by rw [List.length_range]; exact Nat.le_refl _)
  rw [List.length_map]
  exact Nat.le_trans (compl_len _ _ _ _) (Nat.pow_le_pow_right h (Nat.min_le_right _ _))
theorem MemOk.len {T w n : Nat} {V : List Nat → PyData → Prop} {es : Mem} (M : MemOk T w n V es) (h : 1 ≤ T) : es.length ≤ n * T ^ w := by
  refine Nat.le_trans ?_ (allKeys_len (n := n) (w := w) h)
  have := nodup_le (l := es.map (·.1)) (m := allKeys n T w) M.nd fun k hk => by
    rw [List.mem_map] at hk
    obtain ⟨q, hq, rfl⟩ := hk
    obtain ⟨p, h1, h2, h3, _⟩ := M.ok q hq
    rw [h3]
    unfold allKeys keyOf
    rw [List.mem_flatMap]
    refine ⟨p.length, List.mem_range.mpr h1, ?_⟩
    rw [List.mem_map]
    refine ⟨lastW w p, ?_, rfl⟩
    have e : (lastW w p).length = min p.length w := by unfold lastW; rw [List.length_drop]; omega
    have := words_mem (T := T) (lastW w p) [] fun i hi => h2 i (List.mem_of_mem_drop hi)
    rw [e] at this
    simpa using this
  rwa [List.length_map] at this
end DM

set_option maxRecDepth 100000
/-! P2: Laying: fits, goes, rows. -/
namespace DM
open PySem
def FixOk (fx : List (PyData × PyData)) (f : Nat → Nat → Option Nat) : Prop := ∀ a k : Nat, dGet false fx (.tuple [.int (a : Int), .int (k : Int)]) = some ((f a k).map fun u => .int (u : Int))
theorem fix_nil : FixOk [] fun _ _ => none := fun _ _ => rfl
/-- a Laying, as it lies -/
structure Ly where
  pre : List Cell
  c : Nat
  ts : List Tile
  h : Nat
  w : Nat
  fx : List (PyData × PyData)
  f : Nat → Nat → Option Nat
  xf : List (Nat × W)
  xs : List Cell
namespace Ly
def ins (y : Ly) : Cell := .ins y.c ((6, setW y.ts) :: (7, .d (.int (y.h : Int))) :: (8, .d (.int (y.w : Int))) :: (9, .h y.pre.length) :: (2, .h (y.pre.length + 2)) :: (10, .h (y.pre.length + 3)) :: y.xf)
def st (y : Ly) (p : List Nat) (es : Mem) : List Cell := y.pre ++ (.dct false y.fx :: y.ins :: .lst (p.map iD) :: .dct true (memD es) :: y.xs)
abbrev me (y : Ly) : W := .h (y.pre.length + 1)
abbrev fit (y : Ly) : Fit := fitX y.ts y.w y.f
structure Ok (y : Ly) : Prop where
  h1 : 1 ≤ y.h
  h2 : y.h ≤ 12
  w1 : 1 ≤ y.w
  w2 : y.w ≤ 12
  t1 : 1 ≤ y.ts.length
  t2 : y.ts.length ≤ 200
  fx : FixOk y.fx y.f
  sz : y.h * y.w * y.ts.length ^ y.w < 16000000
  cl : closedS (y.st [] []).length (y.st [] []) = true
variable (y : Ly) (p : List Nat) (es : Mem)
theorem len : (y.st p es).length = y.pre.length + 4 + y.xs.length := by simp [st]; omega
theorem g0 : (y.st p es)[y.pre.length]? = some (.dct false y.fx) := by simp [st]
theorem g1 : (y.st p es)[y.pre.length + 1]? = some y.ins := by simp [st]
theorem g2 : (y.st p es)[y.pre.length + 2]? = some (.lst (p.map iD)) := by simp [st]
theorem g3 : (y.st p es)[y.pre.length + 3]? = some (.dct true (memD es)) := by simp [st]
theorem s2 (q : List Nat) : (y.st p es).set (y.pre.length + 2) (.lst (q.map iD)) = y.st q es := by
  unfold st
  rw [List.set_append_right _ _ (by omega), show y.pre.length + 2 - y.pre.length = 2 by omega]
  rfl
theorem s3 (es' : Mem) : (y.st p es).set (y.pre.length + 3) (.dct true (memD es')) = y.st p es' := by
  unfold st
  rw [List.set_append_right _ _ (by omega), show y.pre.length + 3 - y.pre.length = 3 by omega]
  rfl
theorem closed {y : Ly} (O : y.Ok) : closedS (y.st p es).length (y.st p es) = true := by
  have h := O.cl
  rw [len] at h ⊢
  unfold closedS st at *
  simpa [closedC] using h
end Ly
/-- a method that ends with data -/
theorem callM {Φ : Phi} {n k : Nat} {b : List S} {N : Nat} {ws : List W} {s s' : List Cell} {x : PyData} {ρ' : Env} (hl : ws.length = k) (e : runB Φ n b (startE N ws) s = .ok (.ret (.d x), ρ') s') (h1 : s'.length = s.length) (hc : closedS s'.length s' = true) : callF (.m k (gM Φ n b N 0)) ws s = .ok (.d x) s' := by
  have ht : s'.take (s.length + 0) = s' := by rw [Nat.add_zero, ← h1, List.take_length]
  unfold callF callX
  simp only [hl, if_pos, gM, e, endM, finM, ht]
  rw [Nat.add_zero, ← h1, hc]
  simp [rvW]
/-! ### fits -/
abbrev E_c1 : E := .and (.cmp .gt (.bin .mod (.var 2) (.fld (.var 0) 8)) (.cst (.int 0))) (.not (.meth (.fld (.var 0) 6) 2 (.cons (.idx (.fld (.var 0) 2) (.bin .sub (.var 2) (.cst (.int 1)))) (.cons (.var 1) .nil))))
abbrev E_c2 : E := .and (.cmp .ge (.var 2) (.fld (.var 0) 8)) (.not (.meth (.fld (.var 0) 6) 3 (.cons (.idx (.fld (.var 0) 2) (.bin .sub (.var 2) (.fld (.var 0) 8))) (.cons (.var 1) .nil))))
def B_lfits : List S := [(.asg (.n 2) (.bi .len (.cons (.fld (.var 0) 2) .nil))), (.ite E_c1 [(.ret (.cst (.bool false)))] []), (.ite E_c2 [(.ret (.cst (.bool false)))] []), (.asg (.n 3) (.tup (.cons (.bin .fdiv (.var 2) (.fld (.var 0) 8)) (.cons (.bin .mod (.var 2) (.fld (.var 0) 8)) .nil)))), (.ret (.cmp .eq (.dgetD (.fld (.var 0) 9) (.var 3) (.var 1)) (.var 1)))]
def LFitsOk (φ : Fs) : Prop := ∀ (y : Ly) (p : List Nat) (es : Mem) (t : Nat), y.Ok → p.length ≤ 1000 → (∀ i ∈ p, i < y.ts.length) → t < y.ts.length → callF φ [y.me, .d (.int (t : Int))] (y.st p es) = .ok (.d (.bool (y.fit p t))) (y.st p es)
section
variable {Φ : Phi} {n : Nat} {β γ : Fs} {y : Ly} {p : List Nat} {es : Mem} {t : Nat} {o3 : Option W}
theorem at_iD {p : List Nat} {i : Nat} (h : i < p.length) : atD (p.map iD) (i : Int) = some (.int (gN p i : Nat)) := at_row h
theorem c1_run (hβ : Φ.mt 2 2 = some β) (Be : PairOk β besideB) (O : y.Ok) (hp : ∀ i ∈ p, i < y.ts.length) (ht : t < y.ts.length) : runE Φ E_c1 [some y.me, some (.d (.int (t : Int))), some (.d (.int (p.length : Nat))), o3] (y.st p es) = .ok (.d (.bool (!(decide (p.length % y.w = 0) || besideB y.ts (gN p (p.length - 1)) t)))) (y.st p es) := by
  have hwi : (0 : Int) < (y.w : Int) := by have := O.w1; omega
  have g1 := y.g1 p es
  have g2 := y.g2 p es
  by_cases hm : p.length % y.w = 0
  · have hm' : ((p.length : Int) % (y.w : Int)) = 0 := by exact_mod_cast hm
    simp [fldW, g1, Ly.ins, getN, b_mod hwi, hm, hm', see]
  · have hm' : 0 < ((p.length : Int) % (y.w : Int)) := by
      have : ((p.length % y.w : Nat) : Int) = (p.length : Int) % (y.w : Int) := by push_cast; rfl
      omega
    have h0 : 0 < p.length := by
      rcases Nat.eq_zero_or_pos p.length with h | h
      · rw [h] at hm; simp at hm
      · exact h
    have hj : p.length - 1 < p.length := by omega
    have e0 : ((p.length : Int) - 1) = ((p.length - 1 : Nat) : Int) := by omega
    have e1 := at_iD hj
    have e := Be y.ts (gN p (p.length - 1)) t (y.st p es) (getD_lt hp hj) ht
    simp [-List.map_map, fldW, g1, g2, Ly.ins, getN, b_mod hwi, hm, hm', see, e0, e1, clsOf, hβ, e]
theorem c2_run (hγ : Φ.mt 2 3 = some γ) (Bl : PairOk γ belowB) (O : y.Ok) (hp : ∀ i ∈ p, i < y.ts.length) (ht : t < y.ts.length) : runE Φ E_c2 [some y.me, some (.d (.int (t : Int))), some (.d (.int (p.length : Nat))), o3] (y.st p es) = .ok (.d (.bool (!(decide (p.length < y.w) || belowB y.ts (gN p (p.length - y.w)) t)))) (y.st p es) := by
  have g1 := y.g1 p es
  have g2 := y.g2 p es
  have w1 := O.w1
  by_cases hm : p.length < y.w
  · have hm' : ¬ (y.w : Int) ≤ (p.length : Int) := by omega
    have hm2 : ¬ y.w ≤ p.length := by omega
    simp [fldW, g1, Ly.ins, getN, hm, hm', hm2, see]
  · have hm' : (y.w : Int) ≤ (p.length : Int) := by omega
    have hm2 : y.w ≤ p.length := by omega
    have hj : p.length - y.w < p.length := by omega
    have e0 : ((p.length : Int) - (y.w : Int)) = ((p.length - y.w : Nat) : Int) := by omega
    have e1 := at_iD hj
    have e := Bl y.ts (gN p (p.length - y.w)) t (y.st p es) (getD_lt hp hj) ht
    simp [-List.map_map, fldW, g1, g2, Ly.ins, getN, hm, hm', hm2, see, e0, e1, clsOf, hγ, e]
def resF : Option Int → Int → Bool
  | none, _ => true
  | some u, t => decide (u = t)
theorem lfits_ret {s : List Cell} {i j c : Nat} {fs : List (Nat × W)} {kvs : List (PyData × PyData)} {key : PyData} {t : Int} {r : Option Int} {o2 : Option W} (h1 : s[i]? = some (.ins c fs)) (h9 : DM.getN 9 fs = some (.h j)) (h0 : s[j]? = some (.dct false kvs)) (ef : dGet false kvs key = some (r.map .int)) :
    runB Φ n [(.ret (.cmp .eq (.dgetD (.fld (.var 0) 9) (.var 3) (.var 1)) (.var 1)))] [some (.h i), some (.d (.int t)), o2, some (.d key)] s = .ok (.ret (.d (.bool (resF r t))), [some (.h i), some (.d (.int t)), o2, some (.d key)]) s := by
  cases r with
  | none => simp [fldW, h1, h9, see, dctOf, h0, getDW, ef, resF]
  | some u => simp [fldW, h1, h9, see, dctOf, h0, getDW, ef, resF]
theorem lfits_tail (O : y.Ok) : ∃ ρ', runB Φ n [(.asg (.n 3) (.tup (.cons (.bin .fdiv (.var 2) (.fld (.var 0) 8)) (.cons (.bin .mod (.var 2) (.fld (.var 0) 8)) .nil)))), (.ret (.cmp .eq (.dgetD (.fld (.var 0) 9) (.var 3) (.var 1)) (.var 1)))] [some y.me, some (.d (.int (t : Int))), some (.d (.int (p.length : Nat))), o3] (y.st p es) = .ok (.ret (.d (.bool (fixB y.f y.w p t))), ρ') (y.st p es) := by
  have g0 := y.g0 p es
  have g1 := y.g1 p es
  have w1 := O.w1
  have w2 := O.w2
  have hwi : (0 : Int) < (y.w : Int) := by omega
  have hdiv : divOk (y.w : Int) = true := by unfold divOk; simp; omega
  have z : (2 : Nat) ≤ sizeLine := by decide
  have ed : ((p.length : Int) / (y.w : Int)) = ((p.length / y.w : Nat) : Int) := by push_cast; rfl
  have em : ((p.length : Int) % (y.w : Int)) = ((p.length % y.w : Nat) : Int) := by push_cast; rfl
  have e1 : runS Φ n (.asg (.n 3) (.tup (.cons (.bin .fdiv (.var 2) (.fld (.var 0) 8)) (.cons (.bin .mod (.var 2) (.fld (.var 0) 8)) .nil)))) [some y.me, some (.d (.int (t : Int))), some (.d (.int (p.length : Nat))), o3] (y.st p es) = .ok (.nx, [some y.me, some (.d (.int (t : Int))), some (.d (.int (p.length : Nat))), some (.d (.tuple [.int ((p.length : Int) / (y.w : Int)), .int ((p.length : Int) % (y.w : Int))]))]) (y.st p es) := by
    refine set_n ?_
    simp [fldW, g1, Ly.ins, getN, b_mod hwi, b_div hdiv, see, frzsR, frzAll, frz, z]
  rw [step1 e1]
  have ef := O.fx (p.length / y.w) (p.length % y.w)
  rw [← ed, ← em] at ef
  have hv : resF ((y.f (p.length / y.w) (p.length % y.w)).map fun u => (u : Int)) (t : Int) = fixB y.f y.w p t := by
    unfold fixB
    cases hf : y.f (p.length / y.w) (p.length % y.w) with
    | none => rfl
    | some u =>
      by_cases h : u = t
      · subst h; simp [resF]
      · have h' : ¬ (u : Int) = (t : Int) := by omega
        simp [resF, h, h']
  have ee := lfits_ret (Φ := Φ) (n := n) (t := (t : Int)) (o2 := some (.d (.int (p.length : Nat)))) (r := (y.f (p.length / y.w) (p.length % y.w)).map fun u => (u : Int)) g1 rfl g0 (by rw [ef]; cases y.f (p.length / y.w) (p.length % y.w) <;> rfl)
  rw [hv] at ee
  exact ⟨_, ee⟩
theorem lfits_ok (hβ : Φ.mt 2 2 = some β) (Be : PairOk β besideB) (hγ : Φ.mt 2 3 = some γ) (Bl : PairOk γ belowB) : LFitsOk (.m 2 (gM Φ n B_lfits 4 0)) := fun y p es t O hl hp ht => by
  have sp : sizeLine = 16777216 := by decide
  have e0 : runS Φ n (.asg (.n 2) (.bi .len (.cons (.fld (.var 0) 2) .nil))) (startE 4 [y.me, .d (.int (t : Int))]) (y.st p es) = .ok (.nx, [some y.me, some (.d (.int (t : Int))), some (.d (.int (p.length : Nat))), none]) (y.st p es) := by
    have g1 := y.g1 p es
    have g2 := y.g2 p es
    simp [startE, fldW, g1, g2, Ly.ins, getN, see, seeAll, asgT]
  have e1 := c1_run (o3 := none) (es := es) hβ Be O hp ht
  have e2 := c2_run (o3 := none) (es := es) hγ Bl O hp ht
  have key : ∃ ρ', runB Φ n B_lfits (startE 4 [y.me, .d (.int (t : Int))]) (y.st p es) = .ok (.ret (.d (.bool (y.fit p t))), ρ') (y.st p es) := by
    unfold B_lfits
    rw [step1 e0]
    have hfit : y.fit p t = ((decide (p.length % y.w = 0) || besideB y.ts (gN p (p.length - 1)) t) && (decide (p.length < y.w) || belowB y.ts (gN p (p.length - y.w)) t) && fixB y.f y.w p t) := rfl
    rw [hfit]
    cases b1 : (decide (p.length % y.w = 0) || besideB y.ts (gN p (p.length - 1)) t) with
    | false =>
      rw [b1] at e1
      rw [rB_cons, ite_T e1]
      exact ⟨_, rfl⟩
    | true =>
      rw [b1] at e1
      rw [rB_cons, ite_F e1]
      rw [show runB Φ n [] [some y.me, some (.d (.int (t : Int))), some (.d (.int (p.length : Nat))), none] (y.st p es) = .ok (.nx, [some y.me, some (.d (.int (t : Int))), some (.d (.int (p.length : Nat))), none]) (y.st p es) from Eq.trans rfl rfl, R.sq_nx]
      cases b2 : (decide (p.length < y.w) || belowB y.ts (gN p (p.length - y.w)) t) with
      | false =>
        rw [b2] at e2
        rw [rB_cons, ite_T e2]
        exact ⟨_, rfl⟩
      | true =>
        rw [b2] at e2
        rw [rB_cons, ite_F e2]
        rw [show runB Φ n [] [some y.me, some (.d (.int (t : Int))), some (.d (.int (p.length : Nat))), none] (y.st p es) = .ok (.nx, [some y.me, some (.d (.int (t : Int))), some (.d (.int (p.length : Nat))), none]) (y.st p es) from Eq.trans rfl rfl, R.sq_nx]
        obtain ⟨ρ', e⟩ := lfits_tail (Φ := Φ) (n := n) (y := y) (p := p) (es := es) (t := t) (o3 := none) O
        exact ⟨ρ', e⟩
  obtain ⟨ρ', e⟩ := key
  exact callM rfl e rfl (y.closed p es O)
end
end DM

set_option maxRecDepth 100000
/-! P3: Laying: going on. -/
namespace DM
open PySem
/-- a loop that may end the def, by what is done -/
theorem forK_or {β : Type} {Φ : Phi} {n : Nat} {t : Tg} {b : List S} (d : β → PyData) (I : List β → Env → List Cell → Prop) (w : W) (Fin : List β → β → List Cell → Prop) : ∀ (xs done : List β) (ρ : Env) (s : List Cell), I done ρ s →
    (∀ pre x post ρ s, done ++ xs = pre ++ x :: post → I pre ρ s → ∃ ρ1, asgT ρ t (.d (d x)) = some ρ1 ∧ ((∃ ρ' s', (runB Φ n b ρ1 s = .ok (.nx, ρ') s' ∨ runB Φ n b ρ1 s = .ok (.ct, ρ') s') ∧ I (pre ++ [x]) ρ' s') ∨ (∃ ρ' s', runB Φ n b ρ1 s = .ok (.ret w, ρ') s' ∧ Fin pre x s'))) →
    (∃ ρ' s', forK Φ n t b (xs.map d) ρ s = .ok (.nx, ρ') s' ∧ I (done ++ xs) ρ' s') ∨ (∃ pre x post ρ' s', done ++ xs = pre ++ x :: post ∧ forK Φ n t b (xs.map d) ρ s = .ok (.ret w, ρ') s' ∧ Fin pre x s')
  | [], done, ρ, s, h, _ => .inl ⟨ρ, s, rfl, by simpa using h⟩
  | x :: xs, done, ρ, s, h, st => by
    obtain ⟨ρ1, e1, e2 | e2⟩ := st done x xs ρ s rfl h
    · obtain ⟨ρ', s', e2, h'⟩ := e2
      have eq : forK Φ n t b ((x :: xs).map d) ρ s = forK Φ n t b (xs.map d) ρ' s' := by
        rw [List.map_cons, forK_cons, e1]
        rcases e2 with e2 | e2 <;> simp only [e2, R.lp_nx, R.lp_ct]
      rw [eq]
      have a : done ++ x :: xs = (done ++ [x]) ++ xs := by simp
      rw [a]
      exact forK_or d I w Fin xs (done ++ [x]) ρ' s' h' (by rw [← a]; exact st)
    · obtain ⟨ρ', s', e2, h'⟩ := e2
      refine .inr ⟨done, x, xs, ρ', s', rfl, ?_, h'⟩
      rw [List.map_cons, forK_cons, e1]
      simp only [e2, R.lp_ret]
abbrev E_key : E := .tup (.cons (.var 1) (.cons (.tupOf (.slc (.fld (.var 0) 2) (.some (.bi .max2 (.cons (.cst (.int 0)) (.cons (.bin .sub (.var 1) (.fld (.var 0) 8)) .nil)))) .none)) .nil))
abbrev B_lgTile (v : Nat) : List S := [(.ite (.meth (.var 0) 6 (.cons (.var v) .nil)) [(.ex (.app (.fld (.var 0) 2) (.var v))), (.ite (.meth (.var 0) 7 .nil) [(.ret (.cst (.bool true)))] []), (.ex (.pop (.fld (.var 0) 2)))] [])]
def B_lgoes : List S := [(.asg (.n 1) (.bi .len (.cons (.fld (.var 0) 2) .nil))), (.ite (.cmp .eq (.var 1) (.bin .mul (.fld (.var 0) 7) (.fld (.var 0) 8))) [(.ret (.cst (.bool true)))] []), (.asg (.n 2) E_key), (.ite (.din false (.var 2) (.fld (.var 0) 10)) [(.ret (.cst (.bool false)))] []), (.for (.n 3) (.rng1 (.meth (.fld (.var 0) 6) 1 .nil)) (B_lgTile 3)), (.setD (.fld (.var 0) 10) (.var 2) (.cst (.bool true))), (.ret (.cst (.bool false)))]
section
variable {Φ : Phi} {n : Nat} {y : Ly} {p : List Nat} {es : Mem} {t v : Nat} {ρ : Env}
theorem ly_cls : clsOf (y.st p es) y.me = some y.c := by simp [clsOf, y.g1 p es, Ly.ins]
theorem ly_row (h0 : ρ[0]? = some (some y.me)) : runE Φ (.fld (.var 0) 2) ρ (y.st p es) = .ok (.h (y.pre.length + 2)) (y.st p es) := by
  simp [h0, fldW, y.g1 p es, Ly.ins, getN]
theorem app_run (h0 : ρ[0]? = some (some y.me)) (hv : ρ[v]? = some (some (.d (.int (t : Int))))) (hl : p.length < 100000) : runE Φ (.app (.fld (.var 0) 2) (.var v)) ρ (y.st p es) = .ok (.d .none) (y.st (p ++ [t]) es) := by
  have sp : sizeLine = 16777216 := by decide
  have g2 := y.g2 p es
  have e := ly_row (Φ := Φ) (p := p) (es := es) h0
  have l : (p.map iD).length < sizeLine := by rw [List.length_map]; omega
  have hs := y.s2 p es (p ++ [t])
  rw [List.map_append] at hs
  rw [rE_app, e]
  simp only [R.bind_ok, isL, see, g2, if_true, rE_var, hv, frzR, frz, appW, l]
  exact congrArg _ hs
theorem pop_run (h0 : ρ[0]? = some (some y.me)) : runE Φ (.pop (.fld (.var 0) 2)) ρ (y.st (p ++ [t]) es) = .ok (.d (.int (t : Int))) (y.st p es) := by
  have g2 := y.g2 (p ++ [t]) es
  have e := ly_row (Φ := Φ) (p := p ++ [t]) (es := es) h0
  have hs := y.s2 (p ++ [t]) es p
  rw [rE_pop, e]
  simp only [R.bind_ok, popW, g2]
  rw [List.map_append]
  simp only [List.map_cons, List.map_nil]
  simp [-List.map_append]
  exact hs
theorem tile_no {φ6 : Fs} (h0 : ρ[0]? = some (some y.me)) (hv : ρ[v]? = some (some (.d (.int (t : Int))))) (h6 : Φ.mt y.c 6 = some φ6) (e : callF φ6 [y.me, .d (.int (t : Int))] (y.st p es) = .ok (.d (.bool false)) (y.st p es)) : runB Φ n (B_lgTile v) ρ (y.st p es) = .ok (.nx, ρ) (y.st p es) := by
  have ec : runE Φ (.meth (.var 0) 6 (.cons (.var v) .nil)) ρ (y.st p es) = .ok (.d (.bool false)) (y.st p es) := by
    rw [rE_meth]
    simp only [rE_var, h0, R.bind_ok, ly_cls, h6, rEs_cons, rEs_nil, hv]
    exact e
  rw [rB_cons, ite_F ec]
  exact Eq.trans rfl rfl
theorem tile_goes {φ6 φ7 : Fs} (h0 : ρ[0]? = some (some y.me)) (hv : ρ[v]? = some (some (.d (.int (t : Int))))) (hl : p.length < 100000) (h6 : Φ.mt y.c 6 = some φ6) (e : callF φ6 [y.me, .d (.int (t : Int))] (y.st p es) = .ok (.d (.bool true)) (y.st p es))
    (h7 : Φ.mt y.c 7 = some φ7) {b : Bool} {s' : List Cell} (e2 : callF φ7 [y.me] (y.st (p ++ [t]) es) = .ok (.d (.bool b)) s') : runB Φ n (B_lgTile v) ρ (y.st p es) = if b then .ok (.ret (.d (.bool true)), ρ) s' else runB Φ n [(.ex (.pop (.fld (.var 0) 2)))] ρ s' := by
  have ec : runE Φ (.meth (.var 0) 6 (.cons (.var v) .nil)) ρ (y.st p es) = .ok (.d (.bool true)) (y.st p es) := by
    rw [rE_meth]
    simp only [rE_var, h0, R.bind_ok, ly_cls, h6, rEs_cons, rEs_nil, hv]
    exact e
  have ea := app_run (Φ := Φ) (es := es) h0 hv hl
  have eb : runE Φ (.meth (.var 0) 7 .nil) ρ (y.st (p ++ [t]) es) = .ok (.d (.bool b)) s' := by
    rw [rE_meth]
    simp only [rE_var, h0, R.bind_ok, ly_cls, h7, rEs_nil]
    exact e2
  have e1 : runS Φ n (.ex (.app (.fld (.var 0) 2) (.var v))) ρ (y.st p es) = .ok (.nx, ρ) (y.st (p ++ [t]) es) := by rw [rS_ex, ea]; rfl
  have e3 : runB Φ n [(.ex (.app (.fld (.var 0) 2) (.var v))), (.ite (.meth (.var 0) 7 .nil) [(.ret (.cst (.bool true)))] []), (.ex (.pop (.fld (.var 0) 2)))] ρ (y.st p es) = if b then .ok (.ret (.d (.bool true)), ρ) s' else runB Φ n [(.ex (.pop (.fld (.var 0) 2)))] ρ s' := by
    rw [step1 e1]
    cases b with
    | true => rw [rB_cons, ite_T eb]; exact Eq.trans rfl rfl
    | false => rw [rB_cons, ite_F eb]; exact Eq.trans rfl rfl
  rw [rB_cons, ite_T ec, e3]
  cases b with
  | true => exact Eq.trans rfl rfl
  | false =>
    simp only [Bool.false_eq_true, if_false]
    cases runB Φ n [(.ex (.pop (.fld (.var 0) 2)))] ρ s' with
    | ok q s =>
      obtain ⟨o, ρ'⟩ := q
      cases o <;> exact Eq.trans rfl rfl
    | _ => rfl
theorem tile_back (h0 : ρ[0]? = some (some y.me)) : runB Φ n [(.ex (.pop (.fld (.var 0) 2)))] ρ (y.st (p ++ [t]) es) = .ok (.nx, ρ) (y.st p es) := by
  rw [rB_cons, rS_ex, pop_run h0]
  exact Eq.trans rfl rfl
theorem key_run {o2 o3 : Option W} (hl : p.length ≤ 1000) : runE Φ E_key [some y.me, some (.d (.int (p.length : Nat))), o2, o3] (y.st p es) = .ok (.d (keyD (keyOf y.w p))) (y.st p es) := by
  have g1 := y.g1 p es
  have g2 := y.g2 p es
  have z : (2 : Nat) ≤ sizeLine := by decide
  have em : biD .max2 [.int 0, .int ((p.length : Int) - (y.w : Int))] = some (.int ((p.length - y.w : Nat) : Int)) := by
    show some (PyData.int (if ((p.length : Int) - (y.w : Int)) > 0 then ((p.length : Int) - (y.w : Int)) else 0)) = _
    congr 2
    split <;> omega
  have e : runE Φ (.tupOf (.slc (.fld (.var 0) 2) (.some (.bi .max2 (.cons (.cst (.int 0)) (.cons (.bin .sub (.var 1) (.fld (.var 0) 8)) .nil)))) .none)) [some y.me, some (.d (.int (p.length : Nat))), o2, o3] (y.st p es) = .ok (.d (.tuple ((lastW y.w p).map iD))) (y.st p es) := by
    simp [-List.map_map, -List.map_drop, fldW, g1, g2, Ly.ins, getN, see, seeAll, em, cut_from]
    unfold lastW
    rw [List.map_drop]
  unfold E_key
  generalize (E.tupOf (.slc (.fld (.var 0) 2) (.some (.bi .max2 (.cons (.cst (.int 0)) (.cons (.bin .sub (.var 1) (.fld (.var 0) 8)) .nil)))) .none)) = X at e ⊢
  have h1 : runEs Φ (.cons X .nil) [some y.me, some (.d (.int (p.length : Nat))), o2, o3] (y.st p es) = .ok [.d (.tuple ((lastW y.w p).map iD))] (y.st p es) := by rw [rEs_cons, e]; rfl
  have h2 : runEs Φ (.cons (.var 1) (.cons X .nil)) [some y.me, some (.d (.int (p.length : Nat))), o2, o3] (y.st p es) = .ok [.d (.int (p.length : Nat)), .d (.tuple ((lastW y.w p).map iD))] (y.st p es) := by
    rw [rEs_cons, rE_var]
    show (runEs Φ (.cons X .nil) _ _).bind _ = _
    rw [h1]; rfl
  rw [rE_tup, h2]
  simp [frzsR, frzAll, frz, z, keyD, keyOf]
/-! ### goes -/
def Dead (y : Ly) (p : List Nat) (_ : PyData) : Prop := compl y.fit y.ts.length (y.h * y.w - p.length) p = []
abbrev LMem (y : Ly) (es : Mem) : Prop := MemOk y.ts.length y.w (y.h * y.w) (Dead y) es
def LGoesOk (φ : Fs) (c k : Nat) : Prop := ∀ (y : Ly) (p : List Nat) (es : Mem), y.c = c → y.Ok → p.length + k = y.h * y.w → (∀ i ∈ p, i < y.ts.length) → LMem y es →
  ∃ new, LMem y (es ++ new) ∧ (∀ q ∈ new, p.length ≤ q.1.1) ∧ callF φ [y.me] (y.st p es) = .ok (.d (.bool (!(compl y.fit y.ts.length k p).isEmpty))) (y.st ((compl y.fit y.ts.length k p).head?.getD p) (es ++ new))
theorem lg_head {S3 : List S} (O : y.Ok) {L : Nat} (hL : y.h * y.w = L) : runB Φ n ((.asg (.n 1) (.bi .len (.cons (.fld (.var 0) 2) .nil))) :: (.ite (.cmp .eq (.var 1) (.bin .mul (.fld (.var 0) 7) (.fld (.var 0) 8))) [(.ret (.cst (.bool true)))] []) :: S3) (startE 4 [y.me]) (y.st p es) =
    if p.length = L then .ok (.ret (.d (.bool true)), [some y.me, some (.d (.int (p.length : Nat))), none, none]) (y.st p es) else runB Φ n S3 [some y.me, some (.d (.int (p.length : Nat))), none, none] (y.st p es) := by
  have g1 := y.g1 p es
  have g2 := y.g2 p es
  have w2 := O.w2
  have hm : mulOk (y.h : Int) (y.w : Int) = true := mulR _ ⟨by omega, by omega⟩
  have e1 : runS Φ n (.asg (.n 1) (.bi .len (.cons (.fld (.var 0) 2) .nil))) (startE 4 [y.me]) (y.st p es) = .ok (.nx, [some y.me, some (.d (.int (p.length : Nat))), none, none]) (y.st p es) := by
    simp [startE, fldW, g1, g2, Ly.ins, getN, see, seeAll, asgT]
  have em : ((y.h : Int) * (y.w : Int)) = (L : Int) := by rw [← hL]; push_cast; rfl
  have ec : runE Φ (.cmp .eq (.var 1) (.bin .mul (.fld (.var 0) 7) (.fld (.var 0) 8))) [some y.me, some (.d (.int (p.length : Nat))), none, none] (y.st p es) = .ok (.d (.bool (decide ((p.length : Int) = (L : Int))))) (y.st p es) := by
    simp [fldW, g1, Ly.ins, getN, see, b_mul hm, em]
  rw [step1 e1]
  by_cases h : p.length = L
  · have : ((p.length : Int) = (L : Int)) := by omega
    rw [decide_eq_true this] at ec
    rw [if_pos h, rB_cons, ite_T ec]
    exact Eq.trans rfl rfl
  · have : ¬ ((p.length : Int) = (L : Int)) := by omega
    rw [decide_eq_false this] at ec
    rw [if_neg h, rB_cons, ite_F ec]
    exact Eq.trans rfl rfl
theorem lg_rng {μ : Fs} (hμ : Φ.mt 2 1 = some μ) (Mn : ManyOk μ) (O : y.Ok) (h0 : ρ[0]? = some (some y.me)) : runI Φ (.rng1 (.meth (.fld (.var 0) 6) 1 .nil)) ρ (y.st p es) = .ok ((List.range y.ts.length).map iD) (y.st p es) := by
  have g1 := y.g1 p es
  have sp : sizeLine = 16777216 := by decide
  have t2 := O.t2
  have hsm : smallI (y.ts.length : Int) = true := smallI_len (by omega)
  have e := Mn y.ts (y.st p es)
  rw [← rng_map]
  simp [-List.map_map, h0, fldW, g1, Ly.ins, getN, clsOf, hμ, e, hsm]
theorem lgoes_0 (c : Nat) : LGoesOk (.m 1 (gM Φ n B_lgoes 4 0)) c 0 := fun y p es _ O hk hp M => by
  refine ⟨[], by simpa using M, by simp, ?_⟩
  have e := lg_head (Φ := Φ) (n := n) (p := p) (es := es) (S3 := [(.asg (.n 2) E_key), (.ite (.din false (.var 2) (.fld (.var 0) 10)) [(.ret (.cst (.bool false)))] []), (.for (.n 3) (.rng1 (.meth (.fld (.var 0) 6) 1 .nil)) (B_lgTile 3)), (.setD (.fld (.var 0) 10) (.var 2) (.cst (.bool true))), (.ret (.cst (.bool false)))]) O rfl
  rw [if_pos (by omega)] at e
  have := callM (Φ := Φ) (n := n) (k := 1) (b := B_lgoes) (N := 4) (ws := [y.me]) rfl e rfl (y.closed p es O)
  simpa [compl] using this
theorem lg_din {o3 : Option W} : runE Φ (.din false (.var 2) (.fld (.var 0) 10)) [some y.me, some (.d (.int (p.length : Nat))), some (.d (keyD (keyOf y.w p))), o3] (y.st p es) = .ok (.d (.bool (look es (keyOf y.w p)).isSome)) (y.st p es) := by
  have g1 := y.g1 p es
  have g3 := y.g3 p es
  have e := get_mem es (keyOf y.w p)
  simp [fldW, g1, Ly.ins, getN, getDW, dctOf, g3, see, e]
theorem lg_set {o3 : Option W} (h : look es (keyOf y.w p) = none) (hl : es.length < sizeLine) : runS Φ n (.setD (.fld (.var 0) 10) (.var 2) (.cst (.bool true))) [some y.me, some (.d (.int (p.length : Nat))), some (.d (keyD (keyOf y.w p))), o3] (y.st p es) = .ok (.nx, [some y.me, some (.d (.int (p.length : Nat))), some (.d (keyD (keyOf y.w p))), o3]) (y.st p (es ++ [(keyOf y.w p, .bool true)])) := by
  have g1 := y.g1 p es
  have g3 := y.g3 p es
  have e := put_mem (.bool true) h
  have s3 := y.s3 p es (es ++ [(keyOf y.w p, .bool true)])
  have hl' : (memD es).length < sizeLine := by unfold memD; rw [List.length_map]; exact hl
  simp [fldW, g1, Ly.ins, getN, putDW, g3, e, frzR, frz, hl', s3]
theorem lgoes_s {c k : Nat} {φ6 φ7 μ : Fs} (hμ : Φ.mt 2 1 = some μ) (Mn : ManyOk μ) (h6 : Φ.mt c 6 = some φ6) (Lf : LFitsOk φ6) (h7 : Φ.mt c 7 = some φ7) (Lg : LGoesOk φ7 c k) : LGoesOk (.m 1 (gM Φ n B_lgoes 4 0)) c (k + 1) := fun y p es hc O hk hp M => by
  subst hc
  have w0 : 0 < y.w := O.w1
  have hB : y.h * y.w ≤ 144 := by have := Nat.mul_le_mul O.h2 O.w2; omega
  have e := lg_head (Φ := Φ) (n := n) (p := p) (es := es) (S3 := [(.asg (.n 2) E_key), (.ite (.din false (.var 2) (.fld (.var 0) 10)) [(.ret (.cst (.bool false)))] []), (.for (.n 3) (.rng1 (.meth (.fld (.var 0) 6) 1 .nil)) (B_lgTile 3)), (.setD (.fld (.var 0) 10) (.var 2) (.cst (.bool true))), (.ret (.cst (.bool false)))]) O rfl
  rw [if_neg (by omega)] at e
  have e2 : runS Φ n (.asg (.n 2) E_key) [some y.me, some (.d (.int (p.length : Nat))), none, none] (y.st p es) = .ok (.nx, [some y.me, some (.d (.int (p.length : Nat))), some (.d (keyD (keyOf y.w p))), none]) (y.st p es) := set_n (key_run (by omega))
  rw [step1 e2] at e
  have ed := lg_din (Φ := Φ) (y := y) (p := p) (es := es) (o3 := none)
  have hdef : compl y.fit y.ts.length (k + 1) p = (List.range y.ts.length).flatMap fun t => if y.fit p t then compl y.fit y.ts.length k (p ++ [t]) else [] := rfl
  cases hlk : look es (keyOf y.w p) with
  | some v =>
    rw [hlk] at ed
    have h3 : runB Φ n ((.ite (.din false (.var 2) (.fld (.var 0) 10)) [(.ret (.cst (.bool false)))] []) :: [(.for (.n 3) (.rng1 (.meth (.fld (.var 0) 6) 1 .nil)) (B_lgTile 3)), (.setD (.fld (.var 0) 10) (.var 2) (.cst (.bool true))), (.ret (.cst (.bool false)))]) [some y.me, some (.d (.int (p.length : Nat))), some (.d (keyD (keyOf y.w p))), none] (y.st p es) = .ok (.ret (.d (.bool false)), [some y.me, some (.d (.int (p.length : Nat))), some (.d (keyD (keyOf y.w p))), none]) (y.st p es) := by
      rw [rB_cons, ite_T ed]; exact Eq.trans rfl rfl
    obtain ⟨q, a, hv⟩ := M.hit hlk
    have hv : compl y.fit y.ts.length (y.h * y.w - q.length) q = [] := hv
    have hd : compl y.fit y.ts.length (k + 1) p = [] := by
      have := compl_alike (local_fitX y.ts w0 y.f) (T := y.ts.length) (k := k + 1) a
      rw [a.1, show y.h * y.w - p.length = k + 1 by omega] at hv
      rw [show compl (fitX y.ts y.w y.f) y.ts.length (k + 1) q = [] from hv] at this
      exact List.length_eq_zero_iff.mp this.symm
    refine ⟨[], by simpa using M, by simp, ?_⟩
    have := callM (Φ := Φ) (n := n) (k := 1) (b := B_lgoes) (N := 4) (ws := [y.me]) rfl (e.trans h3) rfl (y.closed p es O)
    rw [hd]
    simpa using this
  | none =>
    rw [hlk] at ed
    have h3 : runB Φ n ((.ite (.din false (.var 2) (.fld (.var 0) 10)) [(.ret (.cst (.bool false)))] []) :: [(.for (.n 3) (.rng1 (.meth (.fld (.var 0) 6) 1 .nil)) (B_lgTile 3)), (.setD (.fld (.var 0) 10) (.var 2) (.cst (.bool true))), (.ret (.cst (.bool false)))]) [some y.me, some (.d (.int (p.length : Nat))), some (.d (keyD (keyOf y.w p))), none] (y.st p es) = runB Φ n [(.for (.n 3) (.rng1 (.meth (.fld (.var 0) 6) 1 .nil)) (B_lgTile 3)), (.setD (.fld (.var 0) 10) (.var 2) (.cst (.bool true))), (.ret (.cst (.bool false)))] [some y.me, some (.d (.int (p.length : Nat))), some (.d (keyD (keyOf y.w p))), none] (y.st p es) := by
      rw [rB_cons, ite_F ed]; exact Eq.trans rfl rfl
    have e' : runB Φ n B_lgoes (startE 4 [y.me]) (y.st p es) = runB Φ n [(.for (.n 3) (.rng1 (.meth (.fld (.var 0) 6) 1 .nil)) (B_lgTile 3)), (.setD (.fld (.var 0) 10) (.var 2) (.cst (.bool true))), (.ret (.cst (.bool false)))] [some y.me, some (.d (.int (p.length : Nat))), some (.d (keyD (keyOf y.w p))), none] (y.st p es) := e.trans h3
    have eI := lg_rng (ρ := [some y.me, some (.d (.int (p.length : Nat))), some (.d (keyD (keyOf y.w p))), none]) (p := p) (es := es) hμ Mn O rfl
    have L := forK_or (Φ := Φ) (n := n) (t := .n 3) (b := B_lgTile 3) iD
      (fun pre ρ s => ∃ o3 new, ρ = [some y.me, some (.d (.int (p.length : Nat))), some (.d (keyD (keyOf y.w p))), o3] ∧ s = y.st p (es ++ new) ∧ LMem y (es ++ new) ∧ (∀ q ∈ new, p.length + 1 ≤ q.1.1) ∧ (pre.flatMap fun t => if y.fit p t then compl y.fit y.ts.length k (p ++ [t]) else []) = [])
      (.d (.bool true))
      (fun pre t s => ∃ new q, s = y.st q (es ++ new) ∧ LMem y (es ++ new) ∧ (∀ q ∈ new, p.length + 1 ≤ q.1.1) ∧ (pre.flatMap fun t => if y.fit p t then compl y.fit y.ts.length k (p ++ [t]) else []) = [] ∧ y.fit p t = true ∧ (compl y.fit y.ts.length k (p ++ [t])).head? = some q)
      (List.range y.ts.length) [] [some y.me, some (.d (.int (p.length : Nat))), some (.d (keyD (keyOf y.w p))), none] (y.st p es)
      ⟨none, [], rfl, by simp, by simpa using M, by simp, rfl⟩
      fun pre t post ρ s ep ⟨o3, new, hρ, hs, hM, hn, hz⟩ => by
        subst hρ hs
        have ht : t < y.ts.length := List.mem_range.mp (pre_mem (by simpa using ep))
        refine ⟨[some y.me, some (.d (.int (p.length : Nat))), some (.d (keyD (keyOf y.w p))), some (.d (.int (t : Int)))], rfl, ?_⟩
        have ef := Lf y p (es ++ new) t O (by omega) hp ht
        cases hf : y.fit p t with
        | false =>
          rw [hf] at ef
          refine .inl ⟨_, _, .inl (tile_no rfl rfl h6 ef), some (.d (.int (t : Int))), new, rfl, rfl, hM, hn, ?_⟩
          rw [List.flatMap_append, hz]
          simp [hf]
        | true =>
          rw [hf] at ef
          obtain ⟨nw, hM2, hn2, eg⟩ := Lg y (p ++ [t]) (es ++ new) rfl O (by simp; omega) (fun i hi => by
            rcases List.mem_append.mp hi with hi | hi
            · exact hp i hi
            · rw [List.mem_singleton] at hi; subst hi; exact ht) hM
          rw [List.append_assoc] at eg hM2
          have hn3 : ∀ q ∈ new ++ nw, p.length + 1 ≤ q.1.1 := fun q hq => by
            rcases List.mem_append.mp hq with hq | hq
            · exact hn q hq
            · have := hn2 q hq; simpa using this
          have et := tile_goes (n := n) (v := 3) (ρ := [some y.me, some (.d (.int (p.length : Nat))), some (.d (keyD (keyOf y.w p))), some (.d (.int (t : Int)))]) rfl rfl (by omega) h6 ef h7 eg
          cases hcm : compl y.fit y.ts.length k (p ++ [t]) with
          | nil =>
            rw [hcm] at et
            refine .inl ⟨_, _, .inl (et.trans (tile_back rfl)), some (.d (.int (t : Int))), new ++ nw, rfl, rfl, hM2, hn3, ?_⟩
            rw [List.flatMap_append, hz]
            simp [hf, hcm]
          | cons q qs =>
            rw [hcm] at et
            exact .inr ⟨_, _, et, new ++ nw, q, rfl, hM2, hn3, hz, rfl, rfl⟩
    rcases L with ⟨ρ', s', ef, o3, new, hρ, hs, hM, hn, hz⟩ | ⟨pre, t, post, ρ', s', ep, ef, new, q, hs, hM, hn, hz, hf, hq⟩
    · subst hρ hs
      have hz : compl y.fit y.ts.length (k + 1) p = [] := hz
      have hlk' : look (es ++ new) (keyOf y.w p) = none := look_none fun q hq e => by
        rcases List.mem_append.mp hq with hq | hq
        · exact none_look hlk q hq e
        · have := hn q hq
          rw [e] at this
          have : p.length + 1 ≤ p.length := this
          omega
      have hlen : (es ++ new).length < sizeLine := by
        have sp : sizeLine = 16777216 := by decide
        have h1 := hM.len O.t1
        have h2 := O.sz
        omega
      have es3 := lg_set (Φ := Φ) (n := n) (o3 := o3) hlk' hlen
      refine ⟨new ++ [(keyOf y.w p, .bool true)], ?_, ?_, ?_⟩
      · rw [← List.append_assoc]
        exact hM.put hlk' (by omega) hp (by show compl _ _ (y.h * y.w - p.length) p = []; rw [show y.h * y.w - p.length = k + 1 by omega]; exact hz)
      · intro q hq
        rcases List.mem_append.mp hq with hq | hq
        · have := hn q hq; omega
        · have : q = (keyOf y.w p, .bool true) := by simpa using hq
          subst this
          exact Nat.le_refl _
      · rw [hz, ← List.append_assoc]
        refine callM (Φ := Φ) (n := n) (k := 1) (b := B_lgoes) (N := 4) (ws := [y.me]) (ρ' := [some y.me, some (.d (.int (p.length : Nat))), some (.d (keyD (keyOf y.w p))), o3]) rfl ?_ (by rw [Ly.len, Ly.len]) (y.closed p _ O)
        rw [e', rB_cons, rS_for, eI, forS_ok, ef, R.sq_nx, step1 es3]
        exact Eq.trans rfl rfl
    · subst hs
      have hc : compl y.fit y.ts.length (k + 1) p = compl y.fit y.ts.length k (p ++ [t]) ++ post.flatMap fun t => if y.fit p t then compl y.fit y.ts.length k (p ++ [t]) else [] := by
        rw [hdef, show List.range y.ts.length = pre ++ t :: post from by simpa using ep, List.flatMap_append, hz, List.flatMap_cons, hf]
        simp
      have hh : (compl y.fit y.ts.length (k + 1) p).head? = some q := by rw [hc, List.head?_append, hq]; rfl
      refine ⟨new, hM, fun r hr => by have := hn r hr; omega, ?_⟩
      have hne : (compl y.fit y.ts.length (k + 1) p).isEmpty = false := by
        cases hcc : compl y.fit y.ts.length (k + 1) p with
        | nil => rw [hcc] at hh; cases hh
        | cons _ _ => rfl
      rw [hh, hne]
      refine callM (Φ := Φ) (n := n) (k := 1) (b := B_lgoes) (N := 4) (ws := [y.me]) (ρ' := ρ') rfl ?_ (by rw [Ly.len, Ly.len]) (y.closed _ _ O)
      rw [e', rB_cons, rS_for, eI, forS_ok, ef]
      exact Eq.trans rfl rfl
end
end DM

set_option maxRecDepth 100000
/-! P4: Laying: rows, the making; laid. -/
namespace DM
open PySem
abbrev E_lrow : E := .tupOf (.slc (.fld (.var 0) 2) (.some (.bin .mul (.var 1) (.fld (.var 0) 8))) (.some (.bin .add (.bin .mul (.var 1) (.fld (.var 0) 8)) (.fld (.var 0) 8))))
def B_lrows : List S := [(.ret (.th (.comp (.rng1 (.fld (.var 0) 7)) (.n 1) [1] .none E_lrow)))]
def LRowsOk (φ : Fs) : Prop := ∀ (y : Ly) (p : List Nat) (es : Mem), y.Ok → callX φ [y.me] (y.st p es) = .ok (.l ((rowsOf y.h y.w p).map rowD)) (y.st p es)
/-- a method that ends with a new list -/
theorem callMF {Φ : Phi} {n k : Nat} {b : List S} {N : Nat} {ws : List W} {s : List Cell} {l : List PyData} {ρ' : Env} (hl : ws.length = k) (e : runB Φ n b (startE N ws) s = .ok (.ret (.h s.length), ρ') (s ++ [.lst l])) (hc : closedS s.length s = true) : callX (.m k (gM Φ n b N 0)) ws s = .ok (.l l) s := by
  have ht : (s ++ [Cell.lst l]).take (s.length + 0) = s := by simp
  unfold callX
  simp only [hl, if_pos, gM, e, endM, finM, ht]
  rw [Nat.add_zero, hc]
  simp
section
variable {Φ : Phi} {n : Nat} {y : Ly} {p : List Nat} {es : Mem} {t : Nat}
theorem lrow_run {k : Nat} (O : y.Ok) : runE Φ E_lrow [some y.me, some (.d (.int (k : Int)))] (y.st p es) = .ok (.d (rowD ((p.drop (k * y.w)).take y.w))) (y.st p es) := by
  have g1 := y.g1 p es
  have g2 := y.g2 p es
  have w2 := O.w2
  have hm : mulOk (k : Int) (y.w : Int) = true := mulR _ ⟨by omega, by omega⟩
  have c : cut (p.map iD) (some ((k : Int) * (y.w : Int))) (some ((k : Int) * (y.w : Int) + (y.w : Int))) = ((p.drop (k * y.w)).take y.w).map iD := by
    have c1 : (k : Int) * (y.w : Int) = ((k * y.w : Nat) : Int) := (Int.natCast_mul k y.w).symm
    have c2 : ((k * y.w : Nat) : Int) + (y.w : Int) = ((k * y.w + y.w : Nat) : Int) := (Int.natCast_add (k * y.w) y.w).symm
    rw [c1, c2, cut_nat _ (Nat.le_add_right _ _), Nat.add_sub_cancel_left, ← List.map_drop, ← List.map_take]
  simp [-List.map_map, -List.map_drop, -List.map_take, fldW, g1, g2, Ly.ins, getN, see, b_mul hm, c, rowD]
theorem lrows_ok : LRowsOk (.m 1 (gM Φ n B_lrows 2 0)) := fun y p es O => by
  have sp : sizeLine = 16777216 := by decide
  have g1 := y.g1 p es
  have h2 := O.h2
  have eI : runI Φ (.rng1 (.fld (.var 0) 7)) [some y.me, none] (y.st p es) = .ok ((List.range y.h).map iD) (y.st p es) := by
    have hsm : smallI (y.h : Int) = true := smallI_len (by omega)
    rw [← rng_map]
    simp [fldW, g1, Ly.ins, getN, hsm]
  have key : compT Φ (.n 1) [1] .none E_lrow [some y.me, none] (.ok ((List.range y.h).map iD) (y.st p es)) = .ok ((List.range y.h).map fun k => rowD ((p.drop (k * y.w)).take y.w)) (y.st p es) :=
    compT_mp (by rw [List.length_range]; omega) fun k _ => turnK_e (lrow_run O)
  refine callMF (ρ' := [some y.me, none]) rfl ?_ (y.closed p es O)
  unfold B_lrows
  rw [rB_cons, rS_ret, rE_th, rF_comp]
  show R.sq (R.st (R.bind (compT Φ (.n 1) [1] .none E_lrow [some y.me, none] (runI Φ (.rng1 (.fld (.var 0) 7)) [some y.me, none] (y.st p es))) _) _ _) _ = _
  rw [eI, key]
  have hr : (rowsOf y.h y.w p).map rowD = (List.range y.h).map fun k => rowD ((p.drop (k * y.w)).take y.w) := by unfold rowsOf; rw [List.map_map]; rfl
  rw [hr]
  exact Eq.trans rfl rfl
/-! ### the making -/
def B_linit : List S := [(.ex (.call 78 (.cons (.var 2) (.cons (.var 3) .nil)))), (.setF (.var 0) 6 (.var 1)), (.setF (.var 0) 7 (.var 2)), (.setF (.var 0) 8 (.var 3)), (.setF (.var 0) 9 (.var 4)), (.setF (.var 0) 2 (.th (.lst .nil))), (.setF (.var 0) 10 (.dnew true))]
def MkLy (ψ : Ms) (c : Nat) : Prop := ∀ (y : Ly), y.c = c → y.xf = [] → y.xs = [] → y.Ok → mkF ψ c [setW y.ts, .d (.int (y.h : Int)), .d (.int (y.w : Int)), .h y.pre.length] (y.pre ++ [.dct false y.fx]) = .ok y.me (y.st [] [])
theorem setF_run {pre : List Cell} {D : Cell} {c f : Nat} {fs : List (Nat × W)} {e : E} {v : W} {r r' : List Cell} {ρ : Env} (h0 : ρ[0]? = some (some (.h (pre.length + 1)))) (hf : fs.length < 1000) (hh : Φ.has c f = true) {fs' : List (Nat × W)} (hp : putN f v fs = fs')
    (e1 : runE Φ e ρ (pre ++ (D :: .ins c fs :: r)) = .ok v (pre ++ (D :: .ins c fs :: r'))) : runS Φ n (.setF (.var 0) f e) ρ (pre ++ (D :: .ins c fs :: r)) = .ok (.nx, ρ) (pre ++ (D :: .ins c fs' :: r')) := by
  subst hp
  have g : (pre ++ (D :: .ins c fs :: r'))[pre.length + 1]? = some (.ins c fs) := by simp
  have hs : (pre ++ (D :: .ins c fs :: r')).set (pre.length + 1) (.ins c (putN f v fs)) = pre ++ (D :: .ins c (putN f v fs) :: r') := by
    rw [List.set_append_right _ _ (by omega), show pre.length + 1 - pre.length = 1 by omega]; rfl
  rw [rS_setF, e1]
  simp only [R.bind_ok, rE_var, h0, setFW, g, hf, hh, decide_true, Bool.and_self, if_true, R.st_ok, hs]
theorem linit_ok {c : Nat} {φ : Fs} (h78 : Φ.fn 78 = some φ) (Ne : NeedOk φ) (k6 : Φ.has c 6 = true) (k7 : Φ.has c 7 = true) (k8 : Φ.has c 8 = true) (k9 : Φ.has c 9 = true) (k2 : Φ.has c 2 = true) (k10 : Φ.has c 10 = true) : MkLy (.m 4 (gM Φ n B_linit 5 2)) c := fun y hc hf hs O => by
  subst hc
  have h1 := O.h1
  have h2 := O.h2
  have w1 := O.w1
  have w2 := O.w2
  obtain ⟨pre, c, ts, h, w, fx, f, xf, xs⟩ := y
  simp only at h1 h2 w1 w2 hf hs k6 k7 k8 k9 k2 k10
  subst hf hs
  have z0 : (0 : Nat) ≤ sizeLine := Nat.zero_le _
  have en := Ne h w (pre ++ [.dct false fx, .ins c []]) (by omega) (by omega) (by omega) (by omega)
  have e0 : runS Φ n (.ex (.call 78 (.cons (.var 2) (.cons (.var 3) .nil)))) [some (.h (pre.length + 1)), some (setW ts), some (.d (.int (h : Int))), some (.d (.int (w : Int))), some (.h pre.length)] (pre ++ [.dct false fx, .ins c []]) = .ok (.nx, [some (.h (pre.length + 1)), some (setW ts), some (.d (.int (h : Int))), some (.d (.int (w : Int))), some (.h pre.length)]) (pre ++ [.dct false fx, .ins c []]) := by
    simp [h78, en]
  generalize hρ : ([some (.h (pre.length + 1)), some (setW ts), some (.d (.int (h : Int))), some (.d (.int (w : Int))), some (.h pre.length)] : Env) = ρ at e0
  have r0 : ρ[0]? = some (some (.h (pre.length + 1))) := by rw [← hρ]; rfl
  have e1 := setF_run (Φ := Φ) (n := n) (pre := pre) (D := .dct false fx) (c := c) (f := 6) (fs := []) (fs' := [(6, setW ts)]) (e := .var 1) (v := setW ts) (r := []) (r' := []) r0 (by decide) k6 rfl (by rw [← hρ]; exact Eq.trans rfl rfl)
  have e2 := setF_run (Φ := Φ) (n := n) (pre := pre) (D := .dct false fx) (c := c) (f := 7) (fs := [(6, setW ts)]) (fs' := [(6, setW ts), (7, .d (.int (h : Int)))]) (e := .var 2) (v := .d (.int (h : Int))) (r := []) (r' := []) r0 (by show 1 < 1000; decide) k7 rfl (by rw [← hρ]; exact Eq.trans rfl rfl)
  have e3 := setF_run (Φ := Φ) (n := n) (pre := pre) (D := .dct false fx) (c := c) (f := 8) (fs := [(6, setW ts), (7, .d (.int (h : Int)))]) (fs' := [(6, setW ts), (7, .d (.int (h : Int))), (8, .d (.int (w : Int)))]) (e := .var 3) (v := .d (.int (w : Int))) (r := []) (r' := []) r0 (by show 2 < 1000; decide) k8 rfl (by rw [← hρ]; exact Eq.trans rfl rfl)
  have e4 := setF_run (Φ := Φ) (n := n) (pre := pre) (D := .dct false fx) (c := c) (f := 9) (fs := [(6, setW ts), (7, .d (.int (h : Int))), (8, .d (.int (w : Int)))]) (fs' := [(6, setW ts), (7, .d (.int (h : Int))), (8, .d (.int (w : Int))), (9, .h pre.length)]) (e := .var 4) (v := .h pre.length) (r := []) (r' := []) r0 (by show 3 < 1000; decide) k9 rfl (by rw [← hρ]; exact Eq.trans rfl rfl)
  have e5 := setF_run (Φ := Φ) (n := n) (pre := pre) (D := .dct false fx) (c := c) (f := 2) (fs := [(6, setW ts), (7, .d (.int (h : Int))), (8, .d (.int (w : Int))), (9, .h pre.length)]) (fs' := [(6, setW ts), (7, .d (.int (h : Int))), (8, .d (.int (w : Int))), (9, .h pre.length), (2, .h (pre.length + 2))]) (e := .th (.lst .nil)) (v := .h (pre.length + 2)) (r := []) (r' := [.lst []]) r0 (by show 4 < 1000; decide) k2 rfl (by
    simp [frzsR, frzAll, z0])
  have e6 := setF_run (Φ := Φ) (n := n) (pre := pre) (D := .dct false fx) (c := c) (f := 10) (fs := [(6, setW ts), (7, .d (.int (h : Int))), (8, .d (.int (w : Int))), (9, .h pre.length), (2, .h (pre.length + 2))]) (fs' := [(6, setW ts), (7, .d (.int (h : Int))), (8, .d (.int (w : Int))), (9, .h pre.length), (2, .h (pre.length + 2)), (10, .h (pre.length + 3))]) (e := .dnew true) (v := .h (pre.length + 3)) (r := [.lst []]) (r' := [.lst [], .dct true []]) r0 (by show 5 < 1000; decide) k10 rfl (by
    simp)
  have e : runB Φ n B_linit ρ (pre ++ [.dct false fx, .ins c []]) = .ok (.nx, ρ) (Ly.st ⟨pre, c, ts, h, w, fx, f, [], []⟩ [] []) := by
    unfold B_linit
    rw [step1 e0, step1 e1, step1 e2, step1 e3, step1 e4, step1 e5, step1 e6]
    exact Eq.trans rfl rfl
  have hl : (pre ++ [Cell.dct false fx]).length = pre.length + 1 := by simp
  have ha : (pre ++ [Cell.dct false fx]) ++ [Cell.ins c []] = pre ++ [.dct false fx, .ins c []] := by simp
  have hst : startE 5 [W.h (pre.length + 1), setW ts, .d (.int (h : Int)), .d (.int (w : Int)), .h pre.length] = ρ := by rw [← hρ]; rfl
  have hk : (pre ++ [Cell.dct false fx, Cell.ins c []]).length + 2 = (Ly.st ⟨pre, c, ts, h, w, fx, f, [], []⟩ [] []).length := by rw [Ly.len]; simp
  have hcl := O.cl
  unfold mkF
  simp only [List.length_cons, List.length_nil, if_true, hl, ha, gM, hst, e, endM, finM, hk, List.take_length]
  rw [hcl]
  simp
end
/-! ### laid -/
def optL : Option (List PyData) → Rv
  | none => .w (.d .none)
  | some l => .l l
def B_laid8 (c : Nat) : List S := [(.asg (.n 3) (.mk c (.cons (.var 0) (.cons (.var 1) (.cons (.var 2) (.cons (.dnew false) .nil)))))), (.ite (.not (.meth (.var 3) 7 .nil)) [(.ret (.cst .none))] []), (.ret (.th (.meth (.var 3) 8 .nil)))]
def SizeF (ts : List Tile) (h w : Nat) : Prop := 1 ≤ ts.length ∧ ts.length ≤ 200 ∧ 1 ≤ h ∧ h ≤ 12 ∧ 1 ≤ w ∧ w ≤ 12 ∧ h * w * ts.length ^ w < 16000000
def FirstOk (φ : Fs) (F : List Tile → Nat → Nat → List (List Nat)) (D : Nat) : Prop := ∀ (ts : List Tile) (h w : Nat) (s : List Cell), SizeF ts h w → h * w ≤ D → callX φ [setW ts, .d (.int (h : Int)), .d (.int (w : Int))] s = .ok (optL ((F ts h w).head?.map fun r => (rowsOf h w r).map rowD)) s
theorem fitX_none (ts : List Tile) (w : Nat) : fitX ts w (fun _ _ => none) = fitsB ts w := by
  funext p t
  unfold fitX fixB
  simp
def ly0 (c : Nat) (ts : List Tile) (h w : Nat) : Ly := ⟨[], c, ts, h, w, [], fun _ _ => none, [], []⟩
theorem ly0_ok {c : Nat} {ts : List Tile} {h w : Nat} (S : SizeF ts h w) : (ly0 c ts h w).Ok := by
  obtain ⟨t1, t2, h1, h2, w1, w2, sz⟩ := S
  exact ⟨h1, h2, w1, w2, t1, t2, fix_nil, sz, rfl⟩
section
variable {Φ : Phi} {n : Nat}
theorem optL_X {n : Nat} {g : List W → Option Ro} {ws vs : List W} {s : List Cell} {l : Option (List PyData)} (hl : ws.length = n) (hv : viewAll s ws = some (vs, false)) (hg : g vs = some (match l with | none => .ret (.d .none) | some l => .fresh l)) : callX (.p n g) ws s = .ok (optL l) s := by
  unfold callX
  cases l with
  | none => simp only [hl, if_pos, hv, hg, pX]; rfl
  | some l => simp only [hl, if_pos, hv, hg, pX]; rfl
/-- a first laying: generic over the class, and what it looks for -/
theorem first_gen {c D : Nat} {ψ : Ms} {φ7 φ8 : Fs} {F : List Tile → Nat → Nat → List (List Nat)} (hψ : Φ.cl c = some ψ) (Mk : MkLy ψ c) (h7 : Φ.mt c 7 = some φ7) (h8 : Φ.mt c 8 = some φ8) (Rw : LRowsOk φ8)
    (G : ∀ (ts : List Tile) (h w : Nat), SizeF ts h w → h * w ≤ D → ∃ es, callF φ7 [(ly0 c ts h w).me] ((ly0 c ts h w).st [] []) = .ok (.d (.bool (!(F ts h w).isEmpty))) ((ly0 c ts h w).st ((F ts h w).head?.getD []) es)) : FirstOk (.p 3 (gP Φ n (B_laid8 c) 4)) F D := fun ts h w s S hD => by
  refine optL_X rfl (vs := [setW ts, .d (.int (h : Int)), .d (.int (w : Int))]) rfl ?_
  have O := ly0_ok (c := c) S
  obtain ⟨es, eg⟩ := G ts h w S hD
  have em := Mk (ly0 c ts h w) rfl rfl rfl O
  have e1 : runS Φ n (.asg (.n 3) (.mk c (.cons (.var 0) (.cons (.var 1) (.cons (.var 2) (.cons (.dnew false) .nil)))))) [some (setW ts), some (.d (.int (h : Int))), some (.d (.int (w : Int))), none] [] = .ok (.nx, [some (setW ts), some (.d (.int (h : Int))), some (.d (.int (w : Int))), some (ly0 c ts h w).me]) ((ly0 c ts h w).st [] []) := by
    refine set_n ?_
    rw [rE_mk, hψ]
    exact em
  have ec : runE Φ (.not (.meth (.var 3) 7 .nil)) [some (setW ts), some (.d (.int (h : Int))), some (.d (.int (w : Int))), some (ly0 c ts h w).me] ((ly0 c ts h w).st [] []) = .ok (.d (.bool (F ts h w).isEmpty)) ((ly0 c ts h w).st ((F ts h w).head?.getD []) es) := by
    rw [rE_not, rE_meth]
    show R.bind (R.bind (.ok (ly0 c ts h w).me ((ly0 c ts h w).st [] [])) _) _ = _
    simp only [R.bind_ok, show clsOf ((ly0 c ts h w).st [] []) (ly0 c ts h w).me = some c from ly_cls, h7, rEs_nil, eg, tt_b, Bool.not_not]
  have key : gP Φ n (B_laid8 c) 4 [setW ts, .d (.int (h : Int)), .d (.int (w : Int))] = endP (runB Φ n (B_laid8 c) [some (setW ts), some (.d (.int (h : Int))), some (.d (.int (w : Int))), none] []) := rfl
  rw [key]
  unfold B_laid8
  rw [step1 e1]
  cases hF : F ts h w with
  | nil =>
    rw [hF] at ec
    rw [rB_cons, ite_T ec]
    exact Eq.trans rfl rfl
  | cons q qs =>
    rw [hF] at ec
    have ec : runE Φ (.not (.meth (.var 3) 7 .nil)) [some (setW ts), some (.d (.int (h : Int))), some (.d (.int (w : Int))), some (ly0 c ts h w).me] ((ly0 c ts h w).st [] []) = .ok (.d (.bool false)) ((ly0 c ts h w).st q es) := ec
    have er := Rw (ly0 c ts h w) q es O
    have e3 : runE Φ (.th (.meth (.var 3) 8 .nil)) [some (setW ts), some (.d (.int (h : Int))), some (.d (.int (w : Int))), some (ly0 c ts h w).me] ((ly0 c ts h w).st q es) = .ok (.h ((ly0 c ts h w).st q es).length) ((ly0 c ts h w).st q es ++ [.lst ((rowsOf h w q).map rowD)]) := by
      rw [rE_th, rF_meth]
      show R.bind (R.bind (.ok (ly0 c ts h w).me ((ly0 c ts h w).st q es)) _) _ = _
      simp only [R.bind_ok, show clsOf ((ly0 c ts h w).st q es) (ly0 c ts h w).me = some c from ly_cls, h8, rEs_nil, callL, er]
      exact Eq.trans rfl rfl
    rw [rB_cons, ite_F ec]
    show endP (R.sq (runB Φ n [] _ ((ly0 c ts h w).st q es)) _) = _
    rw [show runB Φ n [] [some (setW ts), some (.d (.int (h : Int))), some (.d (.int (w : Int))), some (ly0 c ts h w).me] ((ly0 c ts h w).st q es) = .ok (.nx, [some (setW ts), some (.d (.int (h : Int))), some (.d (.int (w : Int))), some (ly0 c ts h w).me]) ((ly0 c ts h w).st q es) from Eq.trans rfl rfl, R.sq_nx, rB_cons, rS_ret, e3]
    show finP (.h ((ly0 c ts h w).st q es).length) ((ly0 c ts h w).st q es ++ [.lst ((rowsOf h w q).map rowD)]) = _
    simp [finP]
theorem laid_first {D : Nat} {ψ : Ms} {φ7 φ8 : Fs} (hψ : Φ.cl 8 = some ψ) (Mk : MkLy ψ 8) (h7 : Φ.mt 8 7 = some φ7) (Lg : ∀ k, k ≤ D → LGoesOk φ7 8 k) (h8 : Φ.mt 8 8 = some φ8) (Rw : LRowsOk φ8) : FirstOk (.p 3 (gP Φ n (B_laid8 8) 4)) (fun ts h w => layF ts w (h * w)) D :=
  first_gen hψ Mk h7 h8 Rw fun ts h w S hB => by
    have O := ly0_ok (c := 8) S
    obtain ⟨new, _, _, e⟩ := Lg (h * w) hB (ly0 8 ts h w) [] [] rfl O (by show 0 + h * w = h * w; omega) (by simp) ⟨by simp, by simp⟩
    refine ⟨[] ++ new, ?_⟩
    have hc : compl (ly0 8 ts h w).fit (ly0 8 ts h w).ts.length (h * w) [] = layF ts w (h * w) := by
      show compl (fitX ts w fun _ _ => none) ts.length (h * w) [] = _
      rw [fitX_none, compl_layF]
    rw [hc] at e
    exact e
end
end DM

set_option maxRecDepth 100000
/-! P5: Rolling. -/
namespace DM
open PySem
abbrev E_fst (i : E) : E := .idx (.bin .add (.fld (.var 0) 2) (.fr (.lst (.cons (.var 1) .nil)))) i
abbrev S_r3 : S := .ite (.cmp .eq (.bin .mod (.var 2) (.fld (.var 0) 8)) (.bin .sub (.fld (.var 0) 8) (.cst (.int 1)))) [(.asg (.n 3) (E_fst (.bin .add (.bin .sub (.var 2) (.fld (.var 0) 8)) (.cst (.int 1))))), (.ite (.not (.meth (.fld (.var 0) 6) 2 (.cons (.var 1) (.cons (.var 3) .nil)))) [(.ret (.cst (.bool false)))] [])] []
abbrev S_r4 : S := .ite (.cmp .eq (.bin .fdiv (.var 2) (.fld (.var 0) 8)) (.bin .sub (.fld (.var 0) 7) (.cst (.int 1)))) [(.asg (.n 3) (E_fst (.bin .mod (.var 2) (.fld (.var 0) 8)))), (.ret (.meth (.fld (.var 0) 6) 3 (.cons (.var 1) (.cons (.var 3) .nil))))] []
def B_rfits : List S := [(.ite (.not (.cls 8 6 (.cons (.var 0) (.cons (.var 1) .nil)))) [(.ret (.cst (.bool false)))] []), (.asg (.n 2) (.bi .len (.cons (.fld (.var 0) 2) .nil))), S_r3, S_r4, (.ret (.cst (.bool true)))]
def rollE (y : Ly) (p : List Nat) (t : Nat) : Bool := !decide (p.length % y.w = y.w - 1) || besideB y.ts t (gN (p ++ [t]) (p.length + 1 - y.w))
def rollS (y : Ly) (p : List Nat) (t : Nat) : Bool := !decide (p.length / y.w = y.h - 1) || belowB y.ts t (gN (p ++ [t]) (p.length % y.w))
def rfit (y : Ly) : Fit := fun p t => y.fit p t && (rollE y p t && rollS y p t)
def RFitsOk (φ : Fs) : Prop := ∀ (y : Ly) (p : List Nat) (es : Mem) (t : Nat), y.Ok → p.length ≤ 1000 → (∀ i ∈ p, i < y.ts.length) → t < y.ts.length → callF φ [y.me, .d (.int (t : Int))] (y.st p es) = .ok (.d (.bool (rfit y p t))) (y.st p es)
section
variable {Φ : Phi} {n : Nat} {y : Ly} {p : List Nat} {es : Mem} {t : Nat} {o3 : Option W}
abbrev envR (y : Ly) (p : List Nat) (t : Nat) (o3 : Option W) : Env := [some y.me, some (.d (.int (t : Int))), some (.d (.int (p.length : Nat))), o3]
theorem fst_run {i : E} {j : Nat} (hl : p.length ≤ 1000) (e : runE Φ i (envR y p t o3) (y.st p es) = .ok (.d (.int (j : Int))) (y.st p es)) (hj : j < p.length + 1) : runE Φ (E_fst i) (envR y p t o3) (y.st p es) = .ok (.d (.int (gN (p ++ [t]) j : Nat))) (y.st p es) := by
  have sp : sizeLine = 16777216 := by decide
  have g1 := y.g1 p es
  have g2 := y.g2 p es
  have z1 : (1 : Nat) ≤ sizeLine := by decide
  have ea : binD .add (.list (p.map iD)) (.list [.int (t : Int)]) = some (.list ((p ++ [t]).map iD)) := by
    rw [b_addL (by simp; omega)]
    simp
  have ex : atD ((p ++ [t]).map iD) (j : Int) = some (.int (gN (p ++ [t]) j : Nat)) := at_iD (by simp; omega)
  have el : runE Φ (.bin .add (.fld (.var 0) 2) (.fr (.lst (.cons (.var 1) .nil)))) (envR y p t o3) (y.st p es) = .ok (.d (.list ((p ++ [t]).map iD))) (y.st p es) := by
    simp [-List.map_map, -List.map_append, fldW, g1, g2, Ly.ins, getN, see, frzsR, frzAll, frz, z1, ea]
  rw [rE_idx, el]
  simp only [R.bind_ok, e, ii, see, ex, Option.map_some]
  exact Eq.trans rfl rfl
theorem r3_run {β : Fs} (hβ : Φ.mt 2 2 = some β) (Be : PairOk β besideB) (O : y.Ok) (hl : p.length ≤ 1000) (hp : ∀ i ∈ p, i < y.ts.length) (ht : t < y.ts.length) :
    (rollE y p t = true → ∃ o3', runS Φ n S_r3 (envR y p t o3) (y.st p es) = .ok (.nx, envR y p t o3') (y.st p es)) ∧ (rollE y p t = false → ∃ ρ', runS Φ n S_r3 (envR y p t o3) (y.st p es) = .ok (.ret (.d (.bool false)), ρ') (y.st p es)) := by
  have g1 := y.g1 p es
  have w1 := O.w1
  have hwi : (0 : Int) < (y.w : Int) := by omega
  have em : ((p.length : Int) % (y.w : Int)) = ((p.length % y.w : Nat) : Int) := by push_cast; rfl
  have ec : runE Φ (.cmp .eq (.bin .mod (.var 2) (.fld (.var 0) 8)) (.bin .sub (.fld (.var 0) 8) (.cst (.int 1)))) (envR y p t o3) (y.st p es) = .ok (.d (.bool (decide (((p.length : Int) % (y.w : Int)) = (y.w : Int) - 1)))) (y.st p es) := by
    simp [fldW, g1, Ly.ins, getN, see, b_mod hwi]
  by_cases hm : p.length % y.w = y.w - 1
  · have hm' : ((p.length : Int) % (y.w : Int)) = (y.w : Int) - 1 := by rw [em]; omega
    rw [decide_eq_true hm'] at ec
    have hge : y.w ≤ p.length + 1 := by have := Nat.mod_le p.length y.w; omega
    have ei : runE Φ (.bin .add (.bin .sub (.var 2) (.fld (.var 0) 8)) (.cst (.int 1))) (envR y p t o3) (y.st p es) = .ok (.d (.int ((p.length + 1 - y.w : Nat) : Int))) (y.st p es) := by
      have e0 : (p.length : Int) - (y.w : Int) + 1 = ((p.length + 1 - y.w : Nat) : Int) := by omega
      simp [fldW, g1, Ly.ins, getN, see, e0]
    have ef := fst_run (Φ := Φ) (es := es) hl ei (by omega)
    have hlt : gN (p ++ [t]) (p.length + 1 - y.w) < y.ts.length := getD_lt (fun i hi => by
      rcases List.mem_append.mp hi with hi | hi
      · exact hp i hi
      · rw [List.mem_singleton] at hi; subst hi; exact ht) (by simp; omega)
    have eb := Be y.ts t (gN (p ++ [t]) (p.length + 1 - y.w)) (y.st p es) ht hlt
    have hr : rollE y p t = besideB y.ts t (gN (p ++ [t]) (p.length + 1 - y.w)) := by unfold rollE; simp [hm]
    generalize gN (p ++ [t]) (p.length + 1 - y.w) = x at ef eb hlt hr
    have ecb : runE Φ (.not (.meth (.fld (.var 0) 6) 2 (.cons (.var 1) (.cons (.var 3) .nil)))) (envR y p t (some (.d (.int (x : Nat))))) (y.st p es) = .ok (.d (.bool (!besideB y.ts t x))) (y.st p es) := by
      simp [fldW, g1, Ly.ins, getN, clsOf, hβ, eb]
    have es1 : runS Φ n (.asg (.n 3) (E_fst (.bin .add (.bin .sub (.var 2) (.fld (.var 0) 8)) (.cst (.int 1))))) (envR y p t o3) (y.st p es) = .ok (.nx, envR y p t (some (.d (.int (x : Nat))))) (y.st p es) := set_n ef
    have e3 : runS Φ n S_r3 (envR y p t o3) (y.st p es) = runB Φ n [(.ite (.not (.meth (.fld (.var 0) 6) 2 (.cons (.var 1) (.cons (.var 3) .nil)))) [(.ret (.cst (.bool false)))] [])] (envR y p t (some (.d (.int (x : Nat))))) (y.st p es) := by
      unfold S_r3
      rw [ite_T ec, step1 es1]
    rw [hr, e3]
    cases hb : besideB y.ts t x with
    | true =>
      rw [hb] at ecb
      refine ⟨fun _ => ⟨some (.d (.int (x : Nat))), ?_⟩, fun h => by cases h⟩
      rw [rB_cons, ite_F ecb]
      exact Eq.trans rfl rfl
    | false =>
      rw [hb] at ecb
      refine ⟨(fun h => by cases h), fun _ => ⟨envR y p t (some (.d (.int (x : Nat)))), ?_⟩⟩
      rw [rB_cons, ite_T ecb]
      exact Eq.trans rfl rfl
  · have hm' : ¬ ((p.length : Int) % (y.w : Int)) = (y.w : Int) - 1 := by rw [em]; omega
    rw [decide_eq_false hm'] at ec
    have hr : rollE y p t = true := by unfold rollE; simp [hm]
    rw [hr]
    refine ⟨fun _ => ⟨o3, ?_⟩, fun h => by cases h⟩
    unfold S_r3
    rw [ite_F ec]
    exact Eq.trans rfl rfl
theorem r4_run {γ : Fs} (hγ : Φ.mt 2 3 = some γ) (Bl : PairOk γ belowB) (O : y.Ok) (hl : p.length ≤ 1000) (hp : ∀ i ∈ p, i < y.ts.length) (ht : t < y.ts.length) :
    ∃ ρ', runB Φ n [S_r4, (.ret (.cst (.bool true)))] (envR y p t o3) (y.st p es) = .ok (.ret (.d (.bool (rollS y p t))), ρ') (y.st p es) := by
  have g1 := y.g1 p es
  have w1 := O.w1
  have w2 := O.w2
  have h1 := O.h1
  have hwi : (0 : Int) < (y.w : Int) := by omega
  have hdiv : divOk (y.w : Int) = true := by unfold divOk; simp; omega
  have ed : ((p.length : Int) / (y.w : Int)) = ((p.length / y.w : Nat) : Int) := by push_cast; rfl
  have ec : runE Φ (.cmp .eq (.bin .fdiv (.var 2) (.fld (.var 0) 8)) (.bin .sub (.fld (.var 0) 7) (.cst (.int 1)))) (envR y p t o3) (y.st p es) = .ok (.d (.bool (decide (((p.length : Int) / (y.w : Int)) = (y.h : Int) - 1)))) (y.st p es) := by
    simp [fldW, g1, Ly.ins, getN, see, b_div hdiv]
  by_cases hm : p.length / y.w = y.h - 1
  · have hm' : ((p.length : Int) / (y.w : Int)) = (y.h : Int) - 1 := by rw [ed]; omega
    rw [decide_eq_true hm'] at ec
    have hj : p.length % y.w < p.length + 1 := by have := Nat.mod_le p.length y.w; omega
    have ei : runE Φ (.bin .mod (.var 2) (.fld (.var 0) 8)) (envR y p t o3) (y.st p es) = .ok (.d (.int ((p.length % y.w : Nat) : Int))) (y.st p es) := by
      have e0 : ((p.length % y.w : Nat) : Int) = (p.length : Int) % (y.w : Int) := by push_cast; rfl
      rw [e0]
      simp [fldW, g1, Ly.ins, getN, see, b_mod hwi]
    have ef := fst_run (Φ := Φ) (es := es) hl ei hj
    have hlt : gN (p ++ [t]) (p.length % y.w) < y.ts.length := getD_lt (fun i hi => by
      rcases List.mem_append.mp hi with hi | hi
      · exact hp i hi
      · rw [List.mem_singleton] at hi; subst hi; exact ht) (by simp; omega)
    have eb := Bl y.ts t (gN (p ++ [t]) (p.length % y.w)) (y.st p es) ht hlt
    have hr : rollS y p t = belowB y.ts t (gN (p ++ [t]) (p.length % y.w)) := by unfold rollS; simp [hm]
    generalize gN (p ++ [t]) (p.length % y.w) = x at ef eb hlt hr
    have es1 : runS Φ n (.asg (.n 3) (E_fst (.bin .mod (.var 2) (.fld (.var 0) 8)))) (envR y p t o3) (y.st p es) = .ok (.nx, envR y p t (some (.d (.int (x : Nat))))) (y.st p es) := set_n ef
    have ecb : runE Φ (.meth (.fld (.var 0) 6) 3 (.cons (.var 1) (.cons (.var 3) .nil))) (envR y p t (some (.d (.int (x : Nat))))) (y.st p es) = .ok (.d (.bool (belowB y.ts t x))) (y.st p es) := by
      simp [fldW, g1, Ly.ins, getN, clsOf, hγ, eb]
    refine ⟨envR y p t (some (.d (.int (x : Nat)))), ?_⟩
    rw [hr, rB_cons]
    unfold S_r4
    rw [ite_T ec, step1 es1, rB_cons, rS_ret, ecb]
    exact Eq.trans rfl rfl
  · have hm' : ¬ ((p.length : Int) / (y.w : Int)) = (y.h : Int) - 1 := by rw [ed]; omega
    rw [decide_eq_false hm'] at ec
    have hr : rollS y p t = true := by unfold rollS; simp [hm]
    refine ⟨envR y p t o3, ?_⟩
    rw [hr, rB_cons]
    unfold S_r4
    rw [ite_F ec]
    exact Eq.trans rfl rfl
theorem rfits_ok {φL β γ : Fs} (hL : Φ.cm 8 6 = some φL) (Lf : LFitsOk φL) (hβ : Φ.mt 2 2 = some β) (Be : PairOk β besideB) (hγ : Φ.mt 2 3 = some γ) (Bl : PairOk γ belowB) : RFitsOk (.m 2 (gM Φ n B_rfits 4 0)) := fun y p es t O hl hp ht => by
  have g1 := y.g1 p es
  have g2 := y.g2 p es
  have ef := Lf y p es t O hl hp ht
  have e0 : runE Φ (.not (.cls 8 6 (.cons (.var 0) (.cons (.var 1) .nil)))) [some y.me, some (.d (.int (t : Int))), none, none] (y.st p es) = .ok (.d (.bool (!y.fit p t))) (y.st p es) := by
    rw [rE_not, rE_cls, hL]
    simp only [rEs_cons, rEs_nil, rE_var]
    show R.bind (callF φL [y.me, .d (.int (t : Int))] (y.st p es)) _ = _
    rw [ef]; rfl
  have e1 : runS Φ n (.asg (.n 2) (.bi .len (.cons (.fld (.var 0) 2) .nil))) [some y.me, some (.d (.int (t : Int))), none, none] (y.st p es) = .ok (.nx, envR y p t none) (y.st p es) := by
    simp [fldW, g1, g2, Ly.ins, getN, see, seeAll, asgT]
  have key : ∃ ρ', runB Φ n B_rfits (startE 4 [y.me, .d (.int (t : Int))]) (y.st p es) = .ok (.ret (.d (.bool (rfit y p t))), ρ') (y.st p es) := by
    show ∃ ρ', runB Φ n B_rfits [some y.me, some (.d (.int (t : Int))), none, none] (y.st p es) = _
    unfold B_rfits
    have hfit : rfit y p t = (y.fit p t && (rollE y p t && rollS y p t)) := rfl
    rw [hfit]
    cases hf : y.fit p t with
    | false =>
      rw [hf] at e0
      rw [rB_cons, ite_T e0]
      exact ⟨_, rfl⟩
    | true =>
      rw [hf] at e0
      rw [rB_cons, ite_F e0]
      rw [show runB Φ n [] [some y.me, some (.d (.int (t : Int))), none, none] (y.st p es) = .ok (.nx, [some y.me, some (.d (.int (t : Int))), none, none]) (y.st p es) from Eq.trans rfl rfl, R.sq_nx, step1 e1]
      obtain ⟨a, b⟩ := r3_run (Φ := Φ) (n := n) (es := es) (o3 := none) hβ Be O hl hp ht
      cases hr : rollE y p t with
      | false =>
        obtain ⟨ρ', e3⟩ := b hr
        rw [rB_cons, e3]
        exact ⟨_, rfl⟩
      | true =>
        obtain ⟨o3', e3⟩ := a hr
        obtain ⟨ρ', e4⟩ := r4_run (Φ := Φ) (n := n) (es := es) (o3 := o3') hγ Bl O hl hp ht
        rw [step1 e3]
        exact ⟨ρ', e4⟩
  obtain ⟨ρ', e⟩ := key
  exact callM rfl e rfl (y.closed p es O)
end
/-! ### going on -/
def rcompl (fit : Fit) (leaf : List Nat → Bool) (T : Nat) : Nat → List Nat → List (List Nat)
  | 0, p => if leaf p then [p] else []
  | k + 1, p => (List.range T).flatMap fun t => if fit p t then rcompl fit leaf T k (p ++ [t]) else []
noncomputable def leafB (y : Ly) (p : List Nat) : Bool := laidD y.ts y.w (rowsOf y.h y.w p) && rollsD y.ts y.w (rowsOf y.h y.w p)
def B_rgoes : List S := [(.asg (.n 1) (.bi .len (.cons (.fld (.var 0) 2) .nil))), (.ite (.cmp .eq (.var 1) (.bin .mul (.fld (.var 0) 7) (.fld (.var 0) 8))) [(.ret (.call 68 (.cons (.fld (.var 0) 6) (.cons (.meth (.var 0) 8 .nil) .nil))))] []), (.for (.n 2) (.rng1 (.meth (.fld (.var 0) 6) 1 .nil)) (B_lgTile 2)), (.ret (.cst (.bool false)))]
def RGoesOk (φ : Fs) (c k : Nat) : Prop := ∀ (y : Ly) (p : List Nat) (es : Mem), y.c = c → y.Ok → p.length + k = y.h * y.w → (∀ i ∈ p, i < y.ts.length) →
  callF φ [y.me] (y.st p es) = .ok (.d (.bool (!(rcompl (rfit y) (leafB y) y.ts.length k p).isEmpty))) (y.st ((rcompl (rfit y) (leafB y) y.ts.length k p).head?.getD p) es)
section
variable {Φ : Phi} {n : Nat} {y : Ly} {p : List Nat} {es : Mem}
abbrev envG (y : Ly) (p : List Nat) (o2 : Option W) : Env := [some y.me, some (.d (.int (p.length : Nat))), o2]
theorem rg_head {A S3 : List S} (O : y.Ok) {L : Nat} (hL : y.h * y.w = L) : runB Φ n ((.asg (.n 1) (.bi .len (.cons (.fld (.var 0) 2) .nil))) :: (.ite (.cmp .eq (.var 1) (.bin .mul (.fld (.var 0) 7) (.fld (.var 0) 8))) A []) :: S3) (startE 3 [y.me]) (y.st p es) =
    if p.length = L then R.sq (runB Φ n A (envG y p none) (y.st p es)) (runB Φ n S3) else runB Φ n S3 (envG y p none) (y.st p es) := by
  have g1 := y.g1 p es
  have g2 := y.g2 p es
  have w2 := O.w2
  have hm : mulOk (y.h : Int) (y.w : Int) = true := mulR _ ⟨by omega, by omega⟩
  have e1 : runS Φ n (.asg (.n 1) (.bi .len (.cons (.fld (.var 0) 2) .nil))) (startE 3 [y.me]) (y.st p es) = .ok (.nx, envG y p none) (y.st p es) := by
    simp [startE, fldW, g1, g2, Ly.ins, getN, see, seeAll, asgT]
  have em : ((y.h : Int) * (y.w : Int)) = (L : Int) := by rw [← hL]; push_cast; rfl
  have ec : runE Φ (.cmp .eq (.var 1) (.bin .mul (.fld (.var 0) 7) (.fld (.var 0) 8))) (envG y p none) (y.st p es) = .ok (.d (.bool (decide ((p.length : Int) = (L : Int))))) (y.st p es) := by
    simp [fldW, g1, Ly.ins, getN, see, b_mul hm, em]
  rw [step1 e1]
  by_cases h : p.length = L
  · have : ((p.length : Int) = (L : Int)) := by omega
    rw [decide_eq_true this] at ec
    rw [if_pos h, rB_cons, ite_T ec]
  · have : ¬ ((p.length : Int) = (L : Int)) := by omega
    rw [decide_eq_false this] at ec
    rw [if_neg h, rB_cons, ite_F ec]
    exact Eq.trans rfl rfl
theorem rgoes_0 {c : Nat} {φ68 φ8 : Fs} (h68 : Φ.fn 68 = some φ68) (Ro : IsRolledOk φ68) (h8 : Φ.mt c 8 = some φ8) (Rw : LRowsOk φ8) : RGoesOk (.m 1 (gM Φ n B_rgoes 3 0)) c 0 := fun y p es hc O hk hp => by
  subst hc
  have h1 := O.h1
  have h2 := O.h2
  have w1 := O.w1
  have w2 := O.w2
  have g1 := y.g1 p es
  have e := rg_head (Φ := Φ) (n := n) (p := p) (es := es) (A := [(.ret (.call 68 (.cons (.fld (.var 0) 6) (.cons (.meth (.var 0) 8 .nil) .nil))))]) (S3 := [(.for (.n 2) (.rng1 (.meth (.fld (.var 0) 6) 1 .nil)) (B_lgTile 2)), (.ret (.cst (.bool false)))]) O rfl
  rw [if_pos (by omega)] at e
  have er := Rw y p es O
  have ef : callF φ8 [y.me] (y.st p es) = .ok (.d (layD (rowsOf y.h y.w p))) (y.st p es) := by
    unfold callF; rw [er]; exact Eq.trans rfl rfl
  have e68 := Ro y.ts y.w (rowsOf y.h y.w p) (y.st p es) (rowsOf_ok (by omega) hp) (by rw [rowsOf_len]; exact h1) (by rw [rowsOf_len]; omega) w1 (by omega)
  have ex : runE Φ (.call 68 (.cons (.fld (.var 0) 6) (.cons (.meth (.var 0) 8 .nil) .nil))) (envG y p none) (y.st p es) = .ok (.d (.bool (leafB y p))) (y.st p es) := by
    have a1 : runE Φ (.fld (.var 0) 6) (envG y p none) (y.st p es) = .ok (setW y.ts) (y.st p es) := by simp [fldW, g1, Ly.ins, getN]
    have a2 : runE Φ (.meth (.var 0) 8 .nil) (envG y p none) (y.st p es) = .ok (.d (layD (rowsOf y.h y.w p))) (y.st p es) := by
      rw [rE_meth]
      show R.bind (.ok y.me (y.st p es)) _ = _
      simp only [R.bind_ok, ly_cls, h8, rEs_nil, ef]
    rw [rE_call, h68]
    simp only [rEs_cons, rEs_nil, a1, a2, R.bind_ok, e68]
    rfl
  have e2 : runB Φ n B_rgoes (startE 3 [y.me]) (y.st p es) = .ok (.ret (.d (.bool (leafB y p))), envG y p none) (y.st p es) := by
    refine e.trans ?_
    rw [rB_cons, rS_ret, ex]
    exact Eq.trans rfl rfl
  have := callM (Φ := Φ) (n := n) (k := 1) (b := B_rgoes) (N := 3) (ws := [y.me]) rfl e2 rfl (y.closed p es O)
  rw [this]
  unfold rcompl
  cases leafB y p <;> rfl
theorem rgoes_s {c k : Nat} {φ6 φ7 μ : Fs} (hμ : Φ.mt 2 1 = some μ) (Mn : ManyOk μ) (h6 : Φ.mt c 6 = some φ6) (Lf : RFitsOk φ6) (h7 : Φ.mt c 7 = some φ7) (Lg : RGoesOk φ7 c k) : RGoesOk (.m 1 (gM Φ n B_rgoes 3 0)) c (k + 1) := fun y p es hc O hk hp => by
  subst hc
  have hB : y.h * y.w ≤ 144 := by have := Nat.mul_le_mul O.h2 O.w2; omega
  have e := rg_head (Φ := Φ) (n := n) (p := p) (es := es) (A := [(.ret (.call 68 (.cons (.fld (.var 0) 6) (.cons (.meth (.var 0) 8 .nil) .nil))))]) (S3 := [(.for (.n 2) (.rng1 (.meth (.fld (.var 0) 6) 1 .nil)) (B_lgTile 2)), (.ret (.cst (.bool false)))]) O rfl
  rw [if_neg (by omega)] at e
  have hdef : rcompl (rfit y) (leafB y) y.ts.length (k + 1) p = (List.range y.ts.length).flatMap fun t => if rfit y p t then rcompl (rfit y) (leafB y) y.ts.length k (p ++ [t]) else [] := rfl
  have eI := lg_rng (ρ := envG y p none) (p := p) (es := es) hμ Mn O rfl
  have L := forK_or (Φ := Φ) (n := n) (t := .n 2) (b := B_lgTile 2) iD
    (fun pre ρ s => ∃ o2, ρ = envG y p o2 ∧ s = y.st p es ∧ (pre.flatMap fun t => if rfit y p t then rcompl (rfit y) (leafB y) y.ts.length k (p ++ [t]) else []) = [])
    (.d (.bool true))
    (fun pre t s => ∃ q, s = y.st q es ∧ (pre.flatMap fun t => if rfit y p t then rcompl (rfit y) (leafB y) y.ts.length k (p ++ [t]) else []) = [] ∧ rfit y p t = true ∧ (rcompl (rfit y) (leafB y) y.ts.length k (p ++ [t])).head? = some q)
    (List.range y.ts.length) [] (envG y p none) (y.st p es) ⟨none, rfl, rfl, rfl⟩
    fun pre t post ρ s ep ⟨o2, hρ, hs, hz⟩ => by
      subst hρ hs
      have ht : t < y.ts.length := List.mem_range.mp (pre_mem (by simpa using ep))
      refine ⟨envG y p (some (.d (.int (t : Int)))), rfl, ?_⟩
      have ef := Lf y p es t O (by omega) hp ht
      cases hf : rfit y p t with
      | false =>
        rw [hf] at ef
        refine .inl ⟨_, _, .inl (tile_no rfl rfl h6 ef), some (.d (.int (t : Int))), rfl, rfl, ?_⟩
        rw [List.flatMap_append, hz]
        simp [hf]
      | true =>
        rw [hf] at ef
        have eg := Lg y (p ++ [t]) es rfl O (by simp; omega) (fun i hi => by
          rcases List.mem_append.mp hi with hi | hi
          · exact hp i hi
          · rw [List.mem_singleton] at hi; subst hi; exact ht)
        have et := tile_goes (n := n) (v := 2) (ρ := envG y p (some (.d (.int (t : Int))))) rfl rfl (by omega) h6 ef h7 eg
        cases hcm : rcompl (rfit y) (leafB y) y.ts.length k (p ++ [t]) with
        | nil =>
          rw [hcm] at et
          refine .inl ⟨_, _, .inl (et.trans (tile_back rfl)), some (.d (.int (t : Int))), rfl, rfl, ?_⟩
          rw [List.flatMap_append, hz]
          simp [hf, hcm]
        | cons q qs =>
          rw [hcm] at et
          exact .inr ⟨_, _, et, q, rfl, hz, rfl, rfl⟩
  rcases L with ⟨ρ', s', ef, o2, hρ, hs, hz⟩ | ⟨pre, t, post, ρ', s', ep, ef, q, hs, hz, hf, hq⟩
  · subst hρ hs
    have hz : rcompl (rfit y) (leafB y) y.ts.length (k + 1) p = [] := hz
    rw [hz]
    refine callM (Φ := Φ) (n := n) (k := 1) (b := B_rgoes) (N := 3) (ws := [y.me]) (ρ' := envG y p o2) rfl ?_ rfl (y.closed p _ O)
    refine e.trans ?_
    rw [rB_cons, rS_for, eI, forS_ok, ef]
    exact Eq.trans rfl rfl
  · subst hs
    have hc : rcompl (rfit y) (leafB y) y.ts.length (k + 1) p = rcompl (rfit y) (leafB y) y.ts.length k (p ++ [t]) ++ post.flatMap fun t => if rfit y p t then rcompl (rfit y) (leafB y) y.ts.length k (p ++ [t]) else [] := by
      rw [hdef, show List.range y.ts.length = pre ++ t :: post from by simpa using ep, List.flatMap_append, hz, List.flatMap_cons, hf]
      simp
    have hh : (rcompl (rfit y) (leafB y) y.ts.length (k + 1) p).head? = some q := by rw [hc, List.head?_append, hq]; rfl
    have hne : (rcompl (rfit y) (leafB y) y.ts.length (k + 1) p).isEmpty = false := by
      cases hcc : rcompl (rfit y) (leafB y) y.ts.length (k + 1) p with
      | nil => rw [hcc] at hh; cases hh
      | cons _ _ => rfl
    rw [hh, hne]
    refine callM (Φ := Φ) (n := n) (k := 1) (b := B_rgoes) (N := 3) (ws := [y.me]) (ρ' := ρ') rfl ?_ (by rw [Ly.len, Ly.len]) (y.closed _ _ O)
    refine e.trans ?_
    rw [rB_cons, rS_for, eI, forS_ok, ef]
    exact Eq.trans rfl rfl
end
end DM

set_option maxRecDepth 100000
/-! P6: rolled. -/
namespace DM
open PySem
theorem rcompl_is {fit rf : Fit} {leaf : List Nat → Bool} {T n : Nat} (h1 : ∀ p t k q, p.length + k + 1 = n → q ∈ compl fit T k (p ++ [t]) → leaf q = true → fit p t = true → rf p t = true) (h2 : ∀ p t, rf p t = true → fit p t = true) : ∀ (k : Nat) (p : List Nat), p.length + k = n → rcompl rf leaf T k p = (compl fit T k p).filter leaf
  | 0, p, _ => by
    unfold rcompl compl
    cases h : leaf p <;> simp [h]
  | k + 1, p, hn => by
    show ((List.range T).flatMap fun t => if rf p t then rcompl rf leaf T k (p ++ [t]) else []) = ((List.range T).flatMap fun t => if fit p t then compl fit T k (p ++ [t]) else []).filter leaf
    rw [List.filter_flatMap]
    congr 1
    funext t
    cases hr : rf p t with
    | true =>
      rw [h2 p t hr]
      simp only [if_true]
      exact rcompl_is h1 h2 k (p ++ [t]) (by simp; omega)
    | false =>
      cases hf : fit p t with
      | false => simp
      | true =>
        simp only [if_true, Bool.false_eq_true, if_false]
        refine (List.filter_eq_nil_iff.mpr fun q hq hl => ?_).symm
        have := h1 p t k q (by omega) hq hl hf
        rw [hr] at this
        cases this
theorem gR_rows {h w a : Nat} {r : List Nat} (ha : a < h) : gR (rowsOf h w r) a = (r.drop (a * w)).take w := by
  unfold gR rowsOf
  rw [List.getD_eq_getElem?_getD, List.getElem?_map, List.getElem?_range ha]
  rfl
theorem gN_rows {h w a j : Nat} {r : List Nat} (hr : r.length = h * w) (ha : a < h) (hj : j < w) : gN (gR (rowsOf h w r) a) j = gN r (a * w + j) := by
  rw [gR_rows ha, rowsOf_at hr ha hj]
theorem lay_laid {ts : List Tile} {h w : Nat} (w0 : 0 < w) {r : List Nat} (hr : r ∈ layF ts w (h * w)) : laidD ts w (rowsOf h w r) = true := by
  obtain ⟨hl, G⟩ := (lay_grid w0).mp hr
  simp only [laidD, decide_eq_true_eq]
  intro a ha k hk
  rw [rowsOf_len] at ha
  obtain ⟨_, g1, g2⟩ := G a ha k hk
  unfold cellB
  rw [Bool.and_eq_true, Bool.or_eq_true, Bool.or_eq_true, decide_eq_true_eq, decide_eq_true_eq]
  refine ⟨g1.imp_right fun h => ?_, g2.imp_right fun h => ?_⟩
  · rw [gN_rows hl ha (by omega), gN_rows hl ha hk]; exact h
  · rw [gN_rows hl (by omega) hk, gN_rows hl ha hk]; exact h
theorem take_gN {q p : List Nat} {t : Nat} (h : q.take (p ++ [t]).length = p ++ [t]) (hl : (p ++ [t]).length ≤ q.length) {i : Nat} (hi : i ≤ p.length) : gN q i = gN (p ++ [t]) i := by
  rw [← h, gN_take (by rw [List.length_append, List.length_singleton]; omega) hl]
theorem roll_fit {y : Ly} (O : y.Ok) {p q : List Nat} {t k : Nat} (hn : p.length + k + 1 = y.h * y.w) (hq : q.length = y.h * y.w) (ht : q.take (p ++ [t]).length = p ++ [t]) (hr : rollsD y.ts y.w (rowsOf y.h y.w q) = true) : rollE y p t = true ∧ rollS y p t = true := by
  have w1 := O.w1
  have h1 := O.h1
  simp only [rollsD, decide_eq_true_eq] at hr
  obtain ⟨rE, rS⟩ := hr
  rw [rowsOf_len] at rE
  have hl : (p ++ [t]).length ≤ q.length := by simp; omega
  have hd := Nat.div_add_mod p.length y.w
  have hm : p.length % y.w < y.w := Nat.mod_lt _ (by omega)
  have hi : p.length / y.w < y.h := (Nat.div_lt_iff_lt_mul (by omega)).mpr (by omega)
  have hc : p.length / y.w * y.w + p.length % y.w = p.length := by rw [Nat.mul_comm]; exact hd
  have et : gN q p.length = t := by rw [take_gN ht hl (Nat.le_refl _), gN_snoc]
  constructor
  · unfold rollE
    by_cases h : p.length % y.w = y.w - 1
    · rw [h] at hc
      have e := rE (p.length / y.w) hi
      unfold eastP at e
      rw [gN_rows hq hi (by omega), gN_rows hq hi (by omega), hc, et, Nat.add_zero, take_gN ht hl (by omega)] at e
      have e0 : p.length + 1 - y.w = p.length / y.w * y.w := by omega
      rw [e0, h]
      simp [besideB, e]
    · simp [h]
  · unfold rollS
    by_cases h : p.length / y.w = y.h - 1
    · have e := rS (p.length % y.w) hm
      unfold southP at e
      rw [rowsOf_len, gN_rows hq (by omega) hm, gN_rows hq (by omega) hm, ← h, hc, et, Nat.zero_mul, Nat.zero_add, take_gN ht hl (by omega)] at e
      rw [h]
      simp [belowB, e]
    · simp [h]
noncomputable def rolF (ts : List Tile) (h w : Nat) : List (List Nat) := (layF ts w (h * w)).filter fun r => rollsD ts w (rowsOf h w r)
theorem rcompl_rol {c : Nat} {ts : List Tile} {h w : Nat} (S : SizeF ts h w) : rcompl (rfit (ly0 c ts h w)) (leafB (ly0 c ts h w)) ts.length (h * w) [] = rolF ts h w := by
  have O := ly0_ok (c := c) S
  rw [rcompl_is (fit := (ly0 c ts h w).fit) (n := h * w) (fun p t k q hn hq hl hf => ?_) (fun p t hr => ?_) (h * w) [] (by simp)]
  · have hc : compl (ly0 c ts h w).fit ts.length (h * w) [] = layF ts w (h * w) := by
      show compl (fitX ts w fun _ _ => none) ts.length (h * w) [] = _
      rw [fitX_none, compl_layF]
    rw [hc]
    unfold rolF
    refine List.filter_congr fun r hr => ?_
    show (laidD ts w (rowsOf h w r) && rollsD ts w (rowsOf h w r)) = _
    rw [lay_laid (show 0 < w from O.w1) hr, Bool.true_and]
  · obtain ⟨q1, q2, _⟩ := compl_mem hq
    unfold leafB at hl
    rw [Bool.and_eq_true] at hl
    have := roll_fit O (p := p) (q := q) (t := t) (k := k) hn (by rw [q1]; simp; show _ = h * w; omega) q2 hl.2
    unfold rfit
    rw [hf, this.1, this.2]
    rfl
  · unfold rfit at hr
    rw [Bool.and_eq_true] at hr
    exact hr.1
/-- a method that calls itself, so deep -/
def recMt (Φ : Phi) (c m a : Nat) (b : List S) (N : Nat) : Nat → Phi
  | 0 => Φ
  | d + 1 => (recMt Φ c m a b N d).setMt c m (.m a (gM (recMt Φ c m a b N d) 1 b N 0))
theorem rec_mt {Φ : Phi} {c m a : Nat} {b : List S} {N : Nat} {c' m' : Nat} (h : ¬ (c' = c ∧ m' = m)) : ∀ d, (recMt Φ c m a b N d).mt c' m' = Φ.mt c' m'
  | 0 => rfl
  | d + 1 => by
    show (if c' = c ∧ m' = m then _ else (recMt Φ c m a b N d).mt c' m') = _
    rw [if_neg h, rec_mt h d]
theorem rec_fn {Φ : Phi} {c m a : Nat} {b : List S} {N : Nat} (i : Nat) : ∀ d, (recMt Φ c m a b N d).fn i = Φ.fn i
  | 0 => rfl
  | d + 1 => rec_fn i d
theorem rec_cm {Φ : Phi} {c m a : Nat} {b : List S} {N : Nat} (i j : Nat) : ∀ d, (recMt Φ c m a b N d).cm i j = Φ.cm i j
  | 0 => rfl
  | d + 1 => rec_cm i j d
theorem rec_cl {Φ : Phi} {c m a : Nat} {b : List S} {N : Nat} (i : Nat) : ∀ d, (recMt Φ c m a b N d).cl i = Φ.cl i
  | 0 => rfl
  | d + 1 => rec_cl i d
theorem rec_own {Φ : Phi} {c m a : Nat} {b : List S} {N : Nat} (d : Nat) : (recMt Φ c m a b N (d + 1)).mt c m = some (.m a (gM (recMt Φ c m a b N d) 1 b N 0)) := by
  show (if c = c ∧ m = m then _ else _) = _
  rw [if_pos ⟨rfl, rfl⟩]
theorem snd_rec {P : Program} {w : World} {K : PySem.W.Frag} {mg : Str → Option Value} {base : Heap} {M : Nms} {as : List (Nat × Addr)} {k : Nat} {Φ : Phi} {c m a : Nat} {b : List S} {N : Nat} (S : SndA P w K mg base M as k Φ)
    (st : ∀ d, SndA P w K mg base M as (k + 2 * d) (recMt Φ c m a b N d) → SndA P w K mg base M as (k + 2 * d + 2) (recMt Φ c m a b N (d + 1))) : ∀ d, SndA P w K mg base M as (k + 2 * d) (recMt Φ c m a b N d)
  | 0 => S
  | d + 1 => st d (snd_rec S st d)
/-- going on, so deep -/
theorem lgoes_rec {Φ : Phi} {c : Nat} {μ φ6 : Fs} (hc : c ≠ 2) (hμ : Φ.mt 2 1 = some μ) (Mn : ManyOk μ) (h6 : Φ.mt c 6 = some φ6) (Lf : LFitsOk φ6) : ∀ (d k : Nat), k ≤ d → LGoesOk (.m 1 (gM (recMt Φ c 7 1 B_lgoes 4 d) 1 B_lgoes 4 0)) c k
  | d, 0, _ => lgoes_0 c
  | d + 1, k + 1, h => lgoes_s (by rw [rec_mt (by omega)]; exact hμ) Mn (by rw [rec_mt (by omega)]; exact h6) Lf (rec_own d) (lgoes_rec hc hμ Mn h6 Lf d k (by omega))
theorem rgoes_rec {Φ : Phi} {c : Nat} {μ φ6 φ68 φ8 : Fs} (hc : c ≠ 2) (hμ : Φ.mt 2 1 = some μ) (Mn : ManyOk μ) (h6 : Φ.mt c 6 = some φ6) (Lf : RFitsOk φ6) (h68 : Φ.fn 68 = some φ68) (Ro : IsRolledOk φ68) (h8 : Φ.mt c 8 = some φ8) (Rw : LRowsOk φ8) : ∀ (d k : Nat), k ≤ d → RGoesOk (.m 1 (gM (recMt Φ c 7 1 B_rgoes 3 d) 1 B_rgoes 3 0)) c k
  | d, 0, _ => rgoes_0 (by rw [rec_fn]; exact h68) Ro (by rw [rec_mt (by omega)]; exact h8) Rw
  | d + 1, k + 1, h => rgoes_s (by rw [rec_mt (by omega)]; exact hμ) Mn (by rw [rec_mt (by omega)]; exact h6) Lf (rec_own d) (rgoes_rec hc hμ Mn h6 Lf h68 Ro h8 Rw d k (by omega))
section
variable {Φ : Phi} {n : Nat}
theorem rolled_first {D : Nat} {ψ : Ms} {φ7 φ8 : Fs} (hψ : Φ.cl 10 = some ψ) (Mk : MkLy ψ 10) (h7 : Φ.mt 10 7 = some φ7) (Lg : ∀ k, k ≤ D → RGoesOk φ7 10 k) (h8 : Φ.mt 10 8 = some φ8) (Rw : LRowsOk φ8) : FirstOk (.p 3 (gP Φ n (B_laid8 10) 4)) rolF D :=
  first_gen hψ Mk h7 h8 Rw fun ts h w S hB => by
    have O := ly0_ok (c := 10) S
    have e := Lg (h * w) hB (ly0 10 ts h w) [] [] rfl O (by show 0 + h * w = h * w; omega) (by simp)
    refine ⟨[], ?_⟩
    rw [show rcompl (rfit (ly0 10 ts h w)) (leafB (ly0 10 ts h w)) (ly0 10 ts h w).ts.length (h * w) [] = rolF ts h w from rcompl_rol S] at e
    exact e
end
end DM

set_option maxRecDepth 100000
/-! L15: lean sets. -/
namespace DM
open PySem
def nbB (ts : List Tile) (left : List Nat) (x : Nat) : Bool := left.any (fun o => belowB ts o x) && (left.any (fun o => besideB ts x o) && (left.any (fun o => belowB ts x o) && left.any (fun o => besideB ts o x)))
def stepL (ts : List Tile) (left : List Nat) : List Nat := left.filter (nbB ts left)
def fixN (ts : List Tile) : Nat → List Nat → List Nat
  | 0, l => l
  | k + 1, l => fixN ts k (stepL ts l)
theorem fixN_add (ts : List Tile) : ∀ (a b : Nat) (l : List Nat), fixN ts (a + b) l = fixN ts b (fixN ts a l)
  | 0, b, l => by rw [Nat.zero_add]; rfl
  | a + 1, b, l => by
    rw [show a + 1 + b = (a + b) + 1 by omega]
    exact fixN_add ts a b (stepL ts l)
theorem fixN_fix {ts : List Tile} {l : List Nat} (h : stepL ts l = l) : ∀ k, fixN ts k l = l
  | 0 => rfl
  | k + 1 => by
    show fixN ts k (stepL ts l) = l
    rw [h]; exact fixN_fix h k
theorem fix_eq {ts : List Tile} {l : List Nat} {a b : Nat} (ha : stepL ts (fixN ts a l) = fixN ts a l) (hb : stepL ts (fixN ts b l) = fixN ts b l) : fixN ts a l = fixN ts b l := by
  rcases Nat.le_total a b with h | h
  · have := fixN_add ts a (b - a) l
    rw [show a + (b - a) = b by omega, fixN_fix ha] at this
    exact this.symm
  · have := fixN_add ts b (a - b) l
    rw [show b + (a - b) = a by omega, fixN_fix hb] at this
    exact this
theorem any_mono {f : Nat → Bool} {U l : List Nat} (h : ∀ u ∈ U, u ∈ l) (a : U.any f = true) : l.any f = true := by
  rw [List.any_eq_true] at a ⊢
  obtain ⟨x, hx, e⟩ := a
  exact ⟨x, h x hx, e⟩
theorem fix_sup {ts : List Tile} {U : List Nat} (hU : ∀ u ∈ U, nbB ts U u = true) : ∀ (k : Nat) (l : List Nat), (∀ u ∈ U, u ∈ l) → ∀ u ∈ U, u ∈ fixN ts k l
  | 0, l, h => h
  | k + 1, l, h => fix_sup hU k (stepL ts l) fun u hu => by
    refine List.mem_filter.mpr ⟨h u hu, ?_⟩
    have a := hU u hu
    unfold nbB at a ⊢
    simp only [Bool.and_eq_true] at a ⊢
    exact ⟨any_mono h a.1, any_mono h a.2.1, any_mono h a.2.2.1, any_mono h a.2.2.2⟩
theorem fix_lt {ts : List Tile} : ∀ (k : Nat) (l : List Nat), (∀ u ∈ fixN ts k l, u ∈ l) ∧ (fixN ts k l).length ≤ l.length
  | 0, l => ⟨fun _ h => h, Nat.le_refl _⟩
  | k + 1, l => by
    obtain ⟨a, b⟩ := fix_lt (ts := ts) k (stepL ts l)
    exact ⟨fun u hu => (List.mem_filter.mp (a u hu)).1, Nat.le_trans b (List.length_filter_le _ _)⟩
theorem filter_self {p : Nat → Bool} : ∀ {l : List Nat}, (l.filter p).length = l.length → l.filter p = l
  | [], _ => rfl
  | x :: l, h => by
    cases hp : p x with
    | false =>
      rw [List.filter_cons, hp] at h
      have := List.length_filter_le p l
      simp at h
      omega
    | true =>
      rw [List.filter_cons, hp] at h ⊢
      simp at h ⊢
      have e := filter_self (p := p) (l := l) (by simpa using h)
      intro a ha
      rw [← e] at ha
      exact (List.mem_filter.mp ha).2
/-! ### neighbours -/
abbrev S_nb (i : Int) (m : Nat) (a b : Nat) : S := .setI (.var 3) (.cst (.int i)) (.or (.idx (.var 3) (.cst (.int i))) (.meth (.var 0) m (.cons (.var a) (.cons (.var b) .nil))))
abbrev B_nbIn : List S := [S_nb 0 3 4 1, S_nb 1 2 1 4, S_nb 2 3 1 4, S_nb 3 2 4 1]
def B_nb : List S := [(.asg (.n 3) (.th (.lst (.cons (.cst (.bool false)) (.cons (.cst (.bool false)) (.cons (.cst (.bool false)) (.cons (.cst (.bool false)) .nil))))))), (.for (.n 4) (.seq (.var 2)) B_nbIn), (.ret (.cmp .notIn (.cst (.bool false)) (.var 3)))]
def NbOk (φ : Fs) : Prop := ∀ (ts : List Tile) (x : Nat) (left : List Nat) (s : List Cell), x < ts.length → (∀ i ∈ left, i < ts.length) → callF φ [setW ts, .d (.int (x : Int)), .d (.list (left.map iD))] s = .ok (.d (.bool (nbB ts left x))) s
section
variable {Φ : Phi} {n : Nat} {β γ : Fs}
theorem nb_set {i : Int} {j m a b : Nat} {ρ : Env} {l : List PyData} {x y : Bool} {fs : List (Nat × PyData)} {u v : W} {φ : Fs} (r3 : ρ[3]? = some (some (.h 0))) (r0 : ρ[0]? = some (some (.o 2 fs))) (ra : ρ[a]? = some (some u)) (rb : ρ[b]? = some (some v)) (hm : Φ.mt 2 m = some φ) (hj : ixD l.length i = some j) (hl : l[j]? = some (.bool x)) (e : callF φ [.o 2 fs, u, v] [.lst l] = .ok (.d (.bool y)) [.lst l]) :
    runS Φ n (S_nb i m a b) ρ [.lst l] = .ok (.nx, ρ) [.lst (l.set j (.bool (x || y)))] := by
  have ha : atD l i = some (.bool x) := by unfold atD; rw [hj]; exact hl
  cases x with
  | true => simp [r3, see, ha, frzR, setIW, hj]
  | false => simp [r3, see, ha, frzR, setIW, hj, r0, ra, rb, clsOf, hm, e]
theorem nb_in (hβ : Φ.mt 2 2 = some β) (Be : PairOk β besideB) (hγ : Φ.mt 2 3 = some γ) (Bl : PairOk γ belowB) {ts : List Tile} {x o : Nat} {left : W} (hx : x < ts.length) (ho : o < ts.length) {a b c d : Bool} :
    runB Φ n B_nbIn [some (setW ts), some (.d (.int (x : Int))), some left, some (.h 0), some (.d (.int (o : Int)))] [.lst [.bool a, .bool b, .bool c, .bool d]] = .ok (.nx, [some (setW ts), some (.d (.int (x : Int))), some left, some (.h 0), some (.d (.int (o : Int)))]) [.lst [.bool (a || belowB ts o x), .bool (b || besideB ts x o), .bool (c || belowB ts x o), .bool (d || besideB ts o x)]] := by
  have e1 := nb_set (Φ := Φ) (n := n) (i := 0) (j := 0) (m := 3) (a := 4) (b := 1) (ρ := [some (setW ts), some (.d (.int (x : Int))), some left, some (.h 0), some (.d (.int (o : Int)))]) (l := [.bool a, .bool b, .bool c, .bool d]) rfl rfl rfl rfl hγ rfl rfl (Bl ts o x _ ho hx)
  have e2 := nb_set (Φ := Φ) (n := n) (i := 1) (j := 1) (m := 2) (a := 1) (b := 4) (ρ := [some (setW ts), some (.d (.int (x : Int))), some left, some (.h 0), some (.d (.int (o : Int)))]) (l := [.bool (a || belowB ts o x), .bool b, .bool c, .bool d]) rfl rfl rfl rfl hβ rfl rfl (Be ts x o _ hx ho)
  have e3 := nb_set (Φ := Φ) (n := n) (i := 2) (j := 2) (m := 3) (a := 1) (b := 4) (ρ := [some (setW ts), some (.d (.int (x : Int))), some left, some (.h 0), some (.d (.int (o : Int)))]) (l := [.bool (a || belowB ts o x), .bool (b || besideB ts x o), .bool c, .bool d]) rfl rfl rfl rfl hγ rfl rfl (Bl ts x o _ hx ho)
  have e4 := nb_set (Φ := Φ) (n := n) (i := 3) (j := 3) (m := 2) (a := 4) (b := 1) (ρ := [some (setW ts), some (.d (.int (x : Int))), some left, some (.h 0), some (.d (.int (o : Int)))]) (l := [.bool (a || belowB ts o x), .bool (b || besideB ts x o), .bool (c || belowB ts x o), .bool d]) rfl rfl rfl rfl hβ rfl rfl (Be ts o x _ ho hx)
  rw [step1 e1]
  show runB Φ n _ _ [.lst [.bool (a || belowB ts o x), .bool b, .bool c, .bool d]] = _
  rw [step1 e2]
  show runB Φ n _ _ [.lst [.bool (a || belowB ts o x), .bool (b || besideB ts x o), .bool c, .bool d]] = _
  rw [step1 e3]
  show runB Φ n _ _ [.lst [.bool (a || belowB ts o x), .bool (b || besideB ts x o), .bool (c || belowB ts x o), .bool d]] = _
  rw [step1 e4]
  exact Eq.trans rfl rfl
theorem any_snoc (f : Nat → Bool) (l : List Nat) (x : Nat) : (l ++ [x]).any f = (l.any f || f x) := by simp
theorem nb_ok (hβ : Φ.mt 2 2 = some β) (Be : PairOk β besideB) (hγ : Φ.mt 2 3 = some γ) (Bl : PairOk γ belowB) : NbOk (.p 3 (gP Φ n B_nb 5)) := fun ts x left s hx hl => by
  refine callP rfl (vs := [setW ts, .d (.int (x : Int)), .d (.list (left.map iD))]) rfl ?_
  obtain ⟨ρ', s', e, o4, rfl, rfl⟩ := forK_pre (Φ := Φ) (n := n) (t := .n 4) (b := B_nbIn) iD
    (fun pre ρ s => ∃ o4, ρ = [some (setW ts), some (.d (.int (x : Int))), some (.d (.list (left.map iD))), some (.h 0), o4] ∧ s = [.lst [.bool (pre.any fun o => belowB ts o x), .bool (pre.any fun o => besideB ts x o), .bool (pre.any fun o => belowB ts x o), .bool (pre.any fun o => besideB ts o x)]])
    left [some (setW ts), some (.d (.int (x : Int))), some (.d (.list (left.map iD))), some (.h 0), none] [.lst [.bool false, .bool false, .bool false, .bool false]] ⟨none, rfl, rfl⟩ fun pre o post ρ s ep ⟨o4, hρ, hs⟩ => by
      subst hρ hs
      refine ⟨_, _, _, rfl, .inl (nb_in hβ Be hγ Bl hx (hl o (pre_mem ep))), some (.d (.int (o : Int))), rfl, ?_⟩
      rw [any_snoc, any_snoc, any_snoc, any_snoc]
  have e1 : runS Φ n (.asg (.n 3) (.th (.lst (.cons (.cst (.bool false)) (.cons (.cst (.bool false)) (.cons (.cst (.bool false)) (.cons (.cst (.bool false)) .nil))))))) [some (setW ts), some (.d (.int (x : Int))), some (.d (.list (left.map iD))), none, none] [] = .ok (.nx, [some (setW ts), some (.d (.int (x : Int))), some (.d (.list (left.map iD))), some (.h 0), none]) [.lst [.bool false, .bool false, .bool false, .bool false]] := by
    have z : (4 : Nat) ≤ sizeLine := by decide
    exact set_n (by simp [frzsR, frzAll, frz, z])
  show endP (runB Φ n B_nb [some (setW ts), some (.d (.int (x : Int))), some (.d (.list (left.map iD))), none, none] []) = _
  have eI : runI Φ (.seq (.var 2)) [some (setW ts), some (.d (.int (x : Int))), some (.d (.list (left.map iD))), some (.h 0), none] [.lst [.bool false, .bool false, .bool false, .bool false]] = .ok (left.map iD) [.lst [.bool false, .bool false, .bool false, .bool false]] := rfl
  unfold B_nb
  rw [step1 e1, rB_cons, rS_for, eI, forS_ok, e, R.sq_nx]
  unfold nbB
  generalize (left.any fun o => belowB ts o x) = a
  generalize (left.any fun o => besideB ts x o) = b
  generalize (left.any fun o => belowB ts x o) = c
  generalize (left.any fun o => besideB ts o x) = d
  cases a <;> cases b <;> cases c <;> cases d <;> rfl
/-! ### lean -/
abbrev E_lstep : E := .fr (.comp (.seq (.var 1)) (.n 3) [3] (.some (.call 65 (.cons (.var 0) (.cons (.var 3) (.cons (.var 1) .nil))))) (.var 3))
abbrev B_leanIn : List S := [(.asg (.n 2) (.bi .len (.cons (.var 1) .nil))), (.asg (.n 1) E_lstep)]
def B_lean : List S := [(.asg (.n 1) (.fr (.lrng (.meth (.var 0) 1 .nil)))), (.asg (.n 2) (.neg (.cst (.int 1)))), (.while (.cmp .ne (.var 2) (.bi .len (.cons (.var 1) .nil))) B_leanIn), (.ret (.var 1))]
def LeanOk (φ : Fs) : Prop := ∀ (ts : List Tile) (s : List Cell), ts.length ≤ 200 → ∃ k, stepL ts (fixN ts k (List.range ts.length)) = fixN ts k (List.range ts.length) ∧ callF φ [setW ts] s = .ok (.d (.list ((fixN ts k (List.range ts.length)).map iD))) s
theorem lstep_run {φ : Fs} (h65 : Φ.fn 65 = some φ) (Nb : NbOk φ) {ts : List Tile} {left : List Nat} (hl : ∀ i ∈ left, i < ts.length) (hn : left.length ≤ 200) {o2 o3 : Option W} {s : List Cell} : runE Φ E_lstep [some (setW ts), some (.d (.list (left.map iD))), o2, o3] s = .ok (.d (.list ((stepL ts left).map iD))) s := by
  have sp : sizeLine = 16777216 := by decide
  have key : compT Φ (.n 3) [3] (.some (.call 65 (.cons (.var 0) (.cons (.var 3) (.cons (.var 1) .nil))))) (.var 3) [some (setW ts), some (.d (.list (left.map iD))), o2, o3] (.ok (left.map iD) s) = .ok ((left.filter (nbB ts left)).map iD) s := by
    refine compT_fm (by omega) fun x hx => ?_
    have e := Nb ts x left s (hl x hx) hl
    refine turnK_c (s' := s) ?_ (fun _ => rfl) fun _ => rfl
    show runE Φ (.call 65 (.cons (.var 0) (.cons (.var 3) (.cons (.var 1) .nil)))) [some (setW ts), some (.d (.list (left.map iD))), o2, some (.d (.int (x : Int)))] s = _
    simp only [rE_call, h65, rEs_cons, rEs_nil, rE_var]
    exact e
  have eI : runI Φ (.seq (.var 1)) [some (setW ts), some (.d (.list (left.map iD))), o2, o3] s = .ok (left.map iD) s := rfl
  rw [rE_fr, rF_comp, eI, key]
  rfl
theorem lean_loop {φ : Fs} (h65 : Φ.fn 65 = some φ) (Nb : NbOk φ) {ts : List Tile} {s : List Cell} : ∀ (m : Nat) (left : List Nat) (many : Int) (o3 : Option W), left.length + 2 ≤ m → left.length ≤ 200 → (∀ i ∈ left, i < ts.length) → many ≠ left.length →
    ∃ k many', stepL ts (fixN ts k left) = fixN ts k left ∧ whileK Φ n (.cmp .ne (.var 2) (.bi .len (.cons (.var 1) .nil))) B_leanIn m [some (setW ts), some (.d (.list (left.map iD))), some (.d (.int many)), o3] s = .ok (.nx, [some (setW ts), some (.d (.list ((fixN ts k left).map iD))), some (.d (.int many')), o3]) s
  | 0, left, many, o3, h, _, _, _ => by omega
  | m + 1, left, many, o3, hm, h2, hl, hne => by
    have ec : ∀ (l : List Nat) (j : Int), runE Φ (.cmp .ne (.var 2) (.bi .len (.cons (.var 1) .nil))) [some (setW ts), some (.d (.list (l.map iD))), some (.d (.int j)), o3] s = .ok (.d (.bool (!decide (j = (l.length : Int))))) s := fun l j => by
      simp [-List.map_map, see, seeAll]
    have eb : runB Φ n B_leanIn [some (setW ts), some (.d (.list (left.map iD))), some (.d (.int many)), o3] s = .ok (.nx, [some (setW ts), some (.d (.list ((stepL ts left).map iD))), some (.d (.int (left.length : Int))), o3]) s := by
      have e1 : runS Φ n (.asg (.n 2) (.bi .len (.cons (.var 1) .nil))) [some (setW ts), some (.d (.list (left.map iD))), some (.d (.int many)), o3] s = .ok (.nx, [some (setW ts), some (.d (.list (left.map iD))), some (.d (.int (left.length : Int))), o3]) s := set_n (by simp [-List.map_map, see, seeAll])
      have e2 : runS Φ n (.asg (.n 1) E_lstep) [some (setW ts), some (.d (.list (left.map iD))), some (.d (.int (left.length : Int))), o3] s = .ok (.nx, [some (setW ts), some (.d (.list ((stepL ts left).map iD))), some (.d (.int (left.length : Int))), o3]) s := set_n (lstep_run h65 Nb hl h2)
      rw [step1 e1, step1 e2]
      exact Eq.trans rfl rfl
    have e0 : whileK Φ n (.cmp .ne (.var 2) (.bi .len (.cons (.var 1) .nil))) B_leanIn (m + 1) [some (setW ts), some (.d (.list (left.map iD))), some (.d (.int many)), o3] s = whileK Φ n (.cmp .ne (.var 2) (.bi .len (.cons (.var 1) .nil))) B_leanIn m [some (setW ts), some (.d (.list ((stepL ts left).map iD))), some (.d (.int (left.length : Int))), o3] s := by
      rw [whileK_succ, ec, decide_eq_false hne]
      show R.lp (runB Φ n B_leanIn _ s) _ = _
      rw [eb, R.lp_nx]
    by_cases he : (stepL ts left).length = left.length
    · have hs : stepL ts left = left := filter_self he
      refine ⟨0, left.length, hs, ?_⟩
      rw [e0, hs]
      obtain ⟨m', rfl⟩ : ∃ m', m = m' + 1 := ⟨m - 1, by omega⟩
      rw [whileK_succ, ec, decide_eq_true rfl]
      rfl
    · have hlt : (stepL ts left).length < left.length := Nat.lt_of_le_of_ne (List.length_filter_le _ _) he
      obtain ⟨k, many', f1, f2⟩ := lean_loop h65 Nb m (stepL ts left) left.length o3 (by omega) (by omega) (fun i hi => hl i (List.mem_filter.mp hi).1) (by omega)
      refine ⟨k + 1, many', f1, ?_⟩
      rw [e0, f2]
      rfl
theorem lean_ok {φ μ : Fs} (hn : 300 ≤ n) (hμ : Φ.mt 2 1 = some μ) (Mn : ManyOk μ) (h65 : Φ.fn 65 = some φ) (Nb : NbOk φ) : LeanOk (.p 1 (gP Φ n B_lean 4)) := fun ts s ht => by
  obtain ⟨k, many', f1, f2⟩ := lean_loop (Φ := Φ) (n := n) h65 Nb (ts := ts) (s := []) n (List.range ts.length) (-1) none (by rw [List.length_range]; omega) (by rw [List.length_range]; omega) (fun i hi => List.mem_range.mp hi) (by omega)
  refine ⟨k, f1, ?_⟩
  refine callP rfl (vs := [setW ts]) rfl ?_
  have em := Mn ts []
  have e1 : runS Φ n (.asg (.n 1) (.fr (.lrng (.meth (.var 0) 1 .nil)))) [some (setW ts), none, none, none] [] = .ok (.nx, [some (setW ts), some (.d (.list ((List.range ts.length).map iD))), none, none]) [] := by
    refine set_n ?_
    rw [← rng_map]
    have a1 : ((ts.length : Int) ≤ 16777216) := by omega
    have a2 : ((-4611686018427387904 : Int) ≤ (ts.length : Int)) := by omega
    simp [-List.map_map, clsOf, hμ, em, a1, a2]
  have e2 : runS Φ n (.asg (.n 2) (.neg (.cst (.int 1)))) [some (setW ts), some (.d (.list ((List.range ts.length).map iD))), none, none] [] = .ok (.nx, [some (setW ts), some (.d (.list ((List.range ts.length).map iD))), some (.d (.int (-1))), none]) [] := rfl
  show endP (runB Φ n B_lean [some (setW ts), none, none, none] []) = _
  unfold B_lean
  rw [step1 e1, step1 e2, rB_cons, rS_while, f2]
  rfl
end
/-! ### what rolls is lean -/
theorem roll_lean {ts : List Tile} {h w : Nat} (h1 : 1 ≤ h) (w1 : 1 ≤ w) {r : List Nat} (hr : r ∈ rolF ts h w) : ∀ u ∈ r, nbB ts r u = true := by
  unfold rolF at hr
  obtain ⟨hlay, hro⟩ := List.mem_filter.mp hr
  obtain ⟨hl, G⟩ := (lay_grid (by omega)).mp hlay
  simp only [rollsD, decide_eq_true_eq] at hro
  obtain ⟨rE, rS⟩ := hro
  rw [rowsOf_len] at rE
  intro u hu
  obtain ⟨p, hp, rfl⟩ := List.getElem_of_mem hu
  have hw0 : 0 < w := by omega
  have hpn : p < h * w := by omega
  have hm : p % w < w := Nat.mod_lt _ hw0
  have hi : p / w < h := (Nat.div_lt_iff_lt_mul hw0).mpr hpn
  have hd := Nat.div_add_mod p w
  have hc : p / w * w + p % w = p := by rw [Nat.mul_comm]; exact hd
  have eu : r[p] = gN r (p / w * w + p % w) := by rw [hc, gN_lt hp]
  generalize p / w = i at hi hc eu
  generalize p % w = j at hm hc eu
  have ix : ∀ a b, a < h → b < w → a * w + b < r.length := fun a b ha hb => by
    rw [hl]
    have : a * w + w ≤ h * w := by rw [← Nat.succ_mul]; exact Nat.mul_le_mul_right _ ha
    omega
  have mem : ∀ a b, a < h → b < w → gN r (a * w + b) ∈ r := fun a b ha hb => by
    rw [gN_lt (ix a b ha hb)]; exact List.getElem_mem _
  have q : ∀ (f : Nat → Bool) a b, a < h → b < w → f (gN r (a * w + b)) = true → r.any f = true := fun f a b ha hb e => List.any_eq_true.mpr ⟨_, mem a b ha hb, e⟩
  rw [eu]
  unfold nbB
  simp only [Bool.and_eq_true]
  refine ⟨?_, ?_, ?_, ?_⟩
  · by_cases z : i = 0
    · subst z
      have e := rS j hm
      unfold southP at e
      rw [rowsOf_len, gN_rows hl (by omega) hm, gN_rows hl (by omega) hm] at e
      exact q _ (h - 1) j (by omega) hm (by simp [belowB, e])
    · have e := (G i hi j hm).2.2.resolve_left z
      exact q _ (i - 1) j (by omega) hm e
  · by_cases z : j = w - 1
    · have e := rE i hi
      unfold eastP at e
      rw [gN_rows hl hi (by omega), gN_rows hl hi (by omega)] at e
      exact q _ i 0 hi (by omega) (by rw [z]; simp [besideB, e])
    · have e := (G i hi (j + 1) (by omega)).2.1.resolve_left (by omega)
      exact q _ i (j + 1) hi (by omega) e
  · by_cases z : i = h - 1
    · have e := rS j hm
      unfold southP at e
      rw [rowsOf_len, gN_rows hl (by omega) hm, gN_rows hl (by omega) hm] at e
      exact q _ 0 j (by omega) hm (by rw [z]; simp [belowB, e])
    · have e := (G (i + 1) (by omega) j hm).2.2.resolve_left (by omega)
      exact q _ (i + 1) j (by omega) hm e
  · by_cases z : j = 0
    · subst z
      have e := rE i hi
      unfold eastP at e
      rw [gN_rows hl hi (by omega), gN_rows hl hi (by omega)] at e
      exact q _ i (w - 1) hi (by omega) (by simp [besideB, e])
    · have e := (G i hi j hm).2.1.resolve_left z
      exact q _ i (j - 1) hi (by omega) e
end DM

set_option maxRecDepth 100000
/-! K08b: the law k08. -/
namespace DM
open PySem
/-- what is said of equal things, where one lies live -/
theorem like_g {g : List W → Option Ro} {d : Nat} (L : LikeOk (.p 2 g) d) {x : PyData} (hx : Nd d x = true) : g [.d x, .d x] = some (.ret (.d (.bool true))) := by
  have h := L x [] hx
  have h : R.bind (pX [] false (g [.d x, .d x])) rvW = .ok (.d (.bool true)) [] := h
  cases e : g [.d x, .d x] with
  | none => rw [e] at h; cases h
  | some ro =>
    rw [e] at h
    cases ro with
    | ret w =>
      have h : R.bind (if flat w || !false then (.ok (.w w) [] : R Rv) else .no) rvW = .ok (.d (.bool true)) [] := h
      rw [if_pos (by simp)] at h
      have h : (.ok w [] : R W) = .ok (.d (.bool true)) [] := h
      cases h
      rfl
    | fresh l =>
      have h : (.ok (.d (.list l)) [] : R W) = .ok (.d (.bool true)) [] := h
      cases h
    | ex z => cases h
theorem like_live {g : List W → Option Ro} {d i : Nat} (L : LikeOk (.p 2 g) d) {l : List PyData} {s : List Cell} (hs : s[i]? = some (.lst l)) (hx : Nd d (.list l) = true) : callF (.p 2 g) [.h i, .d (.list l)] s = .ok (.d (.bool true)) s := by
  have e := like_g L hx
  have hv : viewAll s [.h i, .d (.list l)] = some ([.d (.list l), .d (.list l)], true) := by simp [viewAll, view, hs]
  unfold callF callX
  simp only [List.length_cons, List.length_nil, if_true, hv, e]
  rfl
theorem callL_X {φ : Fs} {ws : List W} {s s' : List Cell} {l : List PyData} (h : callL φ ws s = .ok l s') : callX φ ws s = .ok (.l l) s' := by
  unfold callL at h
  cases e : callX φ ws s with
  | ok r t =>
    rw [e] at h
    cases r with
    | w w => cases h
    | l m => cases h; rfl
  | ex x t => rw [e] at h; cases h
  | no => rw [e] at h; cases h
def hdL (Q : List (List (List Nat))) : PyData := match Q with
  | [] => .none
  | L :: _ => layD L
abbrev E_due (v : Nat) : E := .idx (.bin .add (.var v) (.fr (.lst (.cons (.cst .none) .nil)))) (.cst (.int 0))
abbrev S_h1 (f : Nat) : S := .asg (.n 9) (.thc f (.cons (.var 7) (.cons (.var 3) (.cons (.var 4) .nil))))
abbrev S_h2 (v : Nat) : S := .ite (.not (.call 29 (.cons (.var 9) (.cons (E_due v) .nil)))) [(.ret (.cst (.bool false)))] []
abbrev S_h3 : S := .ite (.cmp .notN (.var 9) (.cst .none)) [(.ex (.clr (.var 9)))] []
abbrev B_turn08 : List S := [S_h1 69, S_h2 5, S_h3, S_h1 82, S_h2 6, S_h3]
section
variable {Φ : Phi} {n : Nat}
theorem due_run {v : Nat} {ρ : Env} {s : List Cell} {Q : List (List (List Nat))} (hv : ρ[v]? = some (some (.d (.list (Q.map layD))))) (hq : Q.length < sizeLine) : runE Φ (E_due v) ρ s = .ok (.d (hdL Q)) s := by
  have z1 : (1 : Nat) ≤ sizeLine := by decide
  have ea : binD .add (.list (Q.map layD)) (.list [.none]) = some (.list (Q.map layD ++ [.none])) := b_addL (by simp; omega)
  have ex : atD (Q.map layD ++ [.none]) 0 = some (hdL Q) := by
    refine atD_nat (by decide) ?_
    cases Q <;> rfl
  simp [-List.map_map, hv, see, frzsR, frzAll, frz, z1, ea, ex]
theorem half_run {f v : Nat} {φ : Fs} {g : List W → Option Ro} (hf : Φ.fn f = some φ) (h29 : Φ.fn 29 = some (.p 2 g)) (Lk : LikeOk (.p 2 g) 2) (v9 : v ≠ 9) {ρ : Env} (hl : 9 < ρ.length) {T H Wd : W} (r7 : ρ[7]? = some (some T)) (r3 : ρ[3]? = some (some H)) (r4 : ρ[4]? = some (some Wd)) {Q : List (List (List Nat))}
    (rv : ρ[v]? = some (some (.d (.list (Q.map layD))))) (hq : Q.length < sizeLine) (hN : ∀ L ∈ Q, Nd 2 (layD L) = true) (e : ∀ s, callX φ [T, H, Wd] s = .ok (optL (Q.head?.map fun L => L.map rowD)) s) (s : List Cell) {r : List S} :
    ∃ o9 s', runB Φ n (S_h1 f :: S_h2 v :: S_h3 :: r) ρ s = runB Φ n r (ρ.set 9 o9) s' := by
  have e0 := e s
  have ev : ∀ o9 s', runE Φ (E_due v) (ρ.set 9 o9) s' = .ok (.d (hdL Q)) s' := fun o9 s' => due_run (by rw [List.getElem?_set_ne (Ne.symm v9)]; exact rv) hq
  have e9 : ∀ w : W, (ρ.set 9 (some w))[9]? = some (some w) := fun w => List.getElem?_set_self hl
  cases Q with
  | nil =>
    have ec : runE Φ (.thc f (.cons (.var 7) (.cons (.var 3) (.cons (.var 4) .nil)))) ρ s = .ok (.d .none) s := by
      have e0 : callX φ [T, H, Wd] s = .ok (.w (.d .none)) s := e0
      simp [hf, r7, r3, r4, callT, e0, rvT]
    refine ⟨some (.d .none), s, ?_⟩
    rw [step1 (set_n ec)]
    have el := Lk .none s rfl
    have c2 : runE Φ (.not (.call 29 (.cons (.var 9) (.cons (E_due v) .nil)))) (ρ.set 9 (some (.d .none))) s = .ok (.d (.bool false)) s := by
      have ev := ev (some (.d .none)) s
      generalize E_due v = X at ev ⊢
      simp only [rE_not, rE_call, h29, rEs_cons, rEs_nil, rE_var, e9, R.bind_ok, ev]
      show R.bind (callF (.p 2 g) [.d .none, .d .none] s) _ = _
      rw [el]; rfl
    have c3 : runE Φ (.cmp .notN (.var 9) (.cst .none)) (ρ.set 9 (some (.d .none))) s = .ok (.d (.bool false)) s := by
      simp only [rE_cmp, rE_var, e9, R.bind_ok, rE_cst]
      rfl
    rw [rB_cons, ite_F c2, rB_nil, R.sq_nx, rB_cons, ite_F c3, rB_nil, R.sq_nx]
  | cons L Q =>
    have hnl : Nd 2 (.list (L.map rowD)) = true := hN L List.mem_cons_self
    have g9 : (s ++ [Cell.lst (L.map rowD)])[s.length]? = some (.lst (L.map rowD)) := by simp
    have ec : runE Φ (.thc f (.cons (.var 7) (.cons (.var 3) (.cons (.var 4) .nil)))) ρ s = .ok (.h s.length) (s ++ [.lst (L.map rowD)]) := by
      have e0 : callX φ [T, H, Wd] s = .ok (.l (L.map rowD)) s := e0
      simp [hf, r7, r3, r4, callT, e0, rvT]
    refine ⟨some (.h s.length), (s ++ [Cell.lst (L.map rowD)]).set s.length (.lst []), ?_⟩
    rw [step1 (set_n ec)]
    have el := like_live Lk g9 hnl
    have c2 : runE Φ (.not (.call 29 (.cons (.var 9) (.cons (E_due v) .nil)))) (ρ.set 9 (some (.h s.length))) (s ++ [.lst (L.map rowD)]) = .ok (.d (.bool false)) (s ++ [.lst (L.map rowD)]) := by
      have ev := ev (some (.h s.length)) (s ++ [.lst (L.map rowD)])
      generalize E_due v = X at ev ⊢
      simp only [rE_not, rE_call, h29, rEs_cons, rEs_nil, rE_var, e9, R.bind_ok, ev]
      show R.bind (callF (.p 2 g) [.h s.length, .d (.list (L.map rowD))] _) _ = _
      rw [el]; rfl
    have c3 : runE Φ (.cmp .notN (.var 9) (.cst .none)) (ρ.set 9 (some (.h s.length))) (s ++ [.lst (L.map rowD)]) = .ok (.d (.bool true)) (s ++ [.lst (L.map rowD)]) := by
      simp only [rE_cmp, rE_var, e9, R.bind_ok, rE_cst, see, g9]
      rfl
    have c4 : runS Φ n (.ex (.clr (.var 9))) (ρ.set 9 (some (.h s.length))) (s ++ [.lst (L.map rowD)]) = .ok (.nx, ρ.set 9 (some (.h s.length))) ((s ++ [Cell.lst (L.map rowD)]).set s.length (.lst [])) := by
      simp only [rS_ex, rE_clr, rE_var, e9, R.bind_ok, clrW, g9, R.st_ok]
    rw [rB_cons, ite_F c2, rB_nil, R.sq_nx, rB_cons, ite_T c3, step1 c4, rB_nil, R.sq_nx]
end
def B_law08 : List S := [(.asg (.n 1) (.thc 9 (.cons (.var 0) .nil))), (.asg (.n 2) (.call 50 (.cons (.var 1) (.cons (.cst (.int 5)) .nil)))), (.asg (.t [3, 4]) (.call 47 (.cons (.var 1) (.cons (.bi .len (.cons (.var 2) .nil)) (.cons (.cst (.int 4096)) .nil))))), (.asg (.n 5) (.call 27 (.cons (.var 2) (.cons (.var 3) (.cons (.var 4) .nil))))), (.asg (.n 6) (.fr (.comp (.seq (.var 5)) (.n 10) [10] (.some (.call 45 (.cons (.var 2) (.cons (.var 10) .nil)))) (.var 10)))), (.asg (.n 7) (.mk 2 (.cons (.var 2) .nil))), (.for (.n 8) (.rng1 (.cst (.int 2))) B_turn08), (.ret (.cst (.bool true)))]
/-- a size of the law's is one that is gone on with -/
theorem size_F {ts : List Tile} {h w M : Nat} (t0 : 1 ≤ ts.length) (t2 : ts.length ≤ 200) (h0 : 1 ≤ h) (h4 : h ≤ 4) (w0 : 1 ≤ w) (w4 : w ≤ 4) (hz : ts.length ^ (h * w) ≤ M) (hM : M ≤ 900000) : SizeF ts h w := by
  refine ⟨t0, t2, h0, by omega, w0, by omega, ?_⟩
  have h1 : ts.length ^ w ≤ ts.length ^ (h * w) := Nat.pow_le_pow_right t0 (Nat.le_mul_of_pos_left _ h0)
  have h2 : h * w ≤ 4 * 4 := Nat.mul_le_mul h4 w4
  have h3 : h * w * ts.length ^ w ≤ 16 * 900000 := Nat.mul_le_mul h2 (by omega)
  omega
theorem law08 {Φ : Phi} {n : Nat} {φ9 φ50 φ47 φ27 φ45 φ69 φ82 : Fs} {g : List W → Option Ro} {ψ : Ms} (h9 : Φ.fn 9 = some φ9) (D : DiceOk φ9) (h50 : Φ.fn 50 = some φ50) (Ti : TilesOk φ50) (h47 : Φ.fn 47 = some φ47) (Si : SizeOk φ47) (h27 : Φ.fn 27 = some φ27) (Lg : LayingsOk φ27)
    (h45 : Φ.fn 45 = some φ45) (Ro : RollsOk φ45) (h29 : Φ.fn 29 = some (.p 2 g)) (Lk : LikeOk (.p 2 g) 2) (h69 : Φ.fn 69 = some φ69) (La : FirstOk φ69 (fun ts h w => layF ts w (h * w)) 16) (h82 : Φ.fn 82 = some φ82) (Rl : FirstOk φ82 rolF 16) (hψ : Φ.cl 2 = some ψ) (K : MkTiles ψ) (ns : List Int) (hl : ns.length ≤ 63) : gP Φ n B_law08 11 [.d (.list (ns.map .int))] = some (.ret (.d (.bool true))) := by
  have sp : sizeLine = 16777216 := by decide
  obtain ⟨l, dl, e1⟩ := D ns [] hl
  obtain ⟨ts, c2, t0, t1, tk, d2, e2⟩ := Ti [.lst l] 0 (.lst l) 5 dl rfl rfl (by decide) (by decide)
  replace e2 := callF_X e2
  simp only [List.set_cons_zero] at e2
  have t2 : ts.length ≤ 200 := by omega
  obtain ⟨lst2, rfl⟩ := d2.lst
  obtain ⟨h, w, c3, h0, h4, w0, w4, hz, d3, e3⟩ := Si [.lst lst2] 0 (.lst lst2) ts.length 4096 d2 rfl rfl t0 (by omega) (by omega)
  simp only [List.set_cons_zero] at e3
  rw [show ((4096 : Nat) : Int) = 4096 from rfl] at e3
  have e5 := callF_X (Lg ts h w [c3] t0 t2 h0 (by omega) w0 (by omega) (by omega))
  have hS : SizeF ts h w := size_F t0 t2 h0 h4 w0 w4 hz (by omega)
  have hD : h * w ≤ 16 := Nat.mul_le_mul h4 w4
  have e69 := fun s => La ts h w s hS hD
  have e82 := fun s => Rl ts h w s hS hD
  have eE : ((layF ts w (h * w)).map fun r => layD (rowsOf h w r)) = ((layF ts w (h * w)).map (rowsOf h w)).map layD := by rw [List.map_map]; rfl
  rw [eE] at e5
  have e6 := K ts [c3] t0 t2 tk
  have hLs : ∀ L ∈ (layF ts w (h * w)).map (rowsOf h w), L.length = h ∧ LayOk ts.length w L := fun L hL => by
    obtain ⟨r, hr, rfl⟩ := List.mem_map.mp hL
    obtain ⟨q1, q2⟩ := layF_mem hr
    exact ⟨rowsOf_len _ _ _, rowsOf_ok q1 q2⟩
  have hn : ((layF ts w (h * w)).map (rowsOf h w)).length ≤ 4096 := by rw [List.length_map]; exact Nat.le_trans (layF_len ts w (h * w)) hz
  have f1 : (layF ts w (h * w)).head?.map (fun r => (rowsOf h w r).map rowD) = ((layF ts w (h * w)).map (rowsOf h w)).head?.map fun L => L.map rowD := by
    cases layF ts w (h * w) <;> rfl
  have f2 : (rolF ts h w).head?.map (fun r => (rowsOf h w r).map rowD) = (((layF ts w (h * w)).map (rowsOf h w)).filter (rollsD ts w)).head?.map fun L => L.map rowD := by
    rw [List.filter_map]
    unfold rolF
    show ((layF ts w (h * w)).filter fun r => rollsD ts w (rowsOf h w r)).head?.map _ = (((layF ts w (h * w)).filter fun r => rollsD ts w (rowsOf h w r)).map (rowsOf h w)).head?.map _
    cases (layF ts w (h * w)).filter fun r => rollsD ts w (rowsOf h w r) <;> rfl
  simp only [f1] at e69
  simp only [f2] at e82
  generalize hg : (layF ts w (h * w)).map (rowsOf h w) = Ls at e5 e69 e82 hLs hn
  have hN : ∀ L ∈ Ls, Nd 2 (layD L) = true := fun L hL => by
    obtain ⟨l1, l2⟩ := hLs L hL
    exact layOk_Nd l2 (by omega) (by omega)
  have fl : (Ls.filter (rollsD ts w)).length ≤ Ls.length := List.length_filter_le _ _
  have e1' : runS Φ n (.asg (.n 1) (.thc 9 (.cons (.var 0) .nil))) (startE 11 [.d (.list (ns.map .int))]) [] = .ok (.nx, [some (.d (.list (ns.map .int))), some (.h 0), none, none, none, none, none, none, none, none, none]) [.lst l] := by
    have e1 := callL_X e1
    exact set_n (by simp [startE, h9, callT, e1, rvT])
  have e2' : runS Φ n (.asg (.n 2) (.call 50 (.cons (.var 1) (.cons (.cst (.int 5)) .nil)))) [some (.d (.list (ns.map .int))), some (.h 0), none, none, none, none, none, none, none, none, none] [.lst l] = .ok (.nx, [some (.d (.list (ns.map .int))), some (.h 0), some (.d (rowsD ts)), none, none, none, none, none, none, none, none]) [.lst lst2] := set_n (by simp [-List.map_map, h50, e2])
  have e3' : runS Φ n (.asg (.t [3, 4]) (.call 47 (.cons (.var 1) (.cons (.bi .len (.cons (.var 2) .nil)) (.cons (.cst (.int 4096)) .nil))))) [some (.d (.list (ns.map .int))), some (.h 0), some (.d (rowsD ts)), none, none, none, none, none, none, none, none] [.lst lst2] = .ok (.nx, [some (.d (.list (ns.map .int))), some (.h 0), some (.d (rowsD ts)), some (.d (.int (h : Int))), some (.d (.int (w : Int))), none, none, none, none, none, none]) [c3] := by
    simp [-List.map_map, h47, seeAll, e3, asgT, setAll]
  have e5' : runS Φ n (.asg (.n 5) (.call 27 (.cons (.var 2) (.cons (.var 3) (.cons (.var 4) .nil))))) [some (.d (.list (ns.map .int))), some (.h 0), some (.d (rowsD ts)), some (.d (.int (h : Int))), some (.d (.int (w : Int))), none, none, none, none, none, none] [c3] = .ok (.nx, [some (.d (.list (ns.map .int))), some (.h 0), some (.d (rowsD ts)), some (.d (.int (h : Int))), some (.d (.int (w : Int))), some (.d (.list (Ls.map layD))), none, none, none, none, none]) [c3] := set_n (by simp [-List.map_map, h27, e5])
  have key : compT Φ (.n 10) [10] (.some (.call 45 (.cons (.var 2) (.cons (.var 10) .nil)))) (.var 10) [some (.d (.list (ns.map .int))), some (.h 0), some (.d (rowsD ts)), some (.d (.int (h : Int))), some (.d (.int (w : Int))), some (.d (.list (Ls.map layD))), none, none, none, none, none] (.ok (Ls.map layD) [c3]) = .ok ((Ls.filter (rollsD ts w)).map layD) [c3] := by
    refine compT_fm (by omega) fun L hL => ?_
    obtain ⟨l1, l2⟩ := hLs L hL
    have er := Ro ts w L [c3] l2 (by omega) w0 (by omega)
    refine turnK_c (s' := [c3]) ?_ (fun _ => rfl) fun _ => rfl
    show runE Φ (.call 45 (.cons (.var 2) (.cons (.var 10) .nil))) [some (.d (.list (ns.map .int))), some (.h 0), some (.d (rowsD ts)), some (.d (.int (h : Int))), some (.d (.int (w : Int))), some (.d (.list (Ls.map layD))), none, none, none, none, some (.d (layD L))] [c3] = _
    simp only [rE_call, h45, rEs_cons, rEs_nil, rE_var]
    exact er
  have e6' : runS Φ n (.asg (.n 6) (.fr (.comp (.seq (.var 5)) (.n 10) [10] (.some (.call 45 (.cons (.var 2) (.cons (.var 10) .nil)))) (.var 10)))) [some (.d (.list (ns.map .int))), some (.h 0), some (.d (rowsD ts)), some (.d (.int (h : Int))), some (.d (.int (w : Int))), some (.d (.list (Ls.map layD))), none, none, none, none, none] [c3] = .ok (.nx, [some (.d (.list (ns.map .int))), some (.h 0), some (.d (rowsD ts)), some (.d (.int (h : Int))), some (.d (.int (w : Int))), some (.d (.list (Ls.map layD))), some (.d (.list ((Ls.filter (rollsD ts w)).map layD))), none, none, none, none]) [c3] := by
    refine set_n ?_
    have eI : runI Φ (.seq (.var 5)) [some (.d (.list (ns.map .int))), some (.h 0), some (.d (rowsD ts)), some (.d (.int (h : Int))), some (.d (.int (w : Int))), some (.d (.list (Ls.map layD))), none, none, none, none, none] [c3] = .ok (Ls.map layD) [c3] := rfl
    rw [rE_fr, rF_comp, eI, key]
    rfl
  have e7' : runS Φ n (.asg (.n 7) (.mk 2 (.cons (.var 2) .nil))) [some (.d (.list (ns.map .int))), some (.h 0), some (.d (rowsD ts)), some (.d (.int (h : Int))), some (.d (.int (w : Int))), some (.d (.list (Ls.map layD))), some (.d (.list ((Ls.filter (rollsD ts w)).map layD))), none, none, none, none] [c3] = .ok (.nx, [some (.d (.list (ns.map .int))), some (.h 0), some (.d (rowsD ts)), some (.d (.int (h : Int))), some (.d (.int (w : Int))), some (.d (.list (Ls.map layD))), some (.d (.list ((Ls.filter (rollsD ts w)).map layD))), some (setW ts), none, none, none]) [c3] := set_n (by
    simp only [rE_mk, hψ, rEs_cons, rEs_nil, rE_var]
    exact e6)
  unfold B_law08
  show endP (runB Φ n _ (startE 11 [.d (.list (ns.map .int))]) []) = _
  rw [step1 e1', step1 e2', step1 e3', step1 e5', step1 e6', step1 e7', rB_cons]
  obtain ⟨ρ', s', e, o8', o9', hρ⟩ := forK_pre (Φ := Φ) (n := n) (t := .n 8) (b := B_turn08) iD
    (fun _ ρ _ => ∃ o8' o9', ρ = [some (.d (.list (ns.map .int))), some (.h 0), some (.d (rowsD ts)), some (.d (.int (h : Int))), some (.d (.int (w : Int))), some (.d (.list (Ls.map layD))), some (.d (.list ((Ls.filter (rollsD ts w)).map layD))), some (setW ts), o8', o9', none])
    (List.range 2) [some (.d (.list (ns.map .int))), some (.h 0), some (.d (rowsD ts)), some (.d (.int (h : Int))), some (.d (.int (w : Int))), some (.d (.list (Ls.map layD))), some (.d (.list ((Ls.filter (rollsD ts w)).map layD))), some (setW ts), none, none, none] [c3] ⟨none, none, rfl⟩ fun pre t post ρ s ep ⟨o8', o9', hρ⟩ => by
      subst hρ
      obtain ⟨p9, s1, q1⟩ := half_run (Φ := Φ) (n := n) (v := 5) (ρ := [some (.d (.list (ns.map .int))), some (.h 0), some (.d (rowsD ts)), some (.d (.int (h : Int))), some (.d (.int (w : Int))), some (.d (.list (Ls.map layD))), some (.d (.list ((Ls.filter (rollsD ts w)).map layD))), some (setW ts), some (.d (.int (t : Int))), o9', none]) h69 h29 Lk (by decide) (by show 9 < 11; decide) rfl rfl rfl (Q := Ls) rfl (by omega) hN e69 s (r := [S_h1 82, S_h2 6, S_h3])
      obtain ⟨r9, s2, q2⟩ := half_run (Φ := Φ) (n := n) (v := 6) (ρ := [some (.d (.list (ns.map .int))), some (.h 0), some (.d (rowsD ts)), some (.d (.int (h : Int))), some (.d (.int (w : Int))), some (.d (.list (Ls.map layD))), some (.d (.list ((Ls.filter (rollsD ts w)).map layD))), some (setW ts), some (.d (.int (t : Int))), p9, none]) h82 h29 Lk (by decide) (by show 9 < 11; decide) rfl rfl rfl (Q := Ls.filter (rollsD ts w)) rfl (by omega) (fun L hL => hN L (List.mem_filter.mp hL).1) e82 s1 (r := [])
      exact ⟨_, _, s2, rfl, .inl (q1.trans (q2.trans (rB_nil ..))), some (.d (.int (t : Int))), r9, rfl⟩
  subst hρ
  have eI : ∀ ρ : Env, runI Φ (.rng1 (.cst (.int 2))) ρ [c3] = .ok ((List.range 2).map iD) [c3] := fun ρ => rfl
  rw [rS_for, eI, forS_ok, e]
  rfl
end DM

set_option maxRecDepth 100000
/-! K16b: the law k16. -/
namespace DM
open PySem
theorem compK_drawsG {Φ : Phi} {tg : Tg} {own : List Nat} {c : Oe} {e : E} {ρ : Env} {β : Type} {d : β → PyData} {P : β → Prop} (st : Cell → List Cell) : ∀ (items : List PyData) (c0 : Cell), OkDice c0 →
    (∀ x ∈ items, ∀ c1, OkDice c1 → ∃ c2 y, turnK Φ tg own c e ρ x (st c1) = .ok (some (d y)) (st c2) ∧ OkDice c2 ∧ P y) →
    ∃ (c2 : Cell) (ys : List β), compK Φ tg own c e ρ items (st c0) = .ok (ys.map d) (st c2) ∧ OkDice c2 ∧ ys.length = items.length ∧ ∀ y ∈ ys, P y
  | [], c0, h0, _ => ⟨c0, [], rfl, h0, rfl, by simp⟩
  | x :: xs, c0, h0, h => by
    obtain ⟨c1, y, e1, h1, p1⟩ := h x List.mem_cons_self c0 h0
    obtain ⟨c2, ys, e2, h2, l2, p2⟩ := compK_drawsG st xs c1 h1 fun z hz => h z (List.mem_cons_of_mem _ hz)
    refine ⟨c2, y :: ys, ?_, h2, by simp [l2], ?_⟩
    · show (match turnK Φ tg own c e ρ x (st c0) with
        | .ok y s => (compK Φ tg own c e ρ xs s).bind fun ys s => match y with | some y => R.ok (y :: ys) s | none => R.ok ys s
        | _ => R.no) = _
      rw [e1]
      simp only [e2, R.bind_ok, List.map_cons]
    · intro z hz
      rcases List.mem_cons.mp hz with rfl | hz
      · exact p1
      · exact p2 z hz
/-! ### equality of lists of numbers -/
theorem eqvAll_nat : ∀ a b : List Nat, PyData.eqvAll (a.map iD) (b.map iD) = decide (a = b)
  | [], [] => rfl
  | [], _ :: _ => rfl
  | _ :: _, [] => rfl
  | x :: a, y :: b => by
    show ((PyData.int (x : Int)).eqv (.int (y : Int)) && PyData.eqvAll (a.map iD) (b.map iD)) = _
    rw [eqvAll_nat a b]
    have e : (PyData.int (x : Int)).eqv (.int (y : Int)) = decide (x = y) := by
      by_cases h : x = y
      · subst h; simp [PyData.eqv]
      · have h' : ¬ (x : Int) = (y : Int) := by omega
        simp [PyData.eqv, h, h']
    rw [e]
    by_cases h : x = y <;> by_cases h2 : a = b <;> simp [h, h2]
theorem nums_Nd {l : List Nat} (h : l.length ≤ 1000) : Nd 1 (.list (l.map iD)) = true := by
  have sp : sizeLine = 16777216 := by decide
  simp only [Nd, Bool.and_eq_true, decide_eq_true_eq, List.length_map, List.all_map, List.all_eq_true]
  exact ⟨by omega, fun _ _ => rfl⟩
theorem c_ne_nums {a b : List Nat} (ha : a.length ≤ 1000) (hb : b.length ≤ 1000) : cmpD .ne (.list (a.map iD)) (.list (b.map iD)) = some (!decide (a = b)) := by
  show (if okD (.list (a.map iD)) && okD (.list (b.map iD)) then some (!(PyData.list (a.map iD)).eqv (.list (b.map iD))) else none) = _
  rw [Nd_okD (by decide) (nums_Nd ha), Nd_okD (by decide) (nums_Nd hb)]
  have : (PyData.list (a.map iD)).eqv (.list (b.map iD)) = decide (a = b) := by
    rw [← eqvAll_nat]; simp [PyData.eqv]
  rw [this]; rfl
theorem any_nat (x : Nat) : ∀ l : List Nat, ((l.map iD).any fun z => z.eqv (.int (x : Int))) = decide (x ∈ l)
  | [] => rfl
  | y :: l => by
    rw [List.map_cons, List.any_cons, any_nat x l]
    by_cases h : x = y
    · subst h; simp [PyData.eqv]
    · have h' : ¬ (y : Int) = (x : Int) := by omega
      simp [PyData.eqv, h, h']
theorem c_notin_nums {x : Nat} {l : List Nat} (hl : l.length ≤ 1000) : cmpD .notIn (.int (x : Int)) (.list (l.map iD)) = some (!decide (x ∈ l)) := by
  show (if okD (.int (x : Int)) && okD (.list (l.map iD)) then some (!(l.map iD).any fun z => z.eqv (.int (x : Int))) else none) = _
  rw [Nd_okD (n := 1) (by decide) rfl, Nd_okD (by decide) (nums_Nd hl), any_nat]
  rfl
theorem c_notin4 {a b c d : List Nat} (ha : a.length ≤ 1000) (hb : b.length ≤ 1000) (hc : c.length ≤ 1000) (hd : d.length ≤ 1000) : cmpD .notIn (.list []) (.list [.list (a.map iD), .list (b.map iD), .list (c.map iD), .list (d.map iD)]) = some (!(a.isEmpty || (b.isEmpty || (c.isEmpty || d.isEmpty)))) := by
  show (if okD (.list []) && okD (.list [.list (a.map iD), .list (b.map iD), .list (c.map iD), .list (d.map iD)]) then some (![PyData.list (a.map iD), .list (b.map iD), .list (c.map iD), .list (d.map iD)].any fun z => z.eqv (.list [])) else none) = _
  have h4 : Nd 2 (.list [.list (a.map iD), .list (b.map iD), .list (c.map iD), .list (d.map iD)]) = true := by
    have := nums_Nd ha
    have := nums_Nd hb
    have := nums_Nd hc
    have := nums_Nd hd
    have z : (4 : Nat) ≤ sizeLine := by decide
    simp only [Nd, Bool.and_eq_true, decide_eq_true_eq, List.all_cons, List.all_nil, List.length_cons, List.length_nil] at *
    exact ⟨z, by assumption, by assumption, by assumption, by assumption, trivial⟩
  have h0 : okD (.list []) = true := Nd_okD (n := 1) (by decide) (nums_Nd (l := []) (by simp))
  rw [h0, Nd_okD (n := 2) (by decide) h4]
  have e : ∀ l : List Nat, (PyData.list (l.map iD)).eqv (.list []) = l.isEmpty := fun l => by cases l <;> simp [PyData.eqv, PyData.eqvAll]
  simp only [List.any_cons, List.any_nil, e, Bool.or_false]
  rfl
/-! ### held -/
def sel (a : Nat) (t : Tile) : Int := match a with
  | 0 => t.n
  | 1 => t.e
  | 2 => t.s
  | _ => t.w
theorem at_sel {a : Nat} (h : a < 4) (t : Tile) : atD [.int t.n, .int t.e, .int t.s, .int t.w] (a : Int) = some (.int (sel a t)) := by
  have : a = 0 ∨ a = 1 ∨ a = 2 ∨ a = 3 := by omega
  rcases this with rfl | rfl | rfl | rfl <;> rfl
abbrev C_dir (a b : Int) : E := .cmp .eq (.idx (.idx (.var 0) (.var 8)) (.cst (.int a))) (.idx (.idx (.var 0) (.var 3)) (.cst (.int b)))
abbrev E_dir (a b : Int) : E := .fr (.comp (.seq (.var 1)) (.n 8) [8] (.some (C_dir a b)) (.var 8))
abbrev E_no4 : E := .cmp .notIn (.fr (.lst .nil)) (.fr (.lst (.cons (.var 4) (.cons (.var 5) (.cons (.var 6) (.cons (.var 7) .nil))))))
abbrev B_heldIn : List S := [(.asg (.n 4) (E_dir 2 0)), (.asg (.n 5) (E_dir 3 1)), (.asg (.n 6) (E_dir 0 2)), (.asg (.n 7) (E_dir 1 3)), (.ite E_no4 [(.ex (.app (.var 2) (.var 3)))] [])]
def B_held : List S := [(.asg (.n 2) (.th (.lst .nil))), (.for (.n 3) (.seq (.var 1)) B_heldIn), (.ret (.var 2))]
def HeldOk (φ : Fs) : Prop := ∀ (ts : List Tile) (left : List Nat) (s : List Cell), ts.length ≤ 200 → left.length ≤ 200 → (∀ i ∈ left, i < ts.length) → callF φ [.d (rowsD ts), .d (.list (left.map iD))] s = .ok (.d (.list ((stepL ts left).map iD))) s
section
variable {Φ : Phi} {n : Nat}
theorem dir_run {a b : Nat} (ha : a < 4) (hb : b < 4) {ts : List Tile} {left : List Nat} {x : Nat} (hn : left.length ≤ 200) (hl : ∀ i ∈ left, i < ts.length) (hx : x < ts.length) {o2 o4 o5 o6 o7 o8 : Option W} {s : List Cell} :
    runE Φ (E_dir (a : Int) (b : Int)) [some (.d (rowsD ts)), some (.d (.list (left.map iD))), o2, some (.d (.int (x : Int))), o4, o5, o6, o7, o8] s = .ok (.d (.list ((left.filter fun o => decide (sel a (tl ts o) = sel b (tl ts x))).map iD))) s := by
  have sp : sizeLine = 16777216 := by decide
  have key : compT Φ (.n 8) [8] (.some (C_dir (a : Int) (b : Int))) (.var 8) [some (.d (rowsD ts)), some (.d (.list (left.map iD))), o2, some (.d (.int (x : Int))), o4, o5, o6, o7, o8] (.ok (left.map iD) s) = .ok ((left.filter fun o => decide (sel a (tl ts o) = sel b (tl ts x))).map iD) s := by
    refine compT_fm (by omega) fun o ho => ?_
    refine turnK_c (s' := s) ?_ (fun _ => rfl) fun _ => rfl
    show runE Φ (C_dir (a : Int) (b : Int)) [some (.d (rowsD ts)), some (.d (.list (left.map iD))), o2, some (.d (.int (x : Int))), o4, o5, o6, o7, some (.d (.int (o : Int)))] s = _
    have e1 := at_rows (hl o ho)
    have e2 := at_rows hx
    have e3 := at_sel ha (tl ts o)
    have e4 := at_sel hb (tl ts x)
    simp only [rowsD]
    simp [-List.map_map, see, e1, e2, Tile.d, e3, e4]
  have eI : runI Φ (.seq (.var 1)) [some (.d (rowsD ts)), some (.d (.list (left.map iD))), o2, some (.d (.int (x : Int))), o4, o5, o6, o7, o8] s = .ok (left.map iD) s := rfl
  rw [rE_fr, rF_comp, eI, key]
  rfl
theorem isEmpty_filter (p : Nat → Bool) (l : List Nat) : (l.filter p).isEmpty = !l.any p := by
  induction l with
  | nil => rfl
  | cons x l ih =>
    rw [List.filter_cons, List.any_cons]
    cases h : p x with
    | true => rfl
    | false => simpa using ih
theorem nb_four {ts : List Tile} {left : List Nat} {x : Nat} : (!((left.filter fun o => decide (sel 2 (tl ts o) = sel 0 (tl ts x))).isEmpty || ((left.filter fun o => decide (sel 3 (tl ts o) = sel 1 (tl ts x))).isEmpty || ((left.filter fun o => decide (sel 0 (tl ts o) = sel 2 (tl ts x))).isEmpty || (left.filter fun o => decide (sel 1 (tl ts o) = sel 3 (tl ts x))).isEmpty)))) = nbB ts left x := by
  simp only [isEmpty_filter]
  unfold nbB
  have e1 : (fun o => decide (sel 2 (tl ts o) = sel 0 (tl ts x))) = fun o => belowB ts o x := rfl
  have e2 : (fun o => decide (sel 3 (tl ts o) = sel 1 (tl ts x))) = fun o => besideB ts x o := by
    funext o; unfold besideB sel; exact decide_eq_decide.mpr eq_comm
  have e3 : (fun o => decide (sel 0 (tl ts o) = sel 2 (tl ts x))) = fun o => belowB ts x o := by
    funext o; unfold belowB sel; exact decide_eq_decide.mpr eq_comm
  have e4 : (fun o => decide (sel 1 (tl ts o) = sel 3 (tl ts x))) = fun o => besideB ts o x := rfl
  rw [e1, e2, e3, e4]
  cases left.any fun o => belowB ts o x <;> cases left.any fun o => besideB ts x o <;> cases left.any fun o => belowB ts x o <;> cases left.any fun o => besideB ts o x <;> rfl
theorem held_in {ts : List Tile} {left : List Nat} {x : Nat} (hn : left.length ≤ 200) (hl : ∀ i ∈ left, i < ts.length) (hx : x < ts.length) {acc : List PyData} (hacc : acc.length ≤ 1000) {o4 o5 o6 o7 o8 : Option W} :
    ∃ o4' o5' o6' o7', runB Φ n B_heldIn [some (.d (rowsD ts)), some (.d (.list (left.map iD))), some (.h 0), some (.d (.int (x : Int))), o4, o5, o6, o7, o8] [.lst acc] = .ok (.nx, [some (.d (rowsD ts)), some (.d (.list (left.map iD))), some (.h 0), some (.d (.int (x : Int))), o4', o5', o6', o7', o8]) [.lst (if nbB ts left x then acc ++ [iD x] else acc)] := by
  have sp : sizeLine = 16777216 := by decide
  have fl : ∀ p : Nat → Bool, (left.filter p).length ≤ 1000 := fun p => by have := List.length_filter_le p left; omega
  have z4 : (4 : Nat) ≤ sizeLine := by decide
  have z0 : (0 : Nat) ≤ sizeLine := Nat.zero_le _
  have q1 := dir_run (Φ := Φ) (a := 2) (b := 0) (by decide) (by decide) hn hl hx (o2 := some (.h 0)) (o4 := o4) (o5 := o5) (o6 := o6) (o7 := o7) (o8 := o8) (s := [.lst acc])
  have q2 := fun o4 => dir_run (Φ := Φ) (a := 3) (b := 1) (by decide) (by decide) hn hl hx (o2 := some (.h 0)) (o4 := o4) (o5 := o5) (o6 := o6) (o7 := o7) (o8 := o8) (s := [.lst acc])
  have q3 := fun o4 o5 => dir_run (Φ := Φ) (a := 0) (b := 2) (by decide) (by decide) hn hl hx (o2 := some (.h 0)) (o4 := o4) (o5 := o5) (o6 := o6) (o7 := o7) (o8 := o8) (s := [.lst acc])
  have q4 := fun o4 o5 o6 => dir_run (Φ := Φ) (a := 1) (b := 3) (by decide) (by decide) hn hl hx (o2 := some (.h 0)) (o4 := o4) (o5 := o5) (o6 := o6) (o7 := o7) (o8 := o8) (s := [.lst acc])
  have c4 := c_notin4 (fl fun o => decide (sel 2 (tl ts o) = sel 0 (tl ts x))) (fl fun o => decide (sel 3 (tl ts o) = sel 1 (tl ts x))) (fl fun o => decide (sel 0 (tl ts o) = sel 2 (tl ts x))) (fl fun o => decide (sel 1 (tl ts o) = sel 3 (tl ts x)))
  rw [nb_four] at c4
  generalize (left.filter fun o => decide (sel 2 (tl ts o) = sel 0 (tl ts x))) = A at q1 c4
  generalize (left.filter fun o => decide (sel 3 (tl ts o) = sel 1 (tl ts x))) = B at q2 c4
  generalize (left.filter fun o => decide (sel 0 (tl ts o) = sel 2 (tl ts x))) = C at q3 c4
  generalize (left.filter fun o => decide (sel 1 (tl ts o) = sel 3 (tl ts x))) = D at q4 c4
  refine ⟨some (.d (.list (A.map iD))), some (.d (.list (B.map iD))), some (.d (.list (C.map iD))), some (.d (.list (D.map iD))), ?_⟩
  have e1 : runS Φ n (.asg (.n 4) (E_dir 2 0)) [some (.d (rowsD ts)), some (.d (.list (left.map iD))), some (.h 0), some (.d (.int (x : Int))), o4, o5, o6, o7, o8] [.lst acc] = .ok (.nx, [some (.d (rowsD ts)), some (.d (.list (left.map iD))), some (.h 0), some (.d (.int (x : Int))), some (.d (.list (A.map iD))), o5, o6, o7, o8]) [.lst acc] := set_n q1
  have e2 : runS Φ n (.asg (.n 5) (E_dir 3 1)) [some (.d (rowsD ts)), some (.d (.list (left.map iD))), some (.h 0), some (.d (.int (x : Int))), some (.d (.list (A.map iD))), o5, o6, o7, o8] [.lst acc] = .ok (.nx, [some (.d (rowsD ts)), some (.d (.list (left.map iD))), some (.h 0), some (.d (.int (x : Int))), some (.d (.list (A.map iD))), some (.d (.list (B.map iD))), o6, o7, o8]) [.lst acc] := set_n (q2 _)
  have e3 : runS Φ n (.asg (.n 6) (E_dir 0 2)) [some (.d (rowsD ts)), some (.d (.list (left.map iD))), some (.h 0), some (.d (.int (x : Int))), some (.d (.list (A.map iD))), some (.d (.list (B.map iD))), o6, o7, o8] [.lst acc] = .ok (.nx, [some (.d (rowsD ts)), some (.d (.list (left.map iD))), some (.h 0), some (.d (.int (x : Int))), some (.d (.list (A.map iD))), some (.d (.list (B.map iD))), some (.d (.list (C.map iD))), o7, o8]) [.lst acc] := set_n (q3 _ _)
  have e4 : runS Φ n (.asg (.n 7) (E_dir 1 3)) [some (.d (rowsD ts)), some (.d (.list (left.map iD))), some (.h 0), some (.d (.int (x : Int))), some (.d (.list (A.map iD))), some (.d (.list (B.map iD))), some (.d (.list (C.map iD))), o7, o8] [.lst acc] = .ok (.nx, [some (.d (rowsD ts)), some (.d (.list (left.map iD))), some (.h 0), some (.d (.int (x : Int))), some (.d (.list (A.map iD))), some (.d (.list (B.map iD))), some (.d (.list (C.map iD))), some (.d (.list (D.map iD))), o8]) [.lst acc] := set_n (q4 _ _ _)
  have ec : runE Φ E_no4 [some (.d (rowsD ts)), some (.d (.list (left.map iD))), some (.h 0), some (.d (.int (x : Int))), some (.d (.list (A.map iD))), some (.d (.list (B.map iD))), some (.d (.list (C.map iD))), some (.d (.list (D.map iD))), o8] [.lst acc] = .ok (.d (.bool (nbB ts left x))) [.lst acc] := by
    simp [-List.map_map, frzsR, frzAll, frz, z0, z4, see, c4]
  rw [step1 e1, step1 e2, step1 e3, step1 e4, rB_cons]
  cases hb : nbB ts left x with
  | true =>
    rw [hb] at ec
    have hl' : acc.length < sizeLine := by omega
    rw [ite_T ec]
    simp [isL, see, frzR, frz, appW, hl']
  | false =>
    rw [hb] at ec
    rw [ite_F ec]
    exact Eq.trans rfl rfl
theorem filt_iD (p : Nat → Bool) (pre : List Nat) (x : Nat) : (if p x then (pre.filter p).map iD ++ [iD x] else (pre.filter p).map iD) = ((pre ++ [x]).filter p).map iD := by
  rw [List.filter_append]
  cases h : p x <;> simp [h]
theorem held_ok : HeldOk (.p 2 (gP Φ n B_held 9)) := fun ts left s ht hn hl => by
  have sp : sizeLine = 16777216 := by decide
  refine callF_X (callXF rfl (vs := [.d (rowsD ts), .d (.list (left.map iD))]) rfl ?_)
  obtain ⟨ρ', s', e, o3, o4, o5, o6, o7, rfl, rfl⟩ := forK_pre (Φ := Φ) (n := n) (t := .n 3) (b := B_heldIn) iD
    (fun pre ρ s => ∃ o3 o4 o5 o6 o7, ρ = [some (.d (rowsD ts)), some (.d (.list (left.map iD))), some (.h 0), o3, o4, o5, o6, o7, none] ∧ s = [.lst ((pre.filter (nbB ts left)).map iD)])
    left [some (.d (rowsD ts)), some (.d (.list (left.map iD))), some (.h 0), none, none, none, none, none, none] [.lst []] ⟨none, none, none, none, none, rfl, rfl⟩ fun pre x post ρ s ep ⟨o3, o4, o5, o6, o7, hρ, hs⟩ => by
      subst hρ hs
      have hpl := pre_lt ep
      have hfl := List.length_filter_le (nbB ts left) pre
      obtain ⟨p4, p5, p6, p7, e⟩ := held_in (Φ := Φ) (n := n) hn hl (hl x (pre_mem ep)) (acc := (pre.filter (nbB ts left)).map iD) (by rw [List.length_map]; omega) (o4 := o4) (o5 := o5) (o6 := o6) (o7 := o7) (o8 := none)
      refine ⟨_, _, _, rfl, .inl e, some (.d (.int (x : Int))), p4, p5, p6, p7, rfl, ?_⟩
      exact congrArg (fun l => [Cell.lst l]) (filt_iD (nbB ts left) pre x)
  have e1 : runS Φ n (.asg (.n 2) (.th (.lst .nil))) [some (.d (rowsD ts)), some (.d (.list (left.map iD))), none, none, none, none, none, none, none] [] = .ok (.nx, [some (.d (rowsD ts)), some (.d (.list (left.map iD))), some (.h 0), none, none, none, none, none, none]) [.lst []] := by
    have z0 : (0 : Nat) ≤ sizeLine := Nat.zero_le _
    exact set_n (by simp [frzsR, frzAll, z0])
  show endP (runB Φ n B_held [some (.d (rowsD ts)), some (.d (.list (left.map iD))), none, none, none, none, none, none, none] []) = _
  have eI : runI Φ (.seq (.var 1)) [some (.d (rowsD ts)), some (.d (.list (left.map iD))), some (.h 0), none, none, none, none, none, none] [.lst []] = .ok (left.map iD) [.lst []] := rfl
  unfold B_held
  rw [step1 e1, rB_cons, rS_for, eI, forS_ok, e]
  rfl
end
/-! ### more tiles -/
abbrev E_four : E := .call 34 (.cons (.var 0) (.cons (.cst (.int 6)) .nil))
abbrev B_moreIn : List S := [(.ex (.app (.var 1) (.tupOf (.fr (.comp (.rng1 (.cst (.int 4))) (.n 3) [3] .none E_four)))))]
def B_more : List S := [(.asg (.n 1) (.th (.call 50 (.cons (.var 0) (.cons (.cst (.int 8)) .nil))))), (.ite (.cmp .eq (.call 34 (.cons (.var 0) (.cons (.cst (.int 3)) .nil))) (.cst (.int 2))) [(.for (.n 2) (.rng1 (.call 34 (.cons (.var 0) (.cons (.cst (.int 33)) .nil)))) B_moreIn)] []), (.ret (.var 1))]
def MoreOk (φ : Fs) : Prop := ∀ c : Cell, OkDice c → ∃ (ts : List Tile) (c' : Cell), 1 ≤ ts.length ∧ ts.length ≤ 40 ∧ (∀ t ∈ ts, t.ok) ∧ OkDice c' ∧ callX φ [.h 0] [c] = .ok (.l (ts.map Tile.d)) [c']
section
variable {Φ : Phi} {n : Nat} {φ : Fs}
theorem draw2 (N : NextOk φ) {c : Cell} (hd : OkDice c) (L : List PyData) {m : Int} (h0 : 0 < m) (h1 : m < 9223372036854775808) : ∃ (r : Int) (c' : Cell), 0 ≤ r ∧ r < m ∧ OkDice c' ∧ callF φ [.h 0, .d (.int m)] [c, .lst L] = .ok (.d (.int r)) [c', .lst L] := by
  obtain ⟨l, rfl⟩ := hd.lst
  obtain ⟨r, c', a, b, d, e⟩ := N [.lst l, .lst L] 0 (.lst l) m hd rfl rfl h0 h1
  exact ⟨r, c', a, b, d, e⟩
theorem more_in (h34 : Φ.fn 34 = some φ) (N : NextOk φ) {c : Cell} (hd : OkDice c) {ts : List Tile} (hl : ts.length ≤ 1000) {o2 : Option W} : ∃ (t : Tile) (c' : Cell), t.ok ∧ OkDice c' ∧ runB Φ n B_moreIn [some (.h 0), some (.h 1), o2, none] [c, .lst (ts.map Tile.d)] = .ok (.nx, [some (.h 0), some (.h 1), o2, none]) [c', .lst ((ts ++ [t]).map Tile.d)] := by
  have sp : sizeLine = 16777216 := by decide
  obtain ⟨c2, ys, e, d2, hy, hP⟩ := compK_drawsG (Φ := Φ) (tg := .n 3) (own := [3]) (c := .none) (e := E_four) (ρ := [some (.h 0), some (.h 1), o2, none]) (d := PyData.int) (P := fun y => 0 ≤ y ∧ y < 6) (fun c => [c, .lst (ts.map Tile.d)]) (upTo 0 4) c hd fun x _ c1 d1 => by
    obtain ⟨r, c', a, b, d, e⟩ := draw2 N d1 (ts.map Tile.d) (m := 6) (by decide) (by decide)
    refine ⟨c', r, turnK_e ?_, d, a, b⟩
    show runE Φ E_four [some (.h 0), some (.h 1), o2, some (.d x)] [c1, .lst (ts.map Tile.d)] = _
    simp only [rE_call, h34, rEs_cons, rEs_nil, rE_var, rE_cst]
    exact e
  have hy : ys.length = 4 := hy
  match ys, hy, hP, e with
  | [a, b, u, v], _, hP, e =>
    refine ⟨⟨a, b, u, v⟩, c2, ⟨?_, ?_, ?_, ?_⟩, d2, ?_⟩
    · have := hP a (by simp); exact ⟨this.1, Int.lt_trans this.2 (by decide)⟩
    · have := hP b (by simp); exact ⟨this.1, Int.lt_trans this.2 (by decide)⟩
    · have := hP u (by simp); exact ⟨this.1, Int.lt_trans this.2 (by decide)⟩
    · have := hP v (by simp); exact ⟨this.1, Int.lt_trans this.2 (by decide)⟩
    · have eI : runI Φ (.rng1 (.cst (.int 4))) [some (.h 0), some (.h 1), o2, none] [c, .lst (ts.map Tile.d)] = .ok (upTo 0 4) [c, .lst (ts.map Tile.d)] := rfl
      have ec : runE Φ (.tupOf (.fr (.comp (.rng1 (.cst (.int 4))) (.n 3) [3] .none E_four))) [some (.h 0), some (.h 1), o2, none] [c, .lst (ts.map Tile.d)] = .ok (.d (Tile.d ⟨a, b, u, v⟩)) [c2, .lst (ts.map Tile.d)] := by
        rw [rE_tupOf, rE_fr, rF_comp, eI, compT_ok1 _ _ _ _ _ _ _ _ (by rw [upTo_len]; omega), e]
        rfl
      have hlt : (ts.map Tile.d).length < sizeLine := by rw [List.length_map]; omega
      rw [rB_cons, rS_ex, rE_app]
      have i1 : isL (.h 1) [c, .lst (ts.map Tile.d)] = true := rfl
      have g1 : ([c2, Cell.lst (ts.map Tile.d)])[1]? = some (.lst (ts.map Tile.d)) := rfl
      generalize (E.tupOf (.fr (.comp (.rng1 (.cst (.int 4))) (.n 3) [3] .none E_four))) = X at ec ⊢
      have ev : runE Φ (.var 1) [some (.h 0), some (.h 1), o2, none] [c, .lst (ts.map Tile.d)] = .ok (.h 1) [c, .lst (ts.map Tile.d)] := rfl
      simp only [ev, R.bind_ok, i1, if_true, ec, frzR, frz, appW, g1, hlt, R.st_ok, List.map_append]
      exact Eq.trans rfl rfl
theorem more_ok {φ50 : Fs} (h34 : Φ.fn 34 = some φ) (N : NextOk φ) (h50 : Φ.fn 50 = some φ50) (Ti : TilesOk φ50) : MoreOk (.m 1 (gM Φ n B_more 4 0)) := fun c hd => by
  have sp : sizeLine = 16777216 := by decide
  obtain ⟨l0, rfl⟩ := hd.lst
  obtain ⟨ts, c2, t0, t1, tk, d2, e2⟩ := Ti [.lst l0] 0 (.lst l0) 8 hd rfl rfl (by decide) (by decide)
  simp only [List.set_cons_zero] at e2
  have e1 : runS Φ n (.asg (.n 1) (.th (.call 50 (.cons (.var 0) (.cons (.cst (.int 8)) .nil))))) [some (.h 0), none, none, none] [.lst l0] = .ok (.nx, [some (.h 0), some (.h 1), none, none]) [c2, .lst (ts.map Tile.d)] := by
    refine set_n ?_
    have e2 : callX φ50 [.h 0, .d (.int 8)] [.lst l0] = .ok (.l (ts.map Tile.d)) [c2] := e2
    have e3 : callL φ50 [.h 0, .d (.int 8)] [.lst l0] = .ok (ts.map Tile.d) [c2] := by unfold callL; rw [e2]; rfl
    simp only [rE_th, rF_call, h50, rEs_cons, rEs_nil, rE_var, rE_cst]
    show R.bind (callL φ50 [.h 0, .d (.int 8)] [.lst l0]) _ = _
    rw [e3]; rfl
  obtain ⟨r, c3, r0, r1, d3, e3⟩ := draw2 N d2 (ts.map Tile.d) (m := 3) (by decide) (by decide)
  have ec : runE Φ (.cmp .eq (.call 34 (.cons (.var 0) (.cons (.cst (.int 3)) .nil))) (.cst (.int 2))) [some (.h 0), some (.h 1), none, none] [c2, .lst (ts.map Tile.d)] = .ok (.d (.bool (decide (r = 2)))) [c3, .lst (ts.map Tile.d)] := by
    have : runE Φ (.call 34 (.cons (.var 0) (.cons (.cst (.int 3)) .nil))) [some (.h 0), some (.h 1), none, none] [c2, .lst (ts.map Tile.d)] = .ok (.d (.int r)) [c3, .lst (ts.map Tile.d)] := by
      simp only [rE_call, h34, rEs_cons, rEs_nil, rE_var, rE_cst]
      exact e3
    rw [rE_cmp, this]
    simp [see]
  -- what comes behind
  have key : ∃ (ts' : List Tile) (c' : Cell) (ρ' : Env), 1 ≤ ts'.length ∧ ts'.length ≤ 40 ∧ (∀ t ∈ ts', t.ok) ∧ OkDice c' ∧ runB Φ n B_more [some (.h 0), none, none, none] [.lst l0] = .ok (.ret (.h 1), ρ') [c', .lst (ts'.map Tile.d)] := by
    unfold B_more
    rw [step1 e1, rB_cons]
    by_cases hr : r = 2
    · rw [decide_eq_true hr] at ec
      rw [ite_T ec]
      obtain ⟨q, c4, q0, q1, d4, e4⟩ := draw2 N d3 (ts.map Tile.d) (m := 33) (by decide) (by decide)
      have eI : runI Φ (.rng1 (.call 34 (.cons (.var 0) (.cons (.cst (.int 33)) .nil)))) [some (.h 0), some (.h 1), none, none] [c3, .lst (ts.map Tile.d)] = .ok ((List.range q.toNat).map iD) [c4, .lst (ts.map Tile.d)] := by
        have : runE Φ (.call 34 (.cons (.var 0) (.cons (.cst (.int 33)) .nil))) [some (.h 0), some (.h 1), none, none] [c3, .lst (ts.map Tile.d)] = .ok (.d (.int q)) [c4, .lst (ts.map Tile.d)] := by
          simp only [rE_call, h34, rEs_cons, rEs_nil, rE_var, rE_cst]
          exact e4
        have hsm : smallI q = true := by unfold smallI; simp only [Bool.and_eq_true, decide_eq_true_eq]; omega
        rw [rI_rng1, this, ← rng_map]
        simp [ii, hsm]
      obtain ⟨ρ', s', e, ts', c', o2, l', k', d', rfl, rfl⟩ := forK_pre (Φ := Φ) (n := n) (t := .n 2) (b := B_moreIn) iD
        (fun pre ρ s => ∃ (ts' : List Tile) (c' : Cell) (o2 : Option W), ts'.length = ts.length + pre.length ∧ (∀ t ∈ ts', t.ok) ∧ OkDice c' ∧ ρ = [some (.h 0), some (.h 1), o2, none] ∧ s = [c', .lst (ts'.map Tile.d)])
        (List.range q.toNat) [some (.h 0), some (.h 1), none, none] [c4, .lst (ts.map Tile.d)] ⟨ts, c4, none, rfl, tk, d4, rfl, rfl⟩ fun pre x post ρ s ep ⟨ts', c', o2, l', k', d', hρ, hs⟩ => by
          subst hρ hs
          have hpl := pre_lt ep
          rw [List.length_range] at hpl
          obtain ⟨t, c'', tk', d'', e⟩ := more_in (n := n) h34 N d' (ts := ts') (o2 := some (.d (.int (x : Int)))) (by omega)
          refine ⟨_, _, _, rfl, .inl e, ts' ++ [t], c'', some (.d (.int (x : Int))), by simp; omega, fun u hu => ?_, d'', rfl, rfl⟩
          rcases List.mem_append.mp hu with hu | hu
          · exact k' u hu
          · rw [List.mem_singleton] at hu; subst hu; exact tk'
      rw [List.length_range] at l'
      refine ⟨ts', c', [some (.h 0), some (.h 1), o2, none], by omega, by omega, k', d', ?_⟩
      rw [rB_cons, rS_for, eI, forS_ok, e]
      exact Eq.trans rfl rfl
    · rw [decide_eq_false hr] at ec
      rw [ite_F ec]
      exact ⟨ts, c3, [some (.h 0), some (.h 1), none, none], t0, by omega, tk, d3, Eq.trans rfl rfl⟩
  obtain ⟨ts', c', ρ', a, b, k, d, e⟩ := key
  refine ⟨ts', c', a, b, k, d, ?_⟩
  obtain ⟨l', rfl⟩ := d.lst
  unfold callX
  show gM Φ n B_more 4 0 [.h 0] [.lst l0] = _
  unfold gM
  rw [show runB Φ n B_more (startE 4 [.h 0]) [.lst l0] = .ok (.ret (.h 1), ρ') [.lst l', .lst (ts'.map Tile.d)] from e]
  rfl
end
/-! ### the law -/
def B_whole : List S := [(.ret (.and (.isi .int (.var 0)) (.not (.isi .bool (.var 0)))))]
def WholeOk (φ : Fs) : Prop := ∀ (i : Int) (s : List Cell), callF φ [.d (.int i)] s = .ok (.d (.bool true)) s
theorem whole_ok (Φ : Phi) (n : Nat) : WholeOk (.p 1 (gP Φ n B_whole 1)) := fun i s => by
  refine callP rfl (vs := [.d (.int i)]) rfl ?_
  simp [gP, B_whole, startE, see, isiD, endP, finP]
abbrev C_16 : E := .or (.not (.isi .list (.var 4))) (.cmp .ne (.fr (.comp (.seq (.var 4)) (.n 10) [10] (.some (.not (.call 52 (.cons (.var 10) .nil)))) (.var 10))) (.fr (.lst .nil)))
abbrev W_16 : E := .cmp .ne (.call 19 (.cons (.var 2) (.cons (.var 5) .nil))) (.var 5)
abbrev B_w16 : List S := [(.asg (.n 5) (.call 19 (.cons (.var 2) (.cons (.var 5) .nil))))]
abbrev B_row16 : List S := [(.ite (.cmp .ne (.fr (.comp (.seq (.var 9)) (.n 12) [12] (.some (.cmp .notIn (.var 12) (.var 4))) (.var 12))) (.fr (.lst .nil))) [(.ret (.cst (.bool false)))] [])]
def B_law16 : List S := [(.asg (.n 1) (.th (.call 9 (.cons (.var 0) .nil)))), (.asg (.n 2) (.call 33 (.cons (.var 1) .nil))), (.asg (.n 3) (.mk 2 (.cons (.var 2) .nil))), (.asg (.n 4) (.call 71 (.cons (.var 3) .nil))), (.ite C_16 [(.ret (.cst (.bool false)))] []), (.asg (.n 5) (.fr (.comp (.rng1 (.bi .len (.cons (.var 2) .nil))) (.n 11) [11] .none (.var 11)))), (.while W_16 B_w16), (.ite (.cmp .ne (.var 4) (.var 5)) [(.ret (.cst (.bool false)))] []), (.asg (.n 6) (.bin .add (.cst (.int 1)) (.call 34 (.cons (.var 1) (.cons (.cst (.int 2)) .nil))))), (.asg (.n 7) (.bin .add (.cst (.int 1)) (.call 34 (.cons (.var 1) (.cons (.cst (.int 3)) .nil))))), (.ite (.cmp .gt (.bi .len (.cons (.var 2) .nil)) (.cst (.int 8))) [(.asg (.n 6) (.cst (.int 1))), (.asg (.n 7) (.bi .min2 (.cons (.cst (.int 2)) (.cons (.var 7) .nil))))] []), (.asg (.n 8) (.call 82 (.cons (.var 3) (.cons (.var 6) (.cons (.var 7) .nil))))), (.ite (.cmp .isN (.var 8) (.cst .none)) [(.ret (.cst (.bool true)))] []), (.for (.n 9) (.seq (.var 8)) B_row16), (.ret (.cst (.bool true)))]
section
variable {Φ : Phi} {n : Nat} {φ : Fs}
abbrev env16 (a0 : Option W) (ts : List Tile) (o3 o4 o5 o6 o7 o8 o9 : Option W) : Env := [a0, some (.h 0), some (.d (rowsD ts)), o3, o4, o5, o6, o7, o8, o9, none, none, none]
theorem while16 {φ19 : Fs} (h19 : Φ.fn 19 = some φ19) (He : HeldOk φ19) {ts : List Tile} (ht : ts.length ≤ 200) {a0 o3 o4 : Option W} {s : List Cell} : ∀ (m : Nat) (left : List Nat), left.length + 2 ≤ m → left.length ≤ 200 → (∀ i ∈ left, i < ts.length) →
    ∃ k, stepL ts (fixN ts k left) = fixN ts k left ∧ whileK Φ n W_16 B_w16 m (env16 a0 ts o3 o4 (some (.d (.list (left.map iD)))) none none none none) s = .ok (.nx, env16 a0 ts o3 o4 (some (.d (.list ((fixN ts k left).map iD)))) none none none none) s
  | 0, left, h, _, _ => by omega
  | m + 1, left, hm, h2, hl => by
    have eh := He ts left s ht h2 hl
    have ex : runE Φ (.call 19 (.cons (.var 2) (.cons (.var 5) .nil))) (env16 a0 ts o3 o4 (some (.d (.list (left.map iD)))) none none none none) s = .ok (.d (.list ((stepL ts left).map iD))) s := by
      simp only [rE_call, h19, rEs_cons, rEs_nil, rE_var]
      exact eh
    have hsl : (stepL ts left).length ≤ left.length := List.length_filter_le _ _
    have ec : runE Φ W_16 (env16 a0 ts o3 o4 (some (.d (.list (left.map iD)))) none none none none) s = .ok (.d (.bool (!decide (stepL ts left = left)))) s := by
      have q := c_ne_nums (a := stepL ts left) (b := left) (by omega) (by omega)
      rw [rE_cmp, ex]
      simp [-List.map_map, see, q]
    by_cases he : stepL ts left = left
    · rw [decide_eq_true he] at ec
      refine ⟨0, he, ?_⟩
      rw [whileK_succ, ec]
      rfl
    · rw [decide_eq_false he] at ec
      have hlt : (stepL ts left).length < left.length := Nat.lt_of_le_of_ne hsl fun e => he (filter_self e)
      have eb : runB Φ n B_w16 (env16 a0 ts o3 o4 (some (.d (.list (left.map iD)))) none none none none) s = .ok (.nx, env16 a0 ts o3 o4 (some (.d (.list ((stepL ts left).map iD)))) none none none none) s := by
        rw [step1 (set_n ex)]
        exact Eq.trans rfl rfl
      obtain ⟨k, f1, f2⟩ := while16 h19 He ht m (stepL ts left) (by omega) (by omega) fun i hi => hl i (List.mem_filter.mp hi).1
      refine ⟨k + 1, f1, ?_⟩
      rw [whileK_succ, ec]
      show R.lp (runB Φ n B_w16 _ s) _ = _
      rw [eb, R.lp_nx, f2]
      rfl
theorem row16 {a0 o1 o2 o3 o5 o6 o7 o8 o11 : Option W} {L0 row : List Nat} (hL : L0.length ≤ 1000) (hr : row.length ≤ 1000) (hin : ∀ t ∈ row, t ∈ L0) {s : List Cell} :
    runB Φ n B_row16 [a0, o1, o2, o3, some (.d (.list (L0.map iD))), o5, o6, o7, o8, some (.d (rowD row)), none, o11, none] s = .ok (.nx, [a0, o1, o2, o3, some (.d (.list (L0.map iD))), o5, o6, o7, o8, some (.d (rowD row)), none, o11, none]) s := by
  have sp : sizeLine = 16777216 := by decide
  have key : compT Φ (.n 12) [12] (.some (.cmp .notIn (.var 12) (.var 4))) (.var 12) [a0, o1, o2, o3, some (.d (.list (L0.map iD))), o5, o6, o7, o8, some (.d (rowD row)), none, o11, none] (.ok (row.map iD) s) = .ok (([] : List Nat).map iD) s := by
    have hf : row.filter (fun t => !decide (t ∈ L0)) = [] := List.filter_eq_nil_iff.mpr fun t ht => by simp [hin t ht]
    refine (compT_fm (p := fun t => !decide (t ∈ L0)) (f := iD) (by omega) fun t ht => ?_).trans (congrArg (fun z : List Nat => R.ok (z.map iD) s) hf)
    refine turnK_c (s' := s) ?_ (fun _ => rfl) fun _ => rfl
    show runE Φ (.cmp .notIn (.var 12) (.var 4)) [a0, o1, o2, o3, some (.d (.list (L0.map iD))), o5, o6, o7, o8, some (.d (rowD row)), none, o11, some (.d (.int (t : Int)))] s = _
    have q := c_notin_nums (x := t) hL
    simp [-List.map_map, see, q]
  have eI : runI Φ (.seq (.var 9)) [a0, o1, o2, o3, some (.d (.list (L0.map iD))), o5, o6, o7, o8, some (.d (rowD row)), none, o11, none] s = .ok (row.map iD) s := rfl
  have ex : runE Φ (.fr (.comp (.seq (.var 9)) (.n 12) [12] (.some (.cmp .notIn (.var 12) (.var 4))) (.var 12))) [a0, o1, o2, o3, some (.d (.list (L0.map iD))), o5, o6, o7, o8, some (.d (rowD row)), none, o11, none] s = .ok (.d (.list [])) s := by
    rw [rE_fr, rF_comp, eI, key]
    rfl
  have ec : runE Φ (.cmp .ne (.fr (.comp (.seq (.var 9)) (.n 12) [12] (.some (.cmp .notIn (.var 12) (.var 4))) (.var 12))) (.fr (.lst .nil))) [a0, o1, o2, o3, some (.d (.list (L0.map iD))), o5, o6, o7, o8, some (.d (rowD row)), none, o11, none] s = .ok (.d (.bool false)) s := by
    rw [rE_cmp, ex]
    rfl
  rw [rB_cons, ite_F ec]
  exact Eq.trans rfl rfl
theorem law16 {φ9 φ33 φ71 φ52 φ19 φ82 : Fs} {ψ : Ms} (hn : 300 ≤ n) (h9 : Φ.fn 9 = some φ9) (D : DiceOk φ9) (h33 : Φ.fn 33 = some φ33) (Mo : MoreOk φ33) (hψ : Φ.cl 2 = some ψ) (K : MkTiles ψ) (h71 : Φ.fn 71 = some φ71) (Le : LeanOk φ71) (h52 : Φ.fn 52 = some φ52) (Wh : WholeOk φ52)
    (h19 : Φ.fn 19 = some φ19) (He : HeldOk φ19) (h34 : Φ.fn 34 = some φ) (N : NextOk φ) (h82 : Φ.fn 82 = some φ82) (Rl : FirstOk φ82 rolF 6) (ns : List Int) (hl : ns.length ≤ 63) : gP Φ n B_law16 13 [.d (.list (ns.map .int))] = some (.ret (.d (.bool true))) := by
  have sp : sizeLine = 16777216 := by decide
  obtain ⟨l, dl, e1⟩ := D ns [] hl
  obtain ⟨ts, c2, t0, t40, tk, d2, e2⟩ := Mo (.lst l) dl
  replace e2 := callF_X e2
  have t2 : ts.length ≤ 200 := by omega
  have e3 := K ts [c2] t0 t2 tk
  obtain ⟨k, fk, e4⟩ := Le ts [c2] t2
  have hrl : (List.range ts.length).length = ts.length := List.length_range
  obtain ⟨k2, fk2, e7⟩ := while16 (Φ := Φ) (n := n) h19 He t2 (a0 := some (.d (.list (ns.map .int)))) (o3 := some (setW ts)) (o4 := some (.d (.list ((fixN ts k (List.range ts.length)).map iD)))) (s := [c2]) n (List.range ts.length) (by omega) (by omega) fun i hi => List.mem_range.mp hi
  have hLl : (fixN ts k (List.range ts.length)).length ≤ 200 := by have := (fix_lt (ts := ts) k (List.range ts.length)).2; omega
  have heq := fix_eq fk fk2
  have hsup : ∀ h w, 1 ≤ h → 1 ≤ w → ∀ r ∈ rolF ts h w, ∀ t ∈ r, t ∈ fixN ts k (List.range ts.length) := fun h w h1 w1 r hr t ht => by
    refine fix_sup (roll_lean h1 w1 hr) k (List.range ts.length) (fun u hu => ?_) t ht
    unfold rolF at hr
    exact List.mem_range.mpr ((layF_mem (List.mem_filter.mp hr).1).2 u hu)
  rw [← heq] at e7
  generalize fixN ts k (List.range ts.length) = L0 at e4 e7 hLl hsup
  have e1' : runS Φ n (.asg (.n 1) (.th (.call 9 (.cons (.var 0) .nil)))) (startE 13 [.d (.list (ns.map .int))]) [] = .ok (.nx, [some (.d (.list (ns.map .int))), some (.h 0), none, none, none, none, none, none, none, none, none, none, none]) [.lst l] := set_n (by simp [startE, h9, e1])
  have e2' : runS Φ n (.asg (.n 2) (.call 33 (.cons (.var 1) .nil))) [some (.d (.list (ns.map .int))), some (.h 0), none, none, none, none, none, none, none, none, none, none, none] [.lst l] = .ok (.nx, env16 (some (.d (.list (ns.map .int)))) ts none none none none none none none) [c2] := by
    refine set_n ?_
    simp only [rE_call, h33, rEs_cons, rEs_nil, rE_var]
    exact e2
  have e3' : runS Φ n (.asg (.n 3) (.mk 2 (.cons (.var 2) .nil))) (env16 (some (.d (.list (ns.map .int)))) ts none none none none none none none) [c2] = .ok (.nx, env16 (some (.d (.list (ns.map .int)))) ts (some (setW ts)) none none none none none none) [c2] := set_n (by
    simp only [rE_mk, hψ, rEs_cons, rEs_nil, rE_var]
    exact e3)
  have e4' : runS Φ n (.asg (.n 4) (.call 71 (.cons (.var 3) .nil))) (env16 (some (.d (.list (ns.map .int)))) ts (some (setW ts)) none none none none none none) [c2] = .ok (.nx, env16 (some (.d (.list (ns.map .int)))) ts (some (setW ts)) (some (.d (.list (L0.map iD)))) none none none none none) [c2] := set_n (by
    simp only [rE_call, h71, rEs_cons, rEs_nil, rE_var]
    exact e4)
  have c5 : runE Φ C_16 (env16 (some (.d (.list (ns.map .int)))) ts (some (setW ts)) (some (.d (.list (L0.map iD)))) none none none none none) [c2] = .ok (.d (.bool false)) [c2] := by
    have key : compT Φ (.n 10) [10] (.some (.not (.call 52 (.cons (.var 10) .nil)))) (.var 10) (env16 (some (.d (.list (ns.map .int)))) ts (some (setW ts)) (some (.d (.list (L0.map iD)))) none none none none none) (.ok (L0.map iD) [c2]) = .ok (([] : List Nat).map iD) [c2] := by
      have hf : L0.filter (fun _ => false) = [] := by simp
      refine (compT_fm (p := fun _ => false) (f := iD) (by omega) fun t ht => ?_).trans (congrArg (fun z : List Nat => R.ok (z.map iD) [c2]) hf)
      refine turnK_c (s' := [c2]) ?_ (fun _ => rfl) fun _ => rfl
      show runE Φ (.not (.call 52 (.cons (.var 10) .nil))) [some (.d (.list (ns.map .int))), some (.h 0), some (.d (rowsD ts)), some (setW ts), some (.d (.list (L0.map iD))), none, none, none, none, none, some (.d (.int (t : Int))), none, none] [c2] = _
      rw [rE_not]
      simp only [rE_call, h52, rEs_cons, rEs_nil, rE_var]
      show R.bind (callF φ52 [.d (.int (t : Int))] [c2]) _ = _
      rw [Wh]; rfl
    have eI : runI Φ (.seq (.var 4)) (env16 (some (.d (.list (ns.map .int)))) ts (some (setW ts)) (some (.d (.list (L0.map iD)))) none none none none none) [c2] = .ok (L0.map iD) [c2] := rfl
    have ex : runE Φ (.fr (.comp (.seq (.var 4)) (.n 10) [10] (.some (.not (.call 52 (.cons (.var 10) .nil)))) (.var 10))) (env16 (some (.d (.list (ns.map .int)))) ts (some (setW ts)) (some (.d (.list (L0.map iD)))) none none none none none) [c2] = .ok (.d (.list [])) [c2] := by
      rw [rE_fr, rF_comp, eI, key]
      rfl
    have ec : runE Φ (.cmp .ne (.fr (.comp (.seq (.var 4)) (.n 10) [10] (.some (.not (.call 52 (.cons (.var 10) .nil)))) (.var 10))) (.fr (.lst .nil))) (env16 (some (.d (.list (ns.map .int)))) ts (some (setW ts)) (some (.d (.list (L0.map iD)))) none none none none none) [c2] = .ok (.d (.bool false)) [c2] := by
      rw [rE_cmp, ex]
      rfl
    rw [rE_or]
    show R.bind (R.ok (W.d (.bool false)) [c2]) _ = _
    simp only [R.bind_ok, tt_b, Bool.false_eq_true, if_false]
    exact ec
  have e6' : runS Φ n (.asg (.n 5) (.fr (.comp (.rng1 (.bi .len (.cons (.var 2) .nil))) (.n 11) [11] .none (.var 11)))) (env16 (some (.d (.list (ns.map .int)))) ts (some (setW ts)) (some (.d (.list (L0.map iD)))) none none none none none) [c2] = .ok (.nx, env16 (some (.d (.list (ns.map .int)))) ts (some (setW ts)) (some (.d (.list (L0.map iD)))) (some (.d (.list ((List.range ts.length).map iD)))) none none none none) [c2] := by
    have hsm : smallI (ts.length : Int) = true := smallI_len (by omega)
    have eI : runI Φ (.rng1 (.bi .len (.cons (.var 2) .nil))) (env16 (some (.d (.list (ns.map .int)))) ts (some (setW ts)) (some (.d (.list (L0.map iD)))) none none none none none) [c2] = .ok ((List.range ts.length).map iD) [c2] := by
      rw [← rng_map]
      simp only [env16, rowsD]
      simp [-List.map_map, see, seeAll, hsm]
    have key : compT Φ (.n 11) [11] .none (.var 11) (env16 (some (.d (.list (ns.map .int)))) ts (some (setW ts)) (some (.d (.list (L0.map iD)))) none none none none none) (.ok ((List.range ts.length).map iD) [c2]) = .ok ((List.range ts.length).map iD) [c2] := compT_mp (by omega) fun t _ => turnK_e rfl
    refine set_n ?_
    rw [rE_fr, rF_comp, eI, key]
    rfl
  have c8 : runE Φ (.cmp .ne (.var 4) (.var 5)) (env16 (some (.d (.list (ns.map .int)))) ts (some (setW ts)) (some (.d (.list (L0.map iD)))) (some (.d (.list (L0.map iD)))) none none none none) [c2] = .ok (.d (.bool false)) [c2] := by
    have q := c_ne_self (n := 1) (by decide) (nums_Nd (l := L0) (by omega))
    simp [-List.map_map, see, q]
  obtain ⟨r, c3, r0, r1, d3, e9⟩ := draw0 N d2 (m := 2) (by decide) (by decide)
  obtain ⟨q, c4, q0, q1, d4, e10⟩ := draw0 N d3 (m := 3) (by decide) (by decide)
  have e9' : runS Φ n (.asg (.n 6) (.bin .add (.cst (.int 1)) (.call 34 (.cons (.var 1) (.cons (.cst (.int 2)) .nil))))) (env16 (some (.d (.list (ns.map .int)))) ts (some (setW ts)) (some (.d (.list (L0.map iD)))) (some (.d (.list (L0.map iD)))) none none none none) [c2] = .ok (.nx, env16 (some (.d (.list (ns.map .int)))) ts (some (setW ts)) (some (.d (.list (L0.map iD)))) (some (.d (.list (L0.map iD)))) (some (.d (.int (1 + r)))) none none none) [c3] := set_n (by simp [h34, e9, see])
  have e10' : runS Φ n (.asg (.n 7) (.bin .add (.cst (.int 1)) (.call 34 (.cons (.var 1) (.cons (.cst (.int 3)) .nil))))) (env16 (some (.d (.list (ns.map .int)))) ts (some (setW ts)) (some (.d (.list (L0.map iD)))) (some (.d (.list (L0.map iD)))) (some (.d (.int (1 + r)))) none none none) [c3] = .ok (.nx, env16 (some (.d (.list (ns.map .int)))) ts (some (setW ts)) (some (.d (.list (L0.map iD)))) (some (.d (.list (L0.map iD)))) (some (.d (.int (1 + r)))) (some (.d (.int (1 + q)))) none none) [c4] := set_n (by simp [h34, e10, see])
  have e11 : ∃ h w : Nat, 1 ≤ h ∧ h ≤ 2 ∧ 1 ≤ w ∧ w ≤ 3 ∧ (8 < ts.length → h = 1 ∧ w ≤ 2) ∧ runS Φ n (.ite (.cmp .gt (.bi .len (.cons (.var 2) .nil)) (.cst (.int 8))) [(.asg (.n 6) (.cst (.int 1))), (.asg (.n 7) (.bi .min2 (.cons (.cst (.int 2)) (.cons (.var 7) .nil))))] []) (env16 (some (.d (.list (ns.map .int)))) ts (some (setW ts)) (some (.d (.list (L0.map iD)))) (some (.d (.list (L0.map iD)))) (some (.d (.int (1 + r)))) (some (.d (.int (1 + q)))) none none) [c4] = .ok (.nx, env16 (some (.d (.list (ns.map .int)))) ts (some (setW ts)) (some (.d (.list (L0.map iD)))) (some (.d (.list (L0.map iD)))) (some (.d (.int (h : Int)))) (some (.d (.int (w : Int)))) none none) [c4] := by
    have ec : runE Φ (.cmp .gt (.bi .len (.cons (.var 2) .nil)) (.cst (.int 8))) (env16 (some (.d (.list (ns.map .int)))) ts (some (setW ts)) (some (.d (.list (L0.map iD)))) (some (.d (.list (L0.map iD)))) (some (.d (.int (1 + r)))) (some (.d (.int (1 + q)))) none none) [c4] = .ok (.d (.bool (decide ((8 : Int) < (ts.length : Int))))) [c4] := by
      simp only [env16, rowsD]
      simp [-List.map_map, see, seeAll]
    by_cases h8 : (8 : Int) < (ts.length : Int)
    · rw [decide_eq_true h8] at ec
      have em : biD .min2 [.int 2, .int (1 + q)] = some (.int (((if 1 + q < 2 then 1 + q else 2).toNat : Nat) : Int)) := by
        have e0 : (((if 1 + q < 2 then 1 + q else 2).toNat : Nat) : Int) = if 1 + q < 2 then 1 + q else 2 := Int.toNat_of_nonneg (by split <;> omega)
        rw [e0]
        rfl
      refine ⟨1, (if 1 + q < 2 then 1 + q else 2).toNat, by omega, by omega, by split <;> omega, by split <;> omega, fun _ => ⟨rfl, by split <;> omega⟩, ?_⟩
      rw [ite_T ec]
      generalize (if 1 + q < 2 then 1 + q else 2).toNat = z at em
      have s1 : runS Φ n (.asg (.n 6) (.cst (.int 1))) (env16 (some (.d (.list (ns.map .int)))) ts (some (setW ts)) (some (.d (.list (L0.map iD)))) (some (.d (.list (L0.map iD)))) (some (.d (.int (1 + r)))) (some (.d (.int (1 + q)))) none none) [c4] = .ok (.nx, env16 (some (.d (.list (ns.map .int)))) ts (some (setW ts)) (some (.d (.list (L0.map iD)))) (some (.d (.list (L0.map iD)))) (some (.d (.int 1))) (some (.d (.int (1 + q)))) none none) [c4] := set_n rfl
      have s2 : runS Φ n (.asg (.n 7) (.bi .min2 (.cons (.cst (.int 2)) (.cons (.var 7) .nil)))) (env16 (some (.d (.list (ns.map .int)))) ts (some (setW ts)) (some (.d (.list (L0.map iD)))) (some (.d (.list (L0.map iD)))) (some (.d (.int 1))) (some (.d (.int (1 + q)))) none none) [c4] = .ok (.nx, env16 (some (.d (.list (ns.map .int)))) ts (some (setW ts)) (some (.d (.list (L0.map iD)))) (some (.d (.list (L0.map iD)))) (some (.d (.int 1))) (some (.d (.int (z : Int)))) none none) [c4] := set_n (by simp [-List.map_map, see, seeAll, em])
      rw [step1 s1, step1 s2]
      exact Eq.trans rfl rfl
    · rw [decide_eq_false h8] at ec
      refine ⟨(1 + r).toNat, (1 + q).toNat, by omega, by omega, by omega, by omega, fun h => absurd h (by omega), ?_⟩
      have a1 : (((1 + r).toNat : Nat) : Int) = 1 + r := by omega
      have a2 : (((1 + q).toNat : Nat) : Int) = 1 + q := by omega
      rw [ite_F ec, a1, a2]
      exact Eq.trans rfl rfl
  obtain ⟨h, w, h1, h2, w1, w3, h8, e11'⟩ := e11
  have hS : SizeF ts h w := by
    refine ⟨t0, t2, h1, by omega, w1, by omega, ?_⟩
    by_cases z : 8 < ts.length
    · obtain ⟨z1, z2⟩ := h8 z
      subst z1
      have p1 : ts.length ^ w ≤ 40 ^ w := Nat.pow_le_pow_left t40 w
      have p2 : (40 : Nat) ^ w ≤ 40 ^ 2 := Nat.pow_le_pow_right (by decide) z2
      have p3 : 1 * w * ts.length ^ w ≤ 1 * 2 * 40 ^ 2 := Nat.mul_le_mul (by omega) (by omega)
      omega
    · have p1 : ts.length ^ w ≤ 8 ^ w := Nat.pow_le_pow_left (by omega) w
      have p2 : (8 : Nat) ^ w ≤ 8 ^ 3 := Nat.pow_le_pow_right (by decide) w3
      have p3 : h * w * ts.length ^ w ≤ 2 * 3 * 8 ^ 3 := Nat.mul_le_mul (Nat.mul_le_mul h2 w3) (by omega)
      omega
  have e12 := Rl ts h w [c4] hS (Nat.mul_le_mul h2 w3)
  have hrows : ∀ r ∈ rolF ts h w, ∀ row ∈ rowsOf h w r, row.length ≤ 1000 ∧ ∀ t ∈ row, t ∈ L0 := fun r hr row hrow => by
    have hr' := hr
    unfold rolF at hr'
    obtain ⟨g1, g2⟩ := layF_mem (List.mem_filter.mp hr').1
    have := (rowsOf_ok (n := ts.length) g1 g2) row hrow
    refine ⟨by omega, fun t ht => hsup h w h1 w1 r hr t ?_⟩
    unfold rowsOf at hrow
    obtain ⟨a, _, rfl⟩ := List.mem_map.mp hrow
    exact List.mem_of_mem_drop (List.mem_of_mem_take ht)
  unfold B_law16
  show endP (runB Φ n _ (startE 13 [.d (.list (ns.map .int))]) []) = _
  rw [step1 e1', step1 e2', step1 e3', step1 e4', rB_cons, ite_F c5, rB_nil, R.sq_nx, step1 e6', rB_cons, rS_while, e7, R.sq_nx, rB_cons, ite_F c8, rB_nil, R.sq_nx, step1 e9', step1 e10', step1 e11']
  cases hF : rolF ts h w with
  | nil =>
    rw [hF] at e12
    have e12 : callF φ82 [setW ts, .d (.int (h : Int)), .d (.int (w : Int))] [c4] = .ok (.d .none) [c4] := by unfold callF; rw [e12]; rfl
    have e12' : runS Φ n (.asg (.n 8) (.call 82 (.cons (.var 3) (.cons (.var 6) (.cons (.var 7) .nil))))) (env16 (some (.d (.list (ns.map .int)))) ts (some (setW ts)) (some (.d (.list (L0.map iD)))) (some (.d (.list (L0.map iD)))) (some (.d (.int (h : Int)))) (some (.d (.int (w : Int)))) none none) [c4] = .ok (.nx, env16 (some (.d (.list (ns.map .int)))) ts (some (setW ts)) (some (.d (.list (L0.map iD)))) (some (.d (.list (L0.map iD)))) (some (.d (.int (h : Int)))) (some (.d (.int (w : Int)))) (some (.d .none)) none) [c4] := set_n (by
      simp only [rE_call, h82, rEs_cons, rEs_nil, rE_var]
      exact e12)
    rw [step1 e12']
    rfl
  | cons r rs =>
    rw [hF] at e12
    have e12 : callF φ82 [setW ts, .d (.int (h : Int)), .d (.int (w : Int))] [c4] = .ok (.d (.list ((rowsOf h w r).map rowD))) [c4] := by unfold callF; rw [e12]; rfl
    have hr := hrows r (by rw [hF]; exact List.mem_cons_self)
    generalize rowsOf h w r = Rs at e12 hr
    have e12' : runS Φ n (.asg (.n 8) (.call 82 (.cons (.var 3) (.cons (.var 6) (.cons (.var 7) .nil))))) (env16 (some (.d (.list (ns.map .int)))) ts (some (setW ts)) (some (.d (.list (L0.map iD)))) (some (.d (.list (L0.map iD)))) (some (.d (.int (h : Int)))) (some (.d (.int (w : Int)))) none none) [c4] = .ok (.nx, env16 (some (.d (.list (ns.map .int)))) ts (some (setW ts)) (some (.d (.list (L0.map iD)))) (some (.d (.list (L0.map iD)))) (some (.d (.int (h : Int)))) (some (.d (.int (w : Int)))) (some (.d (.list (Rs.map rowD)))) none) [c4] := set_n (by
      simp only [rE_call, h82, rEs_cons, rEs_nil, rE_var]
      exact e12)
    have c13 : runE Φ (.cmp .isN (.var 8) (.cst .none)) (env16 (some (.d (.list (ns.map .int)))) ts (some (setW ts)) (some (.d (.list (L0.map iD)))) (some (.d (.list (L0.map iD)))) (some (.d (.int (h : Int)))) (some (.d (.int (w : Int)))) (some (.d (.list (Rs.map rowD)))) none) [c4] = .ok (.d (.bool false)) [c4] := rfl
    obtain ⟨ρ', s', e, o9, rfl, rfl⟩ := forK_pre (Φ := Φ) (n := n) (t := .n 9) (b := B_row16) rowD
      (fun _ ρ s => ∃ o9, ρ = env16 (some (.d (.list (ns.map .int)))) ts (some (setW ts)) (some (.d (.list (L0.map iD)))) (some (.d (.list (L0.map iD)))) (some (.d (.int (h : Int)))) (some (.d (.int (w : Int)))) (some (.d (.list (Rs.map rowD)))) o9 ∧ s = [c4])
      Rs (env16 (some (.d (.list (ns.map .int)))) ts (some (setW ts)) (some (.d (.list (L0.map iD)))) (some (.d (.list (L0.map iD)))) (some (.d (.int (h : Int)))) (some (.d (.int (w : Int)))) (some (.d (.list (Rs.map rowD)))) none) [c4] ⟨none, rfl, rfl⟩ fun pre row post ρ s ep ⟨o9, hρ, hs⟩ => by
        subst hρ hs
        obtain ⟨a, b⟩ := hr row (pre_mem ep)
        exact ⟨_, _, _, rfl, .inl (row16 (by omega) a b), some (.d (rowD row)), rfl, rfl⟩
    have eI : runI Φ (.seq (.var 8)) (env16 (some (.d (.list (ns.map .int)))) ts (some (setW ts)) (some (.d (.list (L0.map iD)))) (some (.d (.list (L0.map iD)))) (some (.d (.int (h : Int)))) (some (.d (.int (w : Int)))) (some (.d (.list (Rs.map rowD)))) none) [c4] = .ok (Rs.map rowD) [c4] := rfl
    rw [step1 e12', rB_cons, ite_F c13, rB_nil, R.sq_nx, rB_cons, rS_for, eI, forS_ok, e]
    rfl
end
end DM

set_option maxRecDepth 100000
/-! P7: plane. -/
namespace DM
open PySem
/-- a loop that ends the def with the first that is found -/
theorem forK_fs {β γ : Type} {Φ : Phi} {n : Nat} {t : Tg} {b : List S} {s : List Cell} (d : β → PyData) (I : Env → Prop) (f : β → Option γ) (ret : γ → W) : ∀ (xs : List β) (ρ : Env), I ρ →
    (∀ x ∈ xs, ∀ ρ, I ρ → ∃ ρ1, asgT ρ t (.d (d x)) = some ρ1 ∧ (f x = none → ∃ ρ', runB Φ n b ρ1 s = .ok (.nx, ρ') s ∧ I ρ') ∧ (∀ g, f x = some g → ∃ ρ', runB Φ n b ρ1 s = .ok (.ret (ret g), ρ') s)) →
    (xs.findSome? f = none → ∃ ρ', forK Φ n t b (xs.map d) ρ s = .ok (.nx, ρ') s ∧ I ρ') ∧ (∀ g, xs.findSome? f = some g → ∃ ρ', forK Φ n t b (xs.map d) ρ s = .ok (.ret (ret g), ρ') s)
  | [], ρ, h, _ => ⟨fun _ => ⟨ρ, rfl, h⟩, fun g hg => by cases hg⟩
  | x :: xs, ρ, h, st => by
    obtain ⟨ρ1, e1, hn, hs⟩ := st x List.mem_cons_self ρ h
    rw [List.findSome?_cons]
    cases hf : f x with
    | none =>
      obtain ⟨ρ', e2, h'⟩ := hn hf
      have eq : forK Φ n t b ((x :: xs).map d) ρ s = forK Φ n t b (xs.map d) ρ' s := by
        rw [List.map_cons, forK_cons, e1]
        simp only [e2, R.lp_nx]
      rw [eq]
      exact forK_fs d I f ret xs ρ' h' fun y hy => st y (List.mem_cons_of_mem _ hy)
    | some g =>
      obtain ⟨ρ', e2⟩ := hs g hf
      refine ⟨(fun h => by cases h), fun g' hg => ?_⟩
      cases hg
      refine ⟨ρ', ?_⟩
      rw [List.map_cons, forK_cons, e1]
      simp only [e2, R.lp_ret]
abbrev jD : Nat → PyData := fun i => PyData.int ((i + 1 : Nat) : Int)
theorem rng1_map (k : Nat) : upTo 1 k = (List.range k).map jD := by
  rw [upTo_map]
  refine List.map_congr_left fun i _ => ?_
  show PyData.int (1 + (i : Int)) = .int ((i + 1 : Nat) : Int)
  congr 1
  push_cast
  omega
/-! ### what plane tells -/
inductive PR where
  | ring (h w : Nat) (r : List Nat)
  | none (k : Nat)
  | op
def PR.d : PR → PyData
  | .ring h w r => .tuple [.str "ring", layD (rowsOf h w r)]
  | .none k => .tuple [.str "none", .int (k : Int)]
  | .op => .tuple [.str "open"]
noncomputable def tryW (ts : List Tile) (z h w : Nat) : Option PR := if max h w = z then (rolF ts h w).head?.map (PR.ring h w) else none
noncomputable def tryH (ts : List Tile) (z h : Nat) : Option PR := (List.range z).findSome? fun j => tryW ts z h (j + 1)
noncomputable def tryR (ts : List Tile) (z : Nat) : Option PR := (List.range z).findSome? fun i => tryH ts z (i + 1)
def tryN (ts : List Tile) (z : Nat) : Option PR := if (layF ts z (z * z)).isEmpty then some (PR.none z) else none
noncomputable def tryZ (ts : List Tile) (z : Nat) : Option PR := (tryR ts z).or (tryN ts z)
noncomputable def planeO (ts : List Tile) (most : Nat) : Option PR := (List.range most).findSome? fun k => tryZ ts (k + 1)
noncomputable def planeF (ts : List Tile) (most : Nat) : PR := (planeO ts most).getD .op
abbrev B_pw : List S := [(.ite (.cmp .eq (.bi .max2 (.cons (.var 3) (.cons (.var 4) .nil))) (.var 2)) [(.asg (.n 5) (.call 82 (.cons (.var 0) (.cons (.var 3) (.cons (.var 4) .nil))))), (.ite (.cmp .notN (.var 5) (.cst .none)) [(.ret (.tup (.cons (.cst (.str "ring")) (.cons (.var 5) .nil))))] [])] [])]
abbrev B_ph : List S := [(.for (.n 4) (.rng2 (.cst (.int 1)) (.bin .add (.var 2) (.cst (.int 1)))) B_pw)]
abbrev B_pz : List S := [(.for (.n 3) (.rng2 (.cst (.int 1)) (.bin .add (.var 2) (.cst (.int 1)))) B_ph), (.ite (.cmp .isN (.call 69 (.cons (.var 0) (.cons (.var 2) (.cons (.var 2) .nil)))) (.cst .none)) [(.ret (.tup (.cons (.cst (.str "none")) (.cons (.var 2) .nil))))] [])]
def B_plane : List S := [(.ex (.call 78 (.cons (.var 1) (.cons (.var 1) .nil)))), (.for (.n 2) (.rng2 (.cst (.int 1)) (.bin .add (.var 1) (.cst (.int 1)))) B_pz), (.ret (.tup (.cons (.cst (.str "open")) .nil)))]
def PlaneOk (φ : Fs) (D : Nat) : Prop := ∀ (ts : List Tile) (most : Nat) (s : List Cell), 1 ≤ most → most ≤ 12 → (∀ h w, 1 ≤ h → h ≤ most → 1 ≤ w → w ≤ most → SizeF ts h w) → most * most ≤ D → callF φ [setW ts, .d (.int (most : Int))] s = .ok (.d (planeF ts most).d) s
section
variable {Φ : Phi} {n : Nat}
def optD : Option (List PyData) → PyData
  | none => .none
  | some l => .list l
theorem opt_call {φ : Fs} {ws : List W} {s : List Cell} {l : Option (List PyData)} (e : callX φ ws s = .ok (optL l) s) : callF φ ws s = .ok (.d (optD l)) s := by
  unfold callF
  rw [e]
  cases l <;> rfl
abbrev envP (ts : List Tile) (m o2 o3 o4 o5 : Option W) : Env := [some (setW ts), m, o2, o3, o4, o5]
theorem rng_p {i k : Nat} {ρ : Env} {s : List Cell} (h : ρ[i]? = some (some (.d (.int (k : Int))))) (hk : k ≤ 1000) : runI Φ (.rng2 (.cst (.int 1)) (.bin .add (.var i) (.cst (.int 1)))) ρ s = .ok ((List.range k).map jD) s := by
  have h1 : smallI 1 = true := by decide
  have h2 : smallI ((k : Int) + 1) = true := by unfold smallI; simp only [Bool.and_eq_true, decide_eq_true_eq]; omega
  have e : ((k : Int) + 1 - 1).toNat = k := by omega
  rw [← rng1_map]
  simp [h, see, h1, h2, e]
theorem pw_run {D : Nat} {φ82 : Fs} (h82 : Φ.fn 82 = some φ82) (Rl : FirstOk φ82 rolF D) {ts : List Tile} {z h w : Nat} (S : SizeF ts h w) (hD : h * w ≤ D) {m o5 : Option W} {s : List Cell} :
    (tryW ts z h w = none → ∃ ρ', runB Φ n B_pw (envP ts m (some (.d (.int (z : Int)))) (some (.d (.int (h : Int)))) (some (.d (.int (w : Int)))) o5) s = .ok (.nx, ρ') s ∧ ∃ o5, ρ' = envP ts m (some (.d (.int (z : Int)))) (some (.d (.int (h : Int)))) (some (.d (.int (w : Int)))) o5) ∧
    (∀ g, tryW ts z h w = some g → ∃ ρ', runB Φ n B_pw (envP ts m (some (.d (.int (z : Int)))) (some (.d (.int (h : Int)))) (some (.d (.int (w : Int)))) o5) s = .ok (.ret (.d g.d), ρ') s) := by
  have em : biD .max2 [.int (h : Int), .int (w : Int)] = some (.int ((max h w : Nat) : Int)) := by
    show some (PyData.int (if (w : Int) > (h : Int) then (w : Int) else (h : Int))) = _
    congr 2
    split <;> omega
  have ec : runE Φ (.cmp .eq (.bi .max2 (.cons (.var 3) (.cons (.var 4) .nil))) (.var 2)) (envP ts m (some (.d (.int (z : Int)))) (some (.d (.int (h : Int)))) (some (.d (.int (w : Int)))) o5) s = .ok (.d (.bool (decide (max h w = z)))) s := by
    have : decide (((max h w : Nat) : Int) = (z : Int)) = decide (max h w = z) := decide_eq_decide.mpr (by omega)
    have e1 : runE Φ (.bi .max2 (.cons (.var 3) (.cons (.var 4) .nil))) (envP ts m (some (.d (.int (z : Int)))) (some (.d (.int (h : Int)))) (some (.d (.int (w : Int)))) o5) s = .ok (.d (.int ((max h w : Nat) : Int))) s := by
      simp only [rE_bi, rEs_cons, rEs_nil, rE_var]
      show (match seeAll s [.d (.int (h : Int)), .d (.int (w : Int))] with | some xs => lift ((biD .max2 xs).map W.d) s | none => R.no) = _
      simp only [seeAll, see, em]
      rfl
    rw [rE_cmp, e1, ← this]
    rfl
  have e82 := opt_call (Rl ts h w s S hD)
  have er : runS Φ n (.asg (.n 5) (.call 82 (.cons (.var 0) (.cons (.var 3) (.cons (.var 4) .nil))))) (envP ts m (some (.d (.int (z : Int)))) (some (.d (.int (h : Int)))) (some (.d (.int (w : Int)))) o5) s = .ok (.nx, envP ts m (some (.d (.int (z : Int)))) (some (.d (.int (h : Int)))) (some (.d (.int (w : Int)))) (some (.d (optD ((rolF ts h w).head?.map fun r => (rowsOf h w r).map rowD))))) s := set_n (by
    simp only [rE_call, h82, rEs_cons, rEs_nil, rE_var]
    exact e82)
  unfold tryW
  by_cases hz : max h w = z
  · rw [decide_eq_true hz] at ec
    rw [if_pos hz, rB_cons, ite_T ec, step1 er]
    cases hr : (rolF ts h w).head? with
    | none => exact ⟨fun _ => ⟨_, Eq.trans rfl rfl, _, rfl⟩, fun g hg => by cases hg⟩
    | some r =>
      refine ⟨(fun h => by cases h), fun g hg => ?_⟩
      cases hg
      exact ⟨_, Eq.trans rfl rfl⟩
  · rw [decide_eq_false hz] at ec
    rw [if_neg hz, rB_cons, ite_F ec]
    exact ⟨fun _ => ⟨_, Eq.trans rfl rfl, _, rfl⟩, fun g hg => by cases hg⟩
theorem ph_run {D : Nat} {φ82 : Fs} (h82 : Φ.fn 82 = some φ82) (Rl : FirstOk φ82 rolF D) {ts : List Tile} {z h : Nat} (hz : z ≤ 1000) (hS : ∀ w, 1 ≤ w → w ≤ z → SizeF ts h w ∧ h * w ≤ D) {m o4 o5 : Option W} {s : List Cell} :
    (tryH ts z h = none → ∃ ρ', runB Φ n B_ph (envP ts m (some (.d (.int (z : Int)))) (some (.d (.int (h : Int)))) o4 o5) s = .ok (.nx, ρ') s ∧ ∃ o4 o5, ρ' = envP ts m (some (.d (.int (z : Int)))) (some (.d (.int (h : Int)))) o4 o5) ∧
    (∀ g, tryH ts z h = some g → ∃ ρ', runB Φ n B_ph (envP ts m (some (.d (.int (z : Int)))) (some (.d (.int (h : Int)))) o4 o5) s = .ok (.ret (.d g.d), ρ') s) := by
  have F := forK_fs (Φ := Φ) (n := n) (t := .n 4) (b := B_pw) (s := s) jD (fun ρ => ∃ o4 o5, ρ = envP ts m (some (.d (.int (z : Int)))) (some (.d (.int (h : Int)))) o4 o5) (fun j => tryW ts z h (j + 1)) (fun g => .d g.d) (List.range z) (envP ts m (some (.d (.int (z : Int)))) (some (.d (.int (h : Int)))) o4 o5) ⟨o4, o5, rfl⟩ fun j hj ρ ⟨o4, o5, hρ⟩ => by
    subst hρ
    rw [List.mem_range] at hj
    obtain ⟨a, b⟩ := hS (j + 1) (by omega) (by omega)
    obtain ⟨p, q⟩ := pw_run (Φ := Φ) (n := n) h82 Rl (ts := ts) (z := z) a b (m := m) (o5 := o5) (s := s)
    refine ⟨_, rfl, fun hn => ?_, fun g hg => q g hg⟩
    obtain ⟨ρ', e, o5', rfl⟩ := p hn
    exact ⟨_, e, some (.d (.int ((j + 1 : Nat) : Int))), o5', rfl⟩
  have eI := rng_p (Φ := Φ) (i := 2) (k := z) (ρ := envP ts m (some (.d (.int (z : Int)))) (some (.d (.int (h : Int)))) o4 o5) (s := s) rfl hz
  unfold tryH
  unfold B_ph
  rw [rB_cons, rS_for, eI, forS_ok]
  refine ⟨fun hn => ?_, fun g hg => ?_⟩
  · obtain ⟨ρ', e, h'⟩ := F.1 hn
    rw [e]
    exact ⟨ρ', Eq.trans rfl rfl, h'⟩
  · obtain ⟨ρ', e⟩ := F.2 g hg
    rw [e]
    exact ⟨ρ', rfl⟩
theorem pz_run {D : Nat} {φ82 φ69 : Fs} (h82 : Φ.fn 82 = some φ82) (Rl : FirstOk φ82 rolF D) (h69 : Φ.fn 69 = some φ69) (La : FirstOk φ69 (fun ts h w => layF ts w (h * w)) D) {ts : List Tile} {z : Nat} (z1 : 1 ≤ z) (hz : z ≤ 1000) (hS : ∀ h w, 1 ≤ h → h ≤ z → 1 ≤ w → w ≤ z → SizeF ts h w ∧ h * w ≤ D) {m o3 o4 o5 : Option W} {s : List Cell} :
    (tryZ ts z = none → ∃ ρ', runB Φ n B_pz (envP ts m (some (.d (.int (z : Int)))) o3 o4 o5) s = .ok (.nx, ρ') s ∧ ∃ o3 o4 o5, ρ' = envP ts m (some (.d (.int (z : Int)))) o3 o4 o5) ∧
    (∀ g, tryZ ts z = some g → ∃ ρ', runB Φ n B_pz (envP ts m (some (.d (.int (z : Int)))) o3 o4 o5) s = .ok (.ret (.d g.d), ρ') s) := by
  have F := forK_fs (Φ := Φ) (n := n) (t := .n 3) (b := B_ph) (s := s) jD (fun ρ => ∃ o3 o4 o5, ρ = envP ts m (some (.d (.int (z : Int)))) o3 o4 o5) (fun i => tryH ts z (i + 1)) (fun g => .d g.d) (List.range z) (envP ts m (some (.d (.int (z : Int)))) o3 o4 o5) ⟨o3, o4, o5, rfl⟩ fun i hi ρ ⟨o3, o4, o5, hρ⟩ => by
    subst hρ
    rw [List.mem_range] at hi
    obtain ⟨p, q⟩ := ph_run (Φ := Φ) (n := n) h82 Rl (ts := ts) (z := z) (h := i + 1) hz (fun w a b => hS (i + 1) w (by omega) (by omega) a b) (m := m) (o4 := o4) (o5 := o5) (s := s)
    refine ⟨_, rfl, fun hn => ?_, fun g hg => q g hg⟩
    obtain ⟨ρ', e, o4', o5', rfl⟩ := p hn
    exact ⟨_, e, some (.d (.int ((i + 1 : Nat) : Int))), o4', o5', rfl⟩
  have eI := rng_p (Φ := Φ) (i := 2) (k := z) (ρ := envP ts m (some (.d (.int (z : Int)))) o3 o4 o5) (s := s) rfl hz
  unfold tryZ
  unfold B_pz
  rw [rB_cons, rS_for, eI, forS_ok]
  cases hr : tryR ts z with
  | some g0 =>
    obtain ⟨ρ', e⟩ := F.2 g0 hr
    rw [e]
    refine ⟨(fun h => by cases h), fun g hg => ?_⟩
    cases hg
    exact ⟨ρ', rfl⟩
  | none =>
    obtain ⟨ρ', e, o3', o4', o5', rfl⟩ := F.1 hr
    rw [e, R.sq_nx]
    obtain ⟨a, b⟩ := hS z z z1 (Nat.le_refl _) z1 (Nat.le_refl _)
    have e69 := opt_call (La ts z z s a b)
    have ec : runE Φ (.cmp .isN (.call 69 (.cons (.var 0) (.cons (.var 2) (.cons (.var 2) .nil)))) (.cst .none)) (envP ts m (some (.d (.int (z : Int)))) o3' o4' o5') s = .ok (.d (.bool (layF ts z (z * z)).isEmpty)) s := by
      have ex : runE Φ (.call 69 (.cons (.var 0) (.cons (.var 2) (.cons (.var 2) .nil)))) (envP ts m (some (.d (.int (z : Int)))) o3' o4' o5') s = .ok (.d (optD ((layF ts z (z * z)).head?.map fun r => (rowsOf z z r).map rowD))) s := by
        simp only [rE_call, h69, rEs_cons, rEs_nil, rE_var]
        exact e69
      rw [rE_cmp, ex]
      cases layF ts z (z * z) <;> rfl
    show (Option.or none (tryN ts z) = none → _) ∧ (∀ g, Option.or none (tryN ts z) = some g → _)
    rw [Option.none_or]
    unfold tryN
    cases hl : (layF ts z (z * z)).isEmpty with
    | true =>
      rw [hl] at ec
      rw [rB_cons, ite_T ec]
      refine ⟨(fun h => by cases h), fun g hg => ?_⟩
      cases hg
      exact ⟨_, Eq.trans rfl rfl⟩
    | false =>
      rw [hl] at ec
      rw [rB_cons, ite_F ec]
      exact ⟨fun _ => ⟨_, Eq.trans rfl rfl, o3', o4', o5', rfl⟩, fun g hg => by cases hg⟩
theorem plane_ok {D : Nat} {φ82 φ69 φ78 : Fs} (h82 : Φ.fn 82 = some φ82) (Rl : FirstOk φ82 rolF D) (h69 : Φ.fn 69 = some φ69) (La : FirstOk φ69 (fun ts h w => layF ts w (h * w)) D) (h78 : Φ.fn 78 = some φ78) (Ne : NeedOk φ78) : PlaneOk (.p 2 (gP Φ n B_plane 6)) D := fun ts most s m1 m2 hS hD => by
  refine callP rfl (vs := [setW ts, .d (.int (most : Int))]) rfl ?_
  have en := Ne most most [] (by omega) (by omega) (by omega) (by omega)
  have e0 : runS Φ n (.ex (.call 78 (.cons (.var 1) (.cons (.var 1) .nil)))) (envP ts (some (.d (.int (most : Int)))) none none none none) [] = .ok (.nx, envP ts (some (.d (.int (most : Int)))) none none none none) [] := by
    simp only [rS_ex, rE_call, h78, rEs_cons, rEs_nil, rE_var]
    show R.st (callF φ78 [.d (.int (most : Int)), .d (.int (most : Int))] []) _ _ = _
    rw [en]; rfl
  have F := forK_fs (Φ := Φ) (n := n) (t := .n 2) (b := B_pz) (s := []) jD (fun ρ => ∃ o2 o3 o4 o5, ρ = envP ts (some (.d (.int (most : Int)))) o2 o3 o4 o5) (fun k => tryZ ts (k + 1)) (fun g => .d g.d) (List.range most) (envP ts (some (.d (.int (most : Int)))) none none none none) ⟨none, none, none, none, rfl⟩ fun k hk ρ ⟨o2, o3, o4, o5, hρ⟩ => by
    subst hρ
    rw [List.mem_range] at hk
    obtain ⟨p, q⟩ := pz_run (Φ := Φ) (n := n) h82 Rl h69 La (ts := ts) (z := k + 1) (by omega) (by omega) (fun h w a b c d => ⟨hS h w a (by omega) c (by omega), Nat.le_trans (Nat.mul_le_mul (show h ≤ most by omega) (show w ≤ most by omega)) hD⟩) (m := some (.d (.int (most : Int)))) (o3 := o3) (o4 := o4) (o5 := o5) (s := [])
    refine ⟨_, rfl, fun hn => ?_, fun g hg => q g hg⟩
    obtain ⟨ρ', e, o3', o4', o5', rfl⟩ := p hn
    exact ⟨_, e, some (.d (.int ((k + 1 : Nat) : Int))), o3', o4', o5', rfl⟩
  have eI := rng_p (Φ := Φ) (i := 1) (k := most) (ρ := envP ts (some (.d (.int (most : Int)))) none none none none) (s := []) rfl (by omega)
  show endP (runB Φ n B_plane (envP ts (some (.d (.int (most : Int)))) none none none none) []) = _
  unfold B_plane
  rw [step1 e0, rB_cons, rS_for, eI, forS_ok]
  unfold planeF
  have hP : planeO ts most = (List.range most).findSome? fun k => tryZ ts (k + 1) := rfl
  cases hr : planeO ts most with
  | none =>
    obtain ⟨ρ', e, o2, o3, o4, o5, rfl⟩ := F.1 (hP.symm.trans hr)
    rw [e]
    rfl
  | some g =>
    obtain ⟨ρ', e⟩ := F.2 g (hP.symm.trans hr)
    rw [e]
    rfl
end
end DM

set_option maxRecDepth 100000
/-! K10b: small sets; the law k10. -/
namespace DM
open PySem
/-! ### small sets -/
abbrev E_small : E := .tupOf (.fr (.comp (.seq (.var 2)) (.n 3) [3] .none (.bin .mod (.var 3) (.cst (.int 3)))))
def B_small : List S := [(.ret (.th (.comp (.seq (.call 50 (.cons (.var 0) (.cons (.var 1) .nil)))) (.n 2) [2] .none E_small)))]
def Tile.m3 (t : Tile) : Tile := ⟨t.n % 3, t.e % 3, t.s % 3, t.w % 3⟩
def SmallOk (φ : Fs) : Prop := ∀ (c : Cell) (m : Nat), OkDice c → 1 ≤ m → m ≤ 100 → ∃ (ts : List Tile) (c' : Cell), 1 ≤ ts.length ∧ ts.length ≤ m ∧ (∀ t ∈ ts, 0 ≤ t.n ∧ t.n < 3 ∧ 0 ≤ t.e ∧ t.e < 3 ∧ 0 ≤ t.s ∧ t.s < 3 ∧ 0 ≤ t.w ∧ t.w < 3) ∧ OkDice c' ∧ callX φ [.h 0, .d (.int (m : Int))] [c] = .ok (.l (ts.map Tile.d)) [c']
theorem small_tok {t : Tile} (h : 0 ≤ t.n ∧ t.n < 3 ∧ 0 ≤ t.e ∧ t.e < 3 ∧ 0 ≤ t.s ∧ t.s < 3 ∧ 0 ≤ t.w ∧ t.w < 3) : t.ok := by
  obtain ⟨a, b, c, d, e, f, g, i⟩ := h
  exact ⟨⟨a, Int.lt_trans b (by decide)⟩, ⟨c, Int.lt_trans d (by decide)⟩, ⟨e, Int.lt_trans f (by decide)⟩, ⟨g, Int.lt_trans i (by decide)⟩⟩
section
variable {Φ : Phi} {n : Nat}
theorem small_turn {a0 a1 o2 o3 : Option W} {t : Tile} {s : List Cell} : turnK Φ (.n 2) [2] .none E_small [a0, a1, o2, o3] t.d s = .ok (some (Tile.m3 t).d) s := by
  refine turnK_e ?_
  show runE Φ E_small [a0, a1, some (.d t.d), o3] s = _
  have eI : runI Φ (.seq (.var 2)) [a0, a1, some (.d t.d), o3] s = .ok ([t.n, t.e, t.s, t.w].map PyData.int) s := rfl
  have sz : ([t.n, t.e, t.s, t.w]).length < sizeLine := by show 4 < sizeLine; decide
  have key : compT Φ (.n 3) [3] .none (.bin .mod (.var 3) (.cst (.int 3))) [a0, a1, some (.d t.d), o3] (.ok ([t.n, t.e, t.s, t.w].map PyData.int) s) = .ok ([t.n, t.e, t.s, t.w].map fun i => PyData.int (i % 3)) s :=
    compT_mp sz fun i _ => turnK_e (by
      show runE Φ (.bin .mod (.var 3) (.cst (.int 3))) [a0, a1, some (.d t.d), some (.d (.int i))] s = _
      simp [see, b_mod (i := i) (j := 3) (by decide)])
  rw [rE_tupOf, rE_fr, rF_comp, eI, key]
  rfl
theorem small_ok {φ50 : Fs} (h50 : Φ.fn 50 = some φ50) (Ti : TilesOk φ50) : SmallOk (.m 2 (gM Φ n B_small 4 0)) := fun c m hd m1 m2 => by
  have sp : sizeLine = 16777216 := by decide
  obtain ⟨l0, rfl⟩ := hd.lst
  obtain ⟨ts, c2, t0, t1, tk, d2, e2⟩ := Ti [.lst l0] 0 (.lst l0) m hd rfl rfl (by omega) (by omega)
  simp only [List.set_cons_zero] at e2
  replace e2 := callF_X e2
  have eI : runI Φ (.seq (.call 50 (.cons (.var 0) (.cons (.var 1) .nil)))) [some (.h 0), some (.d (.int (m : Int))), none, none] [.lst l0] = .ok (ts.map Tile.d) [c2] := by
    have : runE Φ (.call 50 (.cons (.var 0) (.cons (.var 1) .nil))) [some (.h 0), some (.d (.int (m : Int))), none, none] [.lst l0] = .ok (.d (.list (ts.map Tile.d))) [c2] := by
      simp only [rE_call, h50, rEs_cons, rEs_nil, rE_var]
      exact e2
    rw [rI_seq, this]
    rfl
  have key : compT Φ (.n 2) [2] .none E_small [some (.h 0), some (.d (.int (m : Int))), none, none] (.ok (ts.map Tile.d) [c2]) = .ok (ts.map fun t => (Tile.m3 t).d) [c2] := compT_mp (by omega) fun t _ => small_turn
  refine ⟨ts.map Tile.m3, c2, by simpa using t0, by simp; omega, fun t ht => ?_, d2, ?_⟩
  · obtain ⟨u, _, rfl⟩ := List.mem_map.mp ht
    have z : (0 : Int) < 3 := by decide
    have z' : (3 : Int) ≠ 0 := by decide
    exact ⟨Int.emod_nonneg _ z', Int.emod_lt_of_pos _ z, Int.emod_nonneg _ z', Int.emod_lt_of_pos _ z, Int.emod_nonneg _ z', Int.emod_lt_of_pos _ z, Int.emod_nonneg _ z', Int.emod_lt_of_pos _ z⟩
  · obtain ⟨l2, rfl⟩ := d2.lst
    have er : runB Φ n B_small (startE 4 [.h 0, .d (.int (m : Int))]) [.lst l0] = .ok (.ret (.h 1), [some (.h 0), some (.d (.int (m : Int))), none, none]) [.lst l2, .lst ((ts.map Tile.m3).map Tile.d)] := by
      show runB Φ n B_small [some (.h 0), some (.d (.int (m : Int))), none, none] [.lst l0] = _
      unfold B_small
      rw [rB_cons, rS_ret, rE_th, rF_comp, eI, key, List.map_map]
      exact Eq.trans rfl rfl
    unfold callX
    show gM Φ n B_small 4 0 [.h 0, .d (.int (m : Int))] [.lst l0] = _
    unfold gM
    rw [er]
    rfl
end
/-! ### what plane tells: data -/
def PR.ok : PR → Prop
  | .ring h w r => h ≤ 1000 ∧ w ≤ 1000 ∧ r.length = h * w
  | _ => True
theorem okD_two {x y : PyData} (hx : okD x = true) (hy : okD y = true) (dx : x.depth ≤ 10) (dy : y.depth ≤ 10) : okD (.tuple [x, y]) = true := by
  have h1 : x.canLay0 = true := by unfold okD SeqAt.shaped at hx; rw [Bool.and_eq_true] at hx; exact hx.1
  have h2 : y.canLay0 = true := by unfold okD SeqAt.shaped at hy; rw [Bool.and_eq_true] at hy; exact hy.1
  have h3 : (PyData.tuple [x, y]).canLay0 = true := by simp [PyData.canLay0, PyData.canLayAll0, h1, h2]
  have h4 : (PyData.tuple [x, y]).depth ≤ 64 := by
    simp only [PyData.depth, PyData.depthAll]
    omega
  unfold okD SeqAt.shaped
  rw [h3]
  simpa using h4
theorem okD_ring : okD (.str "ring") = true := by decide +kernel
theorem okD_none : okD (.str "none") = true := by decide +kernel
theorem okD_open : okD (.tuple [.str "open"]) = true := by decide +kernel
theorem ring_Nd {h w : Nat} {r : List Nat} (hh : h ≤ 1000) (hw : w ≤ 1000) : Nd 2 (layD (rowsOf h w r)) = true := by
  have sp : sizeLine = 16777216 := by decide
  refine lay_Nd (by rw [rowsOf_len]; omega) fun q hq => ?_
  unfold rowsOf at hq
  obtain ⟨k, _, rfl⟩ := List.mem_map.mp hq
  rw [List.length_take]
  omega
theorem pr_okD : ∀ {p : PR}, p.ok → okD p.d = true
  | .ring h w r, ⟨hh, hw, _⟩ => by
    have q := ring_Nd (r := r) hh hw
    exact okD_two okD_ring (Nd_okD (by decide) q) (by simp [PyData.depth]) (Nat.le_trans (Nd_ok 2 _ q).2 (by decide))
  | .none k, _ => okD_two okD_none (Nd_okD (n := 0) (by decide) rfl) (by simp [PyData.depth]) (by simp [PyData.depth])
  | .op, _ => okD_open
theorem c_ne_pr {p : PR} (h : p.ok) : cmpD .ne p.d p.d = some false := by
  have e1 := pr_okD h
  have e2 := eqv_self p.d (by unfold okD SeqAt.shaped at e1; rw [Bool.and_eq_true] at e1; exact e1.1)
  have go : (if okD p.d && okD p.d then some (!p.d.eqv p.d) else none) = some false := by rw [e1, e2]; rfl
  cases p <;> exact go
theorem c_ne_op {p : PR} (h : p.ok) : ∃ b, cmpD .ne p.d (.tuple [.str "open"]) = some b ∧ (p = .op → b = false) := by
  have e1 := pr_okD h
  have go : cmpD .ne p.d (.tuple [.str "open"]) = some (!p.d.eqv (.tuple [.str "open"])) := by
    have go : (if okD p.d && okD (.tuple [.str "open"]) then some (!p.d.eqv (.tuple [.str "open"])) else none) = some (!p.d.eqv (.tuple [.str "open"])) := by
      rw [e1, okD_open]; rfl
    cases p <;> exact go
  refine ⟨_, go, fun e => ?_⟩
  subst e
  decide +kernel
/-! ### the first that is found -/
theorem findSome_range {γ : Type} {f : Nat → Option γ} {g : γ} : ∀ {n : Nat}, (List.range n).findSome? f = some g → ∃ k, k < n ∧ f k = some g ∧ ∀ j, j < k → f j = none
  | 0, h => by cases h
  | n + 1, h => by
    rw [List.range_succ, List.findSome?_append] at h
    cases e : (List.range n).findSome? f with
    | some g' =>
      rw [e] at h
      cases h
      obtain ⟨k, a, b, c⟩ := findSome_range e
      exact ⟨k, by omega, b, c⟩
    | none =>
      rw [e, Option.none_or] at h
      have h : f n = some g := by simpa using h
      exact ⟨n, by omega, h, fun j hj => List.findSome?_eq_none_iff.mp e j (List.mem_range.mpr hj)⟩
theorem tryW_some {ts : List Tile} {z h w : Nat} {g : PR} (e : tryW ts z h w = some g) : max h w = z ∧ ∃ r, (rolF ts h w).head? = some r ∧ g = .ring h w r := by
  unfold tryW at e
  split at e
  · rename_i hz
    cases hr : (rolF ts h w).head? with
    | none => rw [hr] at e; cases e
    | some r => rw [hr] at e; cases e; exact ⟨hz, r, rfl, rfl⟩
  · cases e
theorem tryW_none {ts : List Tile} {h w : Nat} (e : tryW ts (max h w) h w = none) : rolF ts h w = [] := by
  unfold tryW at e
  rw [if_pos rfl] at e
  cases hr : rolF ts h w with
  | nil => rfl
  | cons _ _ => rw [hr] at e; cases e
theorem tryR_some {ts : List Tile} {z : Nat} {g : PR} (e : tryR ts z = some g) : ∃ h w r, 1 ≤ h ∧ h ≤ z ∧ 1 ≤ w ∧ w ≤ z ∧ max h w = z ∧ g = .ring h w r ∧ (rolF ts h w).head? = some r ∧ ∀ h' w', 1 ≤ h' → 1 ≤ w' → max h' w' = z → (h' < h ∨ h' = h ∧ w' < w) → rolF ts h' w' = [] := by
  obtain ⟨i, hi, e1, n1⟩ := findSome_range e
  obtain ⟨j, hj, e2, n2⟩ := findSome_range e1
  obtain ⟨hz, r, hr, rfl⟩ := tryW_some e2
  refine ⟨i + 1, j + 1, r, by omega, by omega, by omega, by omega, hz, rfl, hr, fun h' w' a b c d => ?_⟩
  subst c
  rcases d with d | ⟨rfl, d⟩
  · have := List.findSome?_eq_none_iff.mp (n1 (h' - 1) (by omega)) (w' - 1) (List.mem_range.mpr (by omega))
    rw [show h' - 1 + 1 = h' by omega, show w' - 1 + 1 = w' by omega] at this
    exact tryW_none this
  · have := n2 (w' - 1) (by omega)
    rw [show w' - 1 + 1 = w' by omega] at this
    exact tryW_none this
theorem tryR_none {ts : List Tile} {z : Nat} (e : tryR ts z = none) : ∀ h' w', 1 ≤ h' → 1 ≤ w' → max h' w' = z → rolF ts h' w' = [] := fun h' w' a b c => by
  subst c
  have e1 := List.findSome?_eq_none_iff.mp e (h' - 1) (List.mem_range.mpr (by omega))
  have := List.findSome?_eq_none_iff.mp e1 (w' - 1) (List.mem_range.mpr (by omega))
  rw [show h' - 1 + 1 = h' by omega, show w' - 1 + 1 = w' by omega] at this
  exact tryW_none this
theorem tryZ_none {ts : List Tile} {z : Nat} (e : tryZ ts z = none) : tryR ts z = none ∧ layF ts z (z * z) ≠ [] := by
  unfold tryZ at e
  cases h : tryR ts z with
  | some _ => rw [h] at e; cases e
  | none =>
    rw [h, Option.none_or] at e
    refine ⟨rfl, fun z0 => ?_⟩
    unfold tryN at e
    rw [z0] at e
    cases e
/-- a ring that plane tells: of its sizes the first -/
theorem plane_ring {ts : List Tile} {most h w : Nat} {r : List Nat} (e : planeF ts most = .ring h w r) : 1 ≤ h ∧ h ≤ most ∧ 1 ≤ w ∧ w ≤ most ∧ (rolF ts h w).head? = some r ∧ ∀ h' w', 1 ≤ h' → 1 ≤ w' → (max h' w' < max h w ∨ max h' w' = max h w ∧ (h' < h ∨ h' = h ∧ w' < w)) → rolF ts h' w' = [] := by
  unfold planeF at e
  cases hp : planeO ts most with
  | none => rw [hp] at e; cases e
  | some g =>
    rw [hp] at e
    have e : g = .ring h w r := e
    subst e
    obtain ⟨k, hk, e1, n1⟩ := findSome_range hp
    unfold tryZ at e1
    cases hR : tryR ts (k + 1) with
    | none =>
      rw [hR, Option.none_or] at e1
      unfold tryN at e1
      split at e1 <;> cases e1
    | some g =>
      rw [hR] at e1
      cases e1
      obtain ⟨h0, w0, r0, a1, a2, b1, b2, hz, eg, hr, hn⟩ := tryR_some hR
      cases eg
      refine ⟨a1, by omega, b1, by omega, hr, fun h' w' x y d => ?_⟩
      rcases d with d | ⟨d1, d2⟩
      · have z := (tryZ_none (n1 (max h' w' - 1) (by omega))).1
        rw [show max h' w' - 1 + 1 = max h' w' by omega] at z
        exact tryR_none z h' w' x y rfl
      · exact hn h' w' x y (by omega) d2
theorem plane_less {ts : List Tile} {less most : Nat} (h : less ≤ most) : planeF ts less = .op ∨ planeF ts less = planeF ts most := by
  unfold planeF
  cases e : planeO ts less with
  | none => exact .inl rfl
  | some g =>
    refine .inr ?_
    have : planeO ts most = some g := by
      unfold planeO at e ⊢
      obtain ⟨d, rfl⟩ := Nat.exists_eq_add_of_le h
      rw [List.range_add, List.findSome?_append, e]
      rfl
    rw [this]
theorem plane_prok {ts : List Tile} {most : Nat} (hm : most ≤ 1000) : (planeF ts most).ok := by
  cases e : planeF ts most with
  | ring h w r =>
    obtain ⟨a, b, c, d, f, _⟩ := plane_ring e
    refine ⟨by omega, by omega, ?_⟩
    have hr : r ∈ rolF ts h w := List.mem_of_mem_head? f
    unfold rolF at hr
    exact (layF_mem (List.mem_filter.mp hr).1).1
  | none k => trivial
  | op => trivial
/-! ### the law -/
abbrev E_hi : E := .bi .len (.cons (.idx (.var 5) (.cst (.int 1))) .nil)
abbrev E_wi : E := .bi .len (.cons (.idx (.idx (.var 5) (.cst (.int 1))) (.cst (.int 0))) .nil)
abbrev E_mx : E := .bi .max2 (.cons (.var 8) (.cons (.var 9) .nil))
abbrev C_a10 : E := .and (.cmp .ne (.var 6) (.tup (.cons (.cst (.str "open")) .nil))) (.cmp .ne (.var 6) (.var 5))
abbrev C_b10 : E := .and (.cmp .lt E_mx (.var 7)) (.cmp .notN (.var 10) (.cst .none))
abbrev C_c10 : E := .and (.cmp .eq E_mx (.var 7)) (.and (.cmp .lt (.tup (.cons (.var 8) (.cons (.var 9) .nil))) (.tup (.cons E_hi (.cons E_wi .nil)))) (.cmp .notN (.var 10) (.cst .none)))
abbrev B_w10 : List S := [(.asg (.n 10) (.call 82 (.cons (.var 2) (.cons (.var 8) (.cons (.var 9) .nil))))), (.ite C_b10 [(.ret (.cst (.bool false)))] []), (.ite C_c10 [(.ret (.cst (.bool false)))] [])]
abbrev B_h10 : List S := [(.for (.n 9) (.rng2 (.cst (.int 1)) (.bin .add (.var 7) (.cst (.int 1)))) B_w10)]
def B_law10 : List S := [(.asg (.n 1) (.th (.call 9 (.cons (.var 0) .nil)))), (.asg (.n 2) (.mk 2 (.cons (.call 48 (.cons (.var 1) (.cons (.cst (.int 4)) .nil))) .nil))), (.asg (.n 3) (.bin .add (.cst (.int 1)) (.call 34 (.cons (.var 1) (.cons (.cst (.int 3)) .nil))))), (.asg (.n 4) (.bin .add (.cst (.int 1)) (.call 34 (.cons (.var 1) (.cons (.var 3) .nil))))), (.asg (.n 5) (.call 80 (.cons (.var 2) (.cons (.var 3) .nil)))), (.asg (.n 6) (.call 80 (.cons (.var 2) (.cons (.var 4) .nil)))), (.ite C_a10 [(.ret (.cst (.bool false)))] []), (.ite (.cmp .ne (.idx (.var 5) (.cst (.int 0))) (.cst (.str "ring"))) [(.ret (.cst (.bool true)))] []), (.asg (.n 7) (.bi .max2 (.cons E_hi (.cons E_wi .nil)))), (.for (.n 8) (.rng2 (.cst (.int 1)) (.bin .add (.var 7) (.cst (.int 1)))) B_h10), (.ret (.cmp .eq (.call 82 (.cons (.var 2) (.cons E_hi (.cons E_wi .nil)))) (.idx (.var 5) (.cst (.int 1)))))]
section
variable {Φ : Phi} {n : Nat}
abbrev envT (a0 : Option W) (ts : List Tile) (o3 o4 o5 o6 o7 o8 o9 o10 : Option W) : Env := [a0, some (.h 0), some (setW ts), o3, o4, o5, o6, o7, o8, o9, o10]
theorem hi_run {ρ : Env} {h w : Nat} {r : List Nat} {s : List Cell} (r5 : ρ[5]? = some (some (.d (PR.d (.ring h w r))))) : runE Φ E_hi ρ s = .ok (.d (.int (h : Int))) s := by
  have e : ((rowsOf h w r).map rowD).length = h := by rw [List.length_map, rowsOf_len]
  have e1 : runE Φ (.idx (.var 5) (.cst (.int 1))) ρ s = .ok (.d (layD (rowsOf h w r))) s := by
    rw [rE_idx]
    simp only [rE_var, r5, R.bind_ok, rE_cst]
    rfl
  simp only [rE_bi, rEs_cons, rEs_nil, e1, R.bind_ok]
  show (.ok (.d (.int ((((rowsOf h w r).map rowD).length : Nat) : Int))) s : R W) = _
  rw [e]
theorem wi_run {ρ : Env} {h w : Nat} {r : List Nat} {s : List Cell} (r5 : ρ[5]? = some (some (.d (PR.d (.ring h w r))))) (h1 : 1 ≤ h) (hr : r.length = h * w) : runE Φ E_wi ρ s = .ok (.d (.int (w : Int))) s := by
  have hw : w ≤ r.length := by rw [hr]; exact Nat.le_mul_of_pos_left _ h1
  have e1 : runE Φ (.idx (.var 5) (.cst (.int 1))) ρ s = .ok (.d (layD (rowsOf h w r))) s := by
    rw [rE_idx]
    simp only [rE_var, r5, R.bind_ok, rE_cst]
    rfl
  have ex : atD ((rowsOf h w r).map rowD) 0 = some (rowD (r.take w)) := by
    have e0 : gR (rowsOf h w r) 0 = r.take w := by rw [gR_rows h1, Nat.zero_mul, List.drop_zero]
    have := at_lay (L := rowsOf h w r) (a := 0) (by rw [rowsOf_len]; omega)
    rw [e0] at this
    exact this
  have e2 : runE Φ (.idx (.idx (.var 5) (.cst (.int 1))) (.cst (.int 0))) ρ s = .ok (.d (rowD (r.take w))) s := by
    rw [rE_idx, e1]
    simp only [R.bind_ok, rE_cst, ii, layD, see, ex]
    rfl
  have el : (r.take w).length = w := by rw [List.length_take]; omega
  simp only [rE_bi, rEs_cons, rEs_nil, e2, R.bind_ok]
  show (.ok (.d (.int ((((r.take w).map iD).length : Nat) : Int))) s : R W) = _
  rw [List.length_map, el]
theorem w10_run {φ82 : Fs} {D : Nat} (h82 : Φ.fn 82 = some φ82) (Rl : FirstOk φ82 rolF D) {ts : List Tile} {h w h' w' : Nat} {r : List Nat} (S : SizeF ts h' w') (hD : h' * w' ≤ D) (h1 : 1 ≤ h) (hr : r.length = h * w)
    (hn : (max h' w' < max h w ∨ max h' w' = max h w ∧ (h' < h ∨ h' = h ∧ w' < w)) → rolF ts h' w' = []) {a0 o3 o4 o6 o10 : Option W} {s : List Cell} :
    ∃ o10', runB Φ n B_w10 (envT a0 ts o3 o4 (some (.d (PR.d (.ring h w r)))) o6 (some (.d (.int ((max h w : Nat) : Int)))) (some (.d (.int (h' : Int)))) (some (.d (.int (w' : Int)))) o10) s = .ok (.nx, envT a0 ts o3 o4 (some (.d (PR.d (.ring h w r)))) o6 (some (.d (.int ((max h w : Nat) : Int)))) (some (.d (.int (h' : Int)))) (some (.d (.int (w' : Int)))) o10') s := by
  have e82 := opt_call (Rl ts h' w' s S hD)
  generalize hx : optD ((rolF ts h' w').head?.map fun r => (rowsOf h' w' r).map rowD) = x at e82
  have hx0 : rolF ts h' w' = [] → x = .none := fun e => by rw [← hx, e]; rfl
  refine ⟨some (.d x), ?_⟩
  have e1 : runS Φ n (.asg (.n 10) (.call 82 (.cons (.var 2) (.cons (.var 8) (.cons (.var 9) .nil))))) (envT a0 ts o3 o4 (some (.d (PR.d (.ring h w r)))) o6 (some (.d (.int ((max h w : Nat) : Int)))) (some (.d (.int (h' : Int)))) (some (.d (.int (w' : Int)))) o10) s = .ok (.nx, envT a0 ts o3 o4 (some (.d (PR.d (.ring h w r)))) o6 (some (.d (.int ((max h w : Nat) : Int)))) (some (.d (.int (h' : Int)))) (some (.d (.int (w' : Int)))) (some (.d x))) s := set_n (by
    simp only [rE_call, h82, rEs_cons, rEs_nil, rE_var]
    exact e82)
  generalize hρ : envT a0 ts o3 o4 (some (.d (PR.d (.ring h w r)))) o6 (some (.d (.int ((max h w : Nat) : Int)))) (some (.d (.int (h' : Int)))) (some (.d (.int (w' : Int)))) (some (.d x)) = ρ at e1
  have r5 : ρ[5]? = some (some (.d (PR.d (.ring h w r)))) := by rw [← hρ]; rfl
  have r7 : ρ[7]? = some (some (.d (.int ((max h w : Nat) : Int)))) := by rw [← hρ]; rfl
  have r8 : ρ[8]? = some (some (.d (.int (h' : Int)))) := by rw [← hρ]; rfl
  have r9 : ρ[9]? = some (some (.d (.int (w' : Int)))) := by rw [← hρ]; rfl
  have r10 : ρ[10]? = some (some (.d x)) := by rw [← hρ]; rfl
  have em : biD .max2 [.int (h' : Int), .int (w' : Int)] = some (.int ((max h' w' : Nat) : Int)) := by
    show some (PyData.int (if (w' : Int) > (h' : Int) then (w' : Int) else (h' : Int))) = _
    congr 2
    split <;> omega
  have emx : runE Φ E_mx ρ s = .ok (.d (.int ((max h' w' : Nat) : Int))) s := by
    simp only [rE_bi, rEs_cons, rEs_nil, rE_var, r8, r9, R.bind_ok, seeAll, see, em]
    rfl
  have eh := hi_run (Φ := Φ) (s := s) r5
  have ew := wi_run (Φ := Φ) (s := s) r5 h1 hr
  have enn : runE Φ (.cmp .notN (.var 10) (.cst .none)) ρ s = .ok (.d (.bool (!isNone x))) s := by
    simp only [rE_cmp, rE_var, r10, R.bind_ok, rE_cst, see, c_notN]
    rfl
  have z2 : (2 : Nat) ≤ sizeLine := by decide
  have cb : runE Φ C_b10 ρ s = .ok (.d (.bool false)) s := by
    have ec : runE Φ (.cmp .lt E_mx (.var 7)) ρ s = .ok (.d (.bool (decide (((max h' w' : Nat) : Int) < ((max h w : Nat) : Int))))) s := by
      rw [rE_cmp, emx]
      simp only [rE_var, r7, R.bind_ok, see, c_lt]
      rfl
    rw [rE_and, ec]
    by_cases hlt : ((max h' w' : Nat) : Int) < ((max h w : Nat) : Int)
    · rw [decide_eq_true hlt]
      simp only [R.bind_ok, tt_b, if_true, enn]
      rw [hx0 (hn (.inl (by omega)))]
      rfl
    · rw [decide_eq_false hlt]
      rfl
  have cc : runE Φ C_c10 ρ s = .ok (.d (.bool false)) s := by
    have ec : runE Φ (.cmp .eq E_mx (.var 7)) ρ s = .ok (.d (.bool (decide (((max h' w' : Nat) : Int) = ((max h w : Nat) : Int))))) s := by
      rw [rE_cmp, emx]
      simp only [rE_var, r7, R.bind_ok, see, c_eq]
      rfl
    have et1 : runE Φ (.tup (.cons (.var 8) (.cons (.var 9) .nil))) ρ s = .ok (.d (.tuple [.int (h' : Int), .int (w' : Int)])) s := by
      simp only [rE_tup, rEs_cons, rEs_nil, rE_var, r8, r9, R.bind_ok, frzsR, frzAll, frz]
      rw [if_pos (by show (2 : Nat) ≤ _; exact z2)]
    have et2 : runE Φ (.tup (.cons E_hi (.cons E_wi .nil))) ρ s = .ok (.d (.tuple [.int (h : Int), .int (w : Int)])) s := by
      generalize E_hi = X at eh ⊢
      generalize E_wi = Y at ew ⊢
      simp only [rE_tup, rEs_cons, rEs_nil, eh, ew, R.bind_ok, frzsR, frzAll, frz]
      rw [if_pos (by show (2 : Nat) ≤ _; exact z2)]
    have el : runE Φ (.cmp .lt (.tup (.cons (.var 8) (.cons (.var 9) .nil))) (.tup (.cons E_hi (.cons E_wi .nil)))) ρ s = .ok (.d (.bool (HT.lexLt [(h' : Int), (w' : Int)] [(h : Int), (w : Int)]))) s := by
      rw [rE_cmp, et1]
      simp only [R.bind_ok, et2]
      rfl
    rw [rE_and, ec]
    by_cases heq : ((max h' w' : Nat) : Int) = ((max h w : Nat) : Int)
    · rw [decide_eq_true heq]
      simp only [R.bind_ok, tt_b, if_true]
      rw [rE_and, el]
      cases hl : HT.lexLt [(h' : Int), (w' : Int)] [(h : Int), (w : Int)] with
      | false => rfl
      | true =>
        simp only [R.bind_ok, tt_b, if_true, enn]
        have : h' < h ∨ h' = h ∧ w' < w := by
          rw [HT.lexLt_cons] at hl
          split at hl
          · rename_i e0
            rw [HT.lexLt_cons] at hl
            split at hl
            · cases hl
            · exact .inr ⟨by omega, by have := of_decide_eq_true hl; omega⟩
          · exact .inl (by have := of_decide_eq_true hl; omega)
        rw [hx0 (hn (.inr ⟨by omega, this⟩))]
        rfl
    · rw [decide_eq_false heq]
      rfl
  rw [step1 e1, rB_cons, ite_F cb, rB_nil, R.sq_nx, rB_cons, ite_F cc]
  exact Eq.trans rfl rfl
theorem law10 {φ9 φ48 φ34 φ80 φ82 : Fs} {ψ : Ms} (h9 : Φ.fn 9 = some φ9) (D : DiceOk φ9) (h48 : Φ.fn 48 = some φ48) (Sm : SmallOk φ48) (hψ : Φ.cl 2 = some ψ) (K : MkTiles ψ) (h34 : Φ.fn 34 = some φ34) (N : NextOk φ34) (h80 : Φ.fn 80 = some φ80) (Pl : PlaneOk φ80 9) (h82 : Φ.fn 82 = some φ82) (Rl : FirstOk φ82 rolF 9) (ns : List Int) (hl : ns.length ≤ 63) : gP Φ n B_law10 11 [.d (.list (ns.map .int))] = some (.ret (.d (.bool true))) := by
  have sp : sizeLine = 16777216 := by decide
  obtain ⟨l, dl, e1⟩ := D ns [] hl
  obtain ⟨ts, c2, t0, t4, tk, d2, e2⟩ := Sm (.lst l) 4 dl (by omega) (by omega)
  replace e2 := callF_X e2
  have e3 := K ts [c2] t0 (by omega) fun t ht => small_tok (tk t ht)
  obtain ⟨q, c3, q0, q1, d3, e4⟩ := draw0 N d2 (m := 3) (by decide) (by decide)
  obtain ⟨m, hm⟩ : ∃ m : Nat, (m : Int) = 1 + q := ⟨(1 + q).toNat, by omega⟩
  obtain ⟨p, c4, p0, p1, d4, e5⟩ := draw0 N d3 (m := (m : Int)) (by omega) (by omega)
  obtain ⟨k, hk⟩ : ∃ k : Nat, (k : Int) = 1 + p := ⟨(1 + p).toNat, by omega⟩
  have hS : ∀ h w, 1 ≤ h → h ≤ 3 → 1 ≤ w → w ≤ 3 → SizeF ts h w := fun h w a b c d => by
    refine ⟨t0, by omega, a, by omega, c, by omega, ?_⟩
    have p1 : ts.length ^ w ≤ 4 ^ w := Nat.pow_le_pow_left t4 w
    have p2 : (4 : Nat) ^ w ≤ 4 ^ 3 := Nat.pow_le_pow_right (by decide) d
    have p3 : h * w * ts.length ^ w ≤ 3 * 3 * 4 ^ 3 := Nat.mul_le_mul (Nat.mul_le_mul b d) (by omega)
    omega
  have e6 := Pl ts m [c4] (by omega) (by omega) (fun h w a b c d => hS h w a (by omega) c (by omega)) (Nat.mul_le_mul (show m ≤ 3 by omega) (show m ≤ 3 by omega))
  have e7 := Pl ts k [c4] (by omega) (by omega) (fun h w a b c d => hS h w a (by omega) c (by omega)) (Nat.mul_le_mul (show k ≤ 3 by omega) (show k ≤ 3 by omega))
  have hless := plane_less (ts := ts) (less := k) (most := m) (by omega)
  have hok := plane_prok (ts := ts) (most := k) (by omega)
  have hok2 := plane_prok (ts := ts) (most := m) (by omega)
  generalize hA : (some (.d (.list (ns.map .int))) : Option W) = A
  have e1' : runS Φ n (.asg (.n 1) (.th (.call 9 (.cons (.var 0) .nil)))) (startE 11 [.d (.list (ns.map .int))]) [] = .ok (.nx, [A, some (.h 0), none, none, none, none, none, none, none, none, none]) [.lst l] := by
    rw [← hA]
    exact set_n (by simp [startE, h9, e1])
  have e2' : runS Φ n (.asg (.n 2) (.mk 2 (.cons (.call 48 (.cons (.var 1) (.cons (.cst (.int 4)) .nil))) .nil))) [A, some (.h 0), none, none, none, none, none, none, none, none, none] [.lst l] = .ok (.nx, envT A ts none none none none none none none none) [c2] := by
    have ex : runE Φ (.call 48 (.cons (.var 1) (.cons (.cst (.int 4)) .nil))) [A, some (.h 0), none, none, none, none, none, none, none, none, none] [.lst l] = .ok (.d (.list (ts.map Tile.d))) [c2] := by
      simp only [rE_call, h48, rEs_cons, rEs_nil, rE_var, rE_cst]
      exact e2
    refine set_n ?_
    rw [rE_mk, hψ]
    simp only [rEs_cons, rEs_nil, ex, R.bind_ok]
    exact e3
  have e4' : runS Φ n (.asg (.n 3) (.bin .add (.cst (.int 1)) (.call 34 (.cons (.var 1) (.cons (.cst (.int 3)) .nil))))) (envT A ts none none none none none none none none) [c2] = .ok (.nx, envT A ts (some (.d (.int (m : Int)))) none none none none none none none) [c3] := by
    rw [hm]
    exact set_n (by simp [h34, e4, see])
  have e5' : runS Φ n (.asg (.n 4) (.bin .add (.cst (.int 1)) (.call 34 (.cons (.var 1) (.cons (.var 3) .nil))))) (envT A ts (some (.d (.int (m : Int)))) none none none none none none none) [c3] = .ok (.nx, envT A ts (some (.d (.int (m : Int)))) (some (.d (.int (k : Int)))) none none none none none none) [c4] := by
    rw [hk]
    exact set_n (by simp [h34, e5, see])
  have e6' : runS Φ n (.asg (.n 5) (.call 80 (.cons (.var 2) (.cons (.var 3) .nil)))) (envT A ts (some (.d (.int (m : Int)))) (some (.d (.int (k : Int)))) none none none none none none) [c4] = .ok (.nx, envT A ts (some (.d (.int (m : Int)))) (some (.d (.int (k : Int)))) (some (.d (planeF ts m).d)) none none none none none) [c4] := set_n (by
    simp only [rE_call, h80, rEs_cons, rEs_nil, rE_var]
    exact e6)
  have e7' : runS Φ n (.asg (.n 6) (.call 80 (.cons (.var 2) (.cons (.var 4) .nil)))) (envT A ts (some (.d (.int (m : Int)))) (some (.d (.int (k : Int)))) (some (.d (planeF ts m).d)) none none none none none) [c4] = .ok (.nx, envT A ts (some (.d (.int (m : Int)))) (some (.d (.int (k : Int)))) (some (.d (planeF ts m).d)) (some (.d (planeF ts k).d)) none none none none) [c4] := set_n (by
    simp only [rE_call, h80, rEs_cons, rEs_nil, rE_var]
    exact e7)
  have ca : runE Φ C_a10 (envT A ts (some (.d (.int (m : Int)))) (some (.d (.int (k : Int)))) (some (.d (planeF ts m).d)) (some (.d (planeF ts k).d)) none none none none) [c4] = .ok (.d (.bool false)) [c4] := by
    obtain ⟨b, q1, q2⟩ := c_ne_op hok
    have x1 : runE Φ (.cmp .ne (.var 6) (.tup (.cons (.cst (.str "open")) .nil))) (envT A ts (some (.d (.int (m : Int)))) (some (.d (.int (k : Int)))) (some (.d (planeF ts m).d)) (some (.d (planeF ts k).d)) none none none none) [c4] = .ok (.d (.bool b)) [c4] := by
      have z1 : (1 : Nat) ≤ sizeLine := by decide
      simp [see, frzsR, frzAll, frz, z1, q1]
    rw [rE_and, x1]
    cases hb : b with
    | false => rfl
    | true =>
      simp only [R.bind_ok, tt_b, if_true]
      rcases hless with h | h
      · rw [q2 h] at hb; cases hb
      · rw [h]
        have q3 := c_ne_pr hok2
        simp [see, q3]
  unfold B_law10
  show endP (runB Φ n _ (startE 11 [.d (.list (ns.map .int))]) []) = _
  rw [step1 e1', step1 e2', step1 e4', step1 e5', step1 e6', step1 e7', rB_cons, ite_F ca, rB_nil, R.sq_nx, rB_cons]
  cases hp : planeF ts m with
  | none j =>
    have cb : runE Φ (.cmp .ne (.idx (.var 5) (.cst (.int 0))) (.cst (.str "ring"))) (envT A ts (some (.d (.int (m : Int)))) (some (.d (.int (k : Int)))) (some (.d (PR.none j).d)) (some (.d (planeF ts k).d)) none none none none) [c4] = .ok (.d (.bool true)) [c4] := by
      have ex : atD [PyData.str "none", .int (j : Int)] 0 = some (.str "none") := rfl
      have q : cmpD .ne (.str "none") (.str "ring") = some true := by decide +kernel
      simp [PR.d, see, ex, q]
    rw [ite_T cb]
    rfl
  | op =>
    have cb : runE Φ (.cmp .ne (.idx (.var 5) (.cst (.int 0))) (.cst (.str "ring"))) (envT A ts (some (.d (.int (m : Int)))) (some (.d (.int (k : Int)))) (some (.d PR.op.d)) (some (.d (planeF ts k).d)) none none none none) [c4] = .ok (.d (.bool true)) [c4] := by
      have ex : atD [PyData.str "open"] 0 = some (.str "open") := rfl
      have q : cmpD .ne (.str "open") (.str "ring") = some true := by decide +kernel
      simp [PR.d, see, ex, q]
    rw [ite_T cb]
    rfl
  | ring h w r =>
    obtain ⟨h1, hm', w1, wm', hr, hn⟩ := plane_ring hp
    have hrm : r ∈ rolF ts h w := List.mem_of_mem_head? hr
    have hrl : r.length = h * w := by
      unfold rolF at hrm
      exact (layF_mem (List.mem_filter.mp hrm).1).1
    have cb : runE Φ (.cmp .ne (.idx (.var 5) (.cst (.int 0))) (.cst (.str "ring"))) (envT A ts (some (.d (.int (m : Int)))) (some (.d (.int (k : Int)))) (some (.d (PR.ring h w r).d)) (some (.d (planeF ts k).d)) none none none none) [c4] = .ok (.d (.bool false)) [c4] := by
      have ex : atD [PyData.str "ring", layD (rowsOf h w r)] 0 = some (.str "ring") := rfl
      have q : cmpD .ne (.str "ring") (.str "ring") = some false := by decide +kernel
      simp [PR.d, see, ex, q]
    rw [ite_F cb, rB_nil, R.sq_nx]
    have es : runS Φ n (.asg (.n 7) (.bi .max2 (.cons E_hi (.cons E_wi .nil)))) (envT A ts (some (.d (.int (m : Int)))) (some (.d (.int (k : Int)))) (some (.d (PR.ring h w r).d)) (some (.d (planeF ts k).d)) none none none none) [c4] = .ok (.nx, envT A ts (some (.d (.int (m : Int)))) (some (.d (.int (k : Int)))) (some (.d (PR.ring h w r).d)) (some (.d (planeF ts k).d)) (some (.d (.int ((max h w : Nat) : Int)))) none none none) [c4] := by
      have eh := hi_run (Φ := Φ) (s := [c4]) (ρ := envT A ts (some (.d (.int (m : Int)))) (some (.d (.int (k : Int)))) (some (.d (PR.ring h w r).d)) (some (.d (planeF ts k).d)) none none none none) rfl
      have ew := wi_run (Φ := Φ) (s := [c4]) (ρ := envT A ts (some (.d (.int (m : Int)))) (some (.d (.int (k : Int)))) (some (.d (PR.ring h w r).d)) (some (.d (planeF ts k).d)) none none none none) rfl h1 hrl
      have em : biD .max2 [.int (h : Int), .int (w : Int)] = some (.int ((max h w : Nat) : Int)) := by
        show some (PyData.int (if (w : Int) > (h : Int) then (w : Int) else (h : Int))) = _
        congr 2
        split <;> omega
      refine set_n ?_
      generalize E_hi = X at eh ⊢
      generalize E_wi = Y at ew ⊢
      simp only [rE_bi, rEs_cons, rEs_nil, eh, ew, R.bind_ok, seeAll, see, em]
      rfl
    rw [step1 es]
    obtain ⟨ρ', s', e, o8, o9, o10, rfl, rfl⟩ := forK_pre (Φ := Φ) (n := n) (t := .n 8) (b := B_h10) jD
      (fun _ ρ s => ∃ o8 o9 o10, ρ = envT A ts (some (.d (.int (m : Int)))) (some (.d (.int (k : Int)))) (some (.d (PR.ring h w r).d)) (some (.d (planeF ts k).d)) (some (.d (.int ((max h w : Nat) : Int)))) o8 o9 o10 ∧ s = [c4])
      (List.range (max h w)) (envT A ts (some (.d (.int (m : Int)))) (some (.d (.int (k : Int)))) (some (.d (PR.ring h w r).d)) (some (.d (planeF ts k).d)) (some (.d (.int ((max h w : Nat) : Int)))) none none none) [c4] ⟨none, none, none, rfl, rfl⟩ fun pre i post ρ s ep ⟨o8, o9, o10, hρ, hs⟩ => by
        subst hρ hs
        have hi := (pre_range ep).2.1
        obtain ⟨ρ', s', e, o9', o10', rfl, rfl⟩ := forK_pre (Φ := Φ) (n := n) (t := .n 9) (b := B_w10) jD
          (fun _ ρ s => ∃ o9 o10, ρ = envT A ts (some (.d (.int (m : Int)))) (some (.d (.int (k : Int)))) (some (.d (PR.ring h w r).d)) (some (.d (planeF ts k).d)) (some (.d (.int ((max h w : Nat) : Int)))) (some (.d (.int ((i + 1 : Nat) : Int)))) o9 o10 ∧ s = [c4])
          (List.range (max h w)) (envT A ts (some (.d (.int (m : Int)))) (some (.d (.int (k : Int)))) (some (.d (PR.ring h w r).d)) (some (.d (planeF ts k).d)) (some (.d (.int ((max h w : Nat) : Int)))) (some (.d (.int ((i + 1 : Nat) : Int)))) o9 o10) [c4] ⟨o9, o10, rfl, rfl⟩ fun pre j post ρ s ep ⟨o9, o10, hρ, hs⟩ => by
            subst hρ hs
            have hj := (pre_range ep).2.1
            obtain ⟨o10', e⟩ := w10_run (Φ := Φ) (n := n) h82 Rl (ts := ts) (h := h) (w := w) (h' := i + 1) (w' := j + 1) (r := r) (hS (i + 1) (j + 1) (by omega) (by omega) (by omega) (by omega)) (Nat.mul_le_mul (show i + 1 ≤ 3 by omega) (show j + 1 ≤ 3 by omega)) h1 hrl (hn (i + 1) (j + 1) (by omega) (by omega)) (a0 := A) (o3 := some (.d (.int (m : Int)))) (o4 := some (.d (.int (k : Int)))) (o6 := some (.d (planeF ts k).d)) (o10 := o10) (s := [c4])
            exact ⟨_, _, _, rfl, .inl e, some (.d (.int ((j + 1 : Nat) : Int))), o10', rfl, rfl⟩
        have eI := rng_p (Φ := Φ) (i := 7) (k := max h w) (ρ := envT A ts (some (.d (.int (m : Int)))) (some (.d (.int (k : Int)))) (some (.d (PR.ring h w r).d)) (some (.d (planeF ts k).d)) (some (.d (.int ((max h w : Nat) : Int)))) (some (.d (.int ((i + 1 : Nat) : Int)))) o9 o10) (s := [c4]) rfl (by omega)
        refine ⟨envT A ts (some (.d (.int (m : Int)))) (some (.d (.int (k : Int)))) (some (.d (PR.ring h w r).d)) (some (.d (planeF ts k).d)) (some (.d (.int ((max h w : Nat) : Int)))) (some (.d (.int ((i + 1 : Nat) : Int)))) o9 o10, envT A ts (some (.d (.int (m : Int)))) (some (.d (.int (k : Int)))) (some (.d (PR.ring h w r).d)) (some (.d (planeF ts k).d)) (some (.d (.int ((max h w : Nat) : Int)))) (some (.d (.int ((i + 1 : Nat) : Int)))) o9' o10', [c4], rfl, .inl ?_, some (.d (.int ((i + 1 : Nat) : Int))), o9', o10', rfl, rfl⟩
        unfold B_h10
        rw [rB_cons, rS_for, eI, forS_ok, e]
        exact Eq.trans rfl rfl
    have eI := rng_p (Φ := Φ) (i := 7) (k := max h w) (ρ := envT A ts (some (.d (.int (m : Int)))) (some (.d (.int (k : Int)))) (some (.d (PR.ring h w r).d)) (some (.d (planeF ts k).d)) (some (.d (.int ((max h w : Nat) : Int)))) none none none) (s := [c4]) rfl (by omega)
    rw [rB_cons, rS_for, eI, forS_ok, e, R.sq_nx]
    have e82 := opt_call (Rl ts h w [c4] (hS h w h1 (by omega) w1 (by omega)) (Nat.mul_le_mul (show h ≤ 3 by omega) (show w ≤ 3 by omega)))
    rw [hr] at e82
    have e82 : callF φ82 [setW ts, .d (.int (h : Int)), .d (.int (w : Int))] [c4] = .ok (.d (layD (rowsOf h w r))) [c4] := e82
    have q := c_eq_self (n := 2) (by decide) (ring_Nd (h := h) (w := w) (r := r) (by omega) (by omega))
    have eh := hi_run (Φ := Φ) (s := [c4]) (ρ := envT A ts (some (.d (.int (m : Int)))) (some (.d (.int (k : Int)))) (some (.d (PR.ring h w r).d)) (some (.d (planeF ts k).d)) (some (.d (.int ((max h w : Nat) : Int)))) o8 o9 o10) rfl
    have ew := wi_run (Φ := Φ) (s := [c4]) (ρ := envT A ts (some (.d (.int (m : Int)))) (some (.d (.int (k : Int)))) (some (.d (PR.ring h w r).d)) (some (.d (planeF ts k).d)) (some (.d (.int ((max h w : Nat) : Int)))) o8 o9 o10) rfl h1 hrl
    have ex : runE Φ (.call 82 (.cons (.var 2) (.cons E_hi (.cons E_wi .nil)))) (envT A ts (some (.d (.int (m : Int)))) (some (.d (.int (k : Int)))) (some (.d (PR.ring h w r).d)) (some (.d (planeF ts k).d)) (some (.d (.int ((max h w : Nat) : Int)))) o8 o9 o10) [c4] = .ok (.d (layD (rowsOf h w r))) [c4] := by
      generalize E_hi = X at eh ⊢
      generalize E_wi = Y at ew ⊢
      generalize hρ : envT A ts (some (.d (.int (m : Int)))) (some (.d (.int (k : Int)))) (some (.d (PR.ring h w r).d)) (some (.d (planeF ts k).d)) (some (.d (.int ((max h w : Nat) : Int)))) o8 o9 o10 = ρ at eh ew ⊢
      have e0 : runE Φ (.var 2) ρ [c4] = .ok (setW ts) [c4] := by rw [← hρ]; rfl
      have x1 : runEs Φ (.cons X (.cons Y .nil)) ρ [c4] = .ok [.d (.int (h : Int)), .d (.int (w : Int))] [c4] := by
        rw [rEs_cons, eh]
        simp only [R.bind_ok, rEs_cons, ew, rEs_nil]
      have x2 : runEs Φ (.cons (.var 2) (.cons X (.cons Y .nil))) ρ [c4] = .ok [setW ts, .d (.int (h : Int)), .d (.int (w : Int))] [c4] := by
        rw [rEs_cons, e0]
        simp only [R.bind_ok, x1]
      rw [rE_call, h82]
      show R.bind (runEs Φ (.cons (.var 2) (.cons X (.cons Y .nil))) ρ [c4]) _ = _
      rw [x2]
      exact e82
    have ey : runE Φ (.idx (.var 5) (.cst (.int 1))) (envT A ts (some (.d (.int (m : Int)))) (some (.d (.int (k : Int)))) (some (.d (PR.ring h w r).d)) (some (.d (planeF ts k).d)) (some (.d (.int ((max h w : Nat) : Int)))) o8 o9 o10) [c4] = .ok (.d (layD (rowsOf h w r))) [c4] := rfl
    have ez : runE Φ (.cmp .eq (.call 82 (.cons (.var 2) (.cons E_hi (.cons E_wi .nil)))) (.idx (.var 5) (.cst (.int 1)))) (envT A ts (some (.d (.int (m : Int)))) (some (.d (.int (k : Int)))) (some (.d (PR.ring h w r).d)) (some (.d (planeF ts k).d)) (some (.d (.int ((max h w : Nat) : Int)))) o8 o9 o10) [c4] = .ok (.d (.bool true)) [c4] := by
      rw [rE_cmp, ex]
      simp only [R.bind_ok, ey, see, q]
      rfl
    rw [rB_cons, rS_ret, ez]
    rfl
end
end DM

set_option maxRecDepth 100000
set_option maxHeartbeats 0
namespace K10
open PySem PySem.Spec PyProof.Rows L2 DM
def top (i : Nat) : Stmt := PySem.Challenge.pw_tilelaw_k10_plane_by_sizes.main.body.getD i (.Pass ⟨0, 0, 0, 0⟩)
def NM : Nms := ⟨(["_law_across", "_law_alike", "_law_back", "_law_blocked", "_law_by_sizes", "_law_column", "_law_columns_of", "_law_copied", "_law_counted", "_law_dice", "_law_drawn", "_law_first", "_law_fits", "_law_fixed", "_law_goes", "_law_goes_on", "_law_great", "_law_has", "_law_having", "_law_held", "_law_is", "_law_is_column", "_law_is_laid", "_law_is_laying", "_law_is_naming", "_law_is_ring", "_law_kept", "_law_layings", "_law_lean", "_law_like", "_law_many", "_law_mark", "_law_marks", "_law_more", "_law_next", "_law_none", "_law_orders", "_law_other", "_law_over", "_law_plane", "_law_refused", "_law_renamed", "_law_ring", "_law_ring_size", "_law_rings", "_law_rolls", "_law_side", "_law_size", "_law_small", "_law_steps", "_law_tiles", "_law_told", "_law_whole", "_wall", "around", "blocked", "blocks", "both", "columns", "counts", "either", "filled", "fillings", "forced", "goes_on", "has_neighbours", "is_free", "is_laid", "is_rolled", "laid", "law", "lean", "longest", "mark_of", "matched", "mirrored", "need_few", "need_fixed", "need_size", "number_of", "plane", "read", "rolled", "rows_of", "shortest_ring", "steps_back", "strip", "turned", "written"] : List String).map Str.ofString,
  (["BadSet", "BadText", "Tiles", "TileError", "BadSpot", "NoLaying", "TooMany", "Band", "Laying", "Filling", "Rolling", "Matching"] : List String).map Str.ofString,
  (["tiles", "many", "is_beside", "is_below", "greatest", "step", "fits", "goes", "rows", "__init__"] : List String).map Str.ofString,
  (["at", "why", "row", "squares", "columns", "nexts", "kit", "high", "wide", "fixed", "bad", "known", "one", "other", "names"] : List String).map Str.ofString,
  (["len", "int", "str", "bool", "tuple", "list", "dict", "max", "min", "isinstance", "range", "sorted", "sum", "set"] : List String).map Str.ofString,
  [("MOST_TILES", .int 200), ("MOST_MARK", .int 1000000000000), ("MOST_SIZE", .int 12)],
  [[0, 1], [2], [3], [], [], [], [], [4, 5], [6, 7, 8, 9, 2, 10], [6, 7, 8, 9, 2, 10, 11], [6, 7, 8, 9, 2, 10], [12, 13, 14]]⟩
abbrev s_law_dice : Stmt := top 20
abbrev N_law_dice : List Str := ["_law_script", "_law_mixed", "_law_cell"]
abbrev p_law_dice : List Str := ["_law_script"]
theorem cb_law_dice : compB (ccOf NM s_law_dice N_law_dice ["bad", "row"] [] ["bad", "fixed", "known"] true) (defBody s_law_dice) = B_dice := by kernel_rfl
theorem sc_law_dice : FnScope N_law_dice p_law_dice (defScope s_law_dice) := ⟨rfl, rfl, rfl, by decide +kernel, rfl, by decide +kernel, by decide +kernel⟩
abbrev s_law_next : Stmt := top 21
abbrev N_law_next : List Str := ["_law_dice_here", "_law_many", "_law_found", "_law_cell"]
abbrev p_law_next : List Str := ["_law_dice_here", "_law_many"]
theorem cb_law_next : compB (ccOf NM s_law_next N_law_next ["bad", "row"] [] ["bad", "fixed", "known"] false) (defBody s_law_next) = B_next := by kernel_rfl
theorem sc_law_next : FnScope N_law_next p_law_next (defScope s_law_next) := ⟨rfl, rfl, rfl, by decide +kernel, rfl, by decide +kernel, by decide +kernel⟩
abbrev s_law_marks : Stmt := top 22
abbrev N_law_marks : List Str := ["_law_d", "_law_names", "_law_way", "_law_one"]
abbrev p_law_marks : List Str := ["_law_d"]
theorem cb_law_marks : compB (ccOf NM s_law_marks N_law_marks ["bad", "row"] [] ["bad", "fixed", "known"] false) (defBody s_law_marks) = B_marks := by kernel_rfl
theorem sc_law_marks : FnScope N_law_marks p_law_marks (defScope s_law_marks) := ⟨rfl, rfl, rfl, by decide +kernel, rfl, by decide +kernel, by decide +kernel⟩
abbrev s_law_tiles : Stmt := top 23
abbrev N_law_tiles : List Str := ["_law_d", "_law_most", "_law_across", "_law_down", "_law_rows", "_law_k", "_law_north", "_law_east", "_law_south"]
abbrev p_law_tiles : List Str := ["_law_d", "_law_most"]
theorem cb_law_tiles : compB (ccOf NM s_law_tiles N_law_tiles ["_law_rows", "bad", "row"] [] ["bad", "fixed", "known"] false) (defBody s_law_tiles) = B_tiles := by kernel_rfl
theorem sc_law_tiles : FnScope N_law_tiles p_law_tiles (defScope s_law_tiles) := ⟨rfl, rfl, rfl, by decide +kernel, rfl, by decide +kernel, by decide +kernel⟩
abbrev s_law_small : Stmt := top 24
abbrev N_law_small : List Str := ["_law_d", "_law_most", "_law_row", "_law_mark"]
abbrev p_law_small : List Str := ["_law_d", "_law_most"]
theorem cb_law_small : compB (ccOf NM s_law_small N_law_small ["bad", "row"] [] ["bad", "fixed", "known"] false) (defBody s_law_small) = B_small := by kernel_rfl
theorem sc_law_small : FnScope N_law_small p_law_small (defScope s_law_small) := ⟨rfl, rfl, rfl, by decide +kernel, rfl, by decide +kernel, by decide +kernel⟩
abbrev s_Tiles_is_beside : Stmt := inClass (top 9) 3
abbrev N_Tiles_is_beside : List Str := ["self", "one", "other"]
abbrev p_Tiles_is_beside : List Str := ["self", "one", "other"]
theorem cb_Tiles_is_beside : compB (ccOf NM s_Tiles_is_beside N_Tiles_is_beside ["bad", "row"] [] ["bad", "fixed", "known"] false) (defBody s_Tiles_is_beside) = B_beside := by kernel_rfl
theorem sc_Tiles_is_beside : FnScope N_Tiles_is_beside p_Tiles_is_beside (defScope s_Tiles_is_beside) := ⟨rfl, rfl, rfl, by decide +kernel, rfl, by decide +kernel, by decide +kernel⟩
abbrev s_Tiles_is_below : Stmt := inClass (top 9) 4
abbrev N_Tiles_is_below : List Str := ["self", "one", "other"]
abbrev p_Tiles_is_below : List Str := ["self", "one", "other"]
theorem cb_Tiles_is_below : compB (ccOf NM s_Tiles_is_below N_Tiles_is_below ["bad", "row"] [] ["bad", "fixed", "known"] false) (defBody s_Tiles_is_below) = B_below := by kernel_rfl
theorem sc_Tiles_is_below : FnScope N_Tiles_is_below p_Tiles_is_below (defScope s_Tiles_is_below) := ⟨rfl, rfl, rfl, by decide +kernel, rfl, by decide +kernel, by decide +kernel⟩
abbrev s_Tiles_many : Stmt := inClass (top 9) 2
abbrev N_Tiles_many : List Str := ["self"]
abbrev p_Tiles_many : List Str := ["self"]
theorem cb_Tiles_many : compB (ccOf NM s_Tiles_many N_Tiles_many ["bad", "row"] [] ["bad", "fixed", "known"] false) (defBody s_Tiles_many) = B_many := by kernel_rfl
theorem sc_Tiles_many : FnScope N_Tiles_many p_Tiles_many (defScope s_Tiles_many) := ⟨rfl, rfl, rfl, by decide +kernel, rfl, by decide +kernel, by decide +kernel⟩
abbrev s_Tiles_init : Stmt := inClass (top 9) 0
abbrev N_Tiles_init : List Str := ["self", "rows", "at", "mark"]
abbrev p_Tiles_init : List Str := ["self", "rows"]
theorem cb_Tiles_init : compB (ccOf NM s_Tiles_init N_Tiles_init ["bad", "row"] [] ["bad", "fixed", "known"] false) (defBody s_Tiles_init) = B_Tinit := by kernel_rfl
theorem sc_Tiles_init : FnScope N_Tiles_init p_Tiles_init (defScope s_Tiles_init) := ⟨rfl, rfl, rfl, by decide +kernel, rfl, by decide +kernel, by decide +kernel⟩
abbrev s_need_size : Stmt := top 10
abbrev N_need_size : List Str := ["high", "wide"]
abbrev p_need_size : List Str := ["high", "wide"]
theorem cb_need_size : compB (ccOf NM s_need_size N_need_size ["bad", "row"] [] ["bad", "fixed", "known"] false) (defBody s_need_size) = B_needSize := by kernel_rfl
theorem sc_need_size : FnScope N_need_size p_need_size (defScope s_need_size) := ⟨rfl, rfl, rfl, by decide +kernel, rfl, by decide +kernel, by decide +kernel⟩
abbrev s_is_laid : Stmt := top 11
abbrev N_is_laid : List Str := ["tiles", "rows", "at", "k"]
abbrev p_is_laid : List Str := ["tiles", "rows"]
theorem cb_is_laid : compB (ccOf NM s_is_laid N_is_laid ["bad", "row"] [] ["bad", "fixed", "known"] false) (defBody s_is_laid) = B_laid := by kernel_rfl
theorem sc_is_laid : FnScope N_is_laid p_is_laid (defScope s_is_laid) := ⟨rfl, rfl, rfl, by decide +kernel, rfl, by decide +kernel, by decide +kernel⟩
abbrev s_is_rolled : Stmt := top 12
abbrev N_is_rolled : List Str := ["tiles", "rows", "row", "k"]
abbrev p_is_rolled : List Str := ["tiles", "rows"]
theorem cb_is_rolled : compB (ccOf NM s_is_rolled N_is_rolled ["bad", "row"] [] ["bad", "fixed", "known"] false) (defBody s_is_rolled) = B_isRolled := by kernel_rfl
theorem sc_is_rolled : FnScope N_is_rolled p_is_rolled (defScope s_is_rolled) := ⟨rfl, rfl, rfl, by decide +kernel, rfl, by decide +kernel, by decide +kernel⟩
abbrev s_Laying_init : Stmt := inClass (top 14) 0
abbrev N_Laying_init : List Str := ["self", "tiles", "high", "wide", "fixed"]
abbrev p_Laying_init : List Str := ["self", "tiles", "high", "wide", "fixed"]
theorem cb_Laying_init : compB (ccOf NM s_Laying_init N_Laying_init ["bad", "row"] [] ["bad", "fixed", "known"] false) (defBody s_Laying_init) = B_linit := by kernel_rfl
theorem sc_Laying_init : FnScope N_Laying_init p_Laying_init (defScope s_Laying_init) := ⟨rfl, rfl, rfl, by decide +kernel, rfl, by decide +kernel, by decide +kernel⟩
abbrev s_Laying_fits : Stmt := inClass (top 14) 1
abbrev N_Laying_fits : List Str := ["self", "tile", "place", "spot"]
abbrev p_Laying_fits : List Str := ["self", "tile"]
theorem cb_Laying_fits : compB (ccOf NM s_Laying_fits N_Laying_fits ["bad", "row"] [] ["bad", "fixed", "known"] false) (defBody s_Laying_fits) = B_lfits := by kernel_rfl
theorem sc_Laying_fits : FnScope N_Laying_fits p_Laying_fits (defScope s_Laying_fits) := ⟨rfl, rfl, rfl, by decide +kernel, rfl, by decide +kernel, by decide +kernel⟩
abbrev s_Laying_rows : Stmt := inClass (top 14) 3
abbrev N_Laying_rows : List Str := ["self", "at"]
abbrev p_Laying_rows : List Str := ["self"]
theorem cb_Laying_rows : compB (ccOf NM s_Laying_rows N_Laying_rows ["bad", "row"] [] ["bad", "fixed", "known"] false) (defBody s_Laying_rows) = B_lrows := by kernel_rfl
theorem sc_Laying_rows : FnScope N_Laying_rows p_Laying_rows (defScope s_Laying_rows) := ⟨rfl, rfl, rfl, by decide +kernel, rfl, by decide +kernel, by decide +kernel⟩
abbrev s_Laying_goes : Stmt := inClass (top 14) 2
abbrev N_Laying_goes : List Str := ["self", "place", "key", "tile"]
abbrev p_Laying_goes : List Str := ["self"]
theorem cb_Laying_goes : compB (ccOf NM s_Laying_goes N_Laying_goes ["bad", "row"] [] ["bad", "fixed", "known"] false) (defBody s_Laying_goes) = B_lgoes := by kernel_rfl
theorem sc_Laying_goes : FnScope N_Laying_goes p_Laying_goes (defScope s_Laying_goes) := ⟨rfl, rfl, rfl, by decide +kernel, rfl, by decide +kernel, by decide +kernel⟩
abbrev s_laid : Stmt := top 15
abbrev N_laid : List Str := ["tiles", "high", "wide", "laying"]
abbrev p_laid : List Str := ["tiles", "high", "wide"]
theorem cb_laid : compB (ccOf NM s_laid N_laid ["bad", "row"] [] ["bad", "fixed", "known"] true) (defBody s_laid) = B_laid8 8 := by kernel_rfl
theorem sc_laid : FnScope N_laid p_laid (defScope s_laid) := ⟨rfl, rfl, rfl, by decide +kernel, rfl, by decide +kernel, by decide +kernel⟩
abbrev s_Rolling_fits : Stmt := inClass (top 16) 0
abbrev N_Rolling_fits : List Str := ["self", "tile", "place", "first"]
abbrev p_Rolling_fits : List Str := ["self", "tile"]
theorem cb_Rolling_fits : compB (ccOf NM s_Rolling_fits N_Rolling_fits ["bad", "row"] [] ["bad", "fixed", "known"] false) (defBody s_Rolling_fits) = B_rfits := by kernel_rfl
theorem sc_Rolling_fits : FnScope N_Rolling_fits p_Rolling_fits (defScope s_Rolling_fits) := ⟨rfl, rfl, rfl, by decide +kernel, rfl, by decide +kernel, by decide +kernel⟩
abbrev s_Rolling_goes : Stmt := inClass (top 16) 1
abbrev N_Rolling_goes : List Str := ["self", "place", "tile"]
abbrev p_Rolling_goes : List Str := ["self"]
theorem cb_Rolling_goes : compB (ccOf NM s_Rolling_goes N_Rolling_goes ["bad", "row"] [] ["bad", "fixed", "known"] false) (defBody s_Rolling_goes) = B_rgoes := by kernel_rfl
theorem sc_Rolling_goes : FnScope N_Rolling_goes p_Rolling_goes (defScope s_Rolling_goes) := ⟨rfl, rfl, rfl, by decide +kernel, rfl, by decide +kernel, by decide +kernel⟩
abbrev s_rolled : Stmt := top 17
abbrev N_rolled : List Str := ["tiles", "high", "wide", "rolling"]
abbrev p_rolled : List Str := ["tiles", "high", "wide"]
theorem cb_rolled : compB (ccOf NM s_rolled N_rolled ["bad", "row"] [] ["bad", "fixed", "known"] true) (defBody s_rolled) = B_laid8 10 := by kernel_rfl
theorem sc_rolled : FnScope N_rolled p_rolled (defScope s_rolled) := ⟨rfl, rfl, rfl, by decide +kernel, rfl, by decide +kernel, by decide +kernel⟩
abbrev s_plane : Stmt := top 18
abbrev N_plane : List Str := ["tiles", "most", "size", "high", "wide", "rows"]
abbrev p_plane : List Str := ["tiles", "most"]
theorem cb_plane : compB (ccOf NM s_plane N_plane ["bad", "row"] [] ["bad", "fixed", "known"] false) (defBody s_plane) = B_plane := by kernel_rfl
theorem sc_plane : FnScope N_plane p_plane (defScope s_plane) := ⟨rfl, rfl, rfl, by decide +kernel, rfl, by decide +kernel, by decide +kernel⟩
abbrev s_law : Stmt := top 26
abbrev N_law : List Str := ["_law_script", "_law_d", "_law_tiles_here", "_law_most", "_law_less", "_law_found", "_law_short", "_law_size_here", "_law_high", "_law_wide", "_law_rows"]
abbrev p_law : List Str := ["_law_script"]
theorem cb_law : compB (ccOf NM s_law N_law ["_law_d", "bad", "row"] [] ["bad", "fixed", "known"] false) (defBody s_law) = B_law10 := by kernel_rfl
theorem sc_law : FnScope N_law p_law (defScope s_law) := ⟨rfl, rfl, rfl, by decide +kernel, rfl, by decide +kernel, by decide +kernel⟩
def F0 : Phi := phi0 NM
def F1 : Phi := F0.setFn 9 (.p 1 (gP F0 1 B_dice 3))
def F2 : Phi := F1.setFn 34 (.m 2 (gM F1 1 B_next 4 0))
def F3 : Phi := F2.setFn 32 (.m 1 (gM F2 1 B_marks 4 0))
def F4 : Phi := F3.setFn 50 (.m 2 (gM F3 1 B_tiles 9 0))
def F5 : Phi := F4.setFn 48 (.m 2 (gM F4 1 B_small 4 0))
def F6 : Phi := F5.setMt 2 2 (.p 3 (gP F5 1 B_beside 3))
def F7 : Phi := F6.setMt 2 3 (.p 3 (gP F6 1 B_below 3))
def F8 : Phi := F7.setMt 2 1 (.p 1 (gP F7 1 B_many 1))
def F9 : Phi := F8.setCl 2 (.p 1 (gI 2 F8 1 B_Tinit 4))
def F10 : Phi := F9.setFn 78 (.p 2 (gP F9 1 B_needSize 2))
def F11 : Phi := F10.setFn 67 (.p 2 (gP F10 1 B_laid 4))
def F12 : Phi := F11.setFn 68 (.p 2 (gP F11 1 B_isRolled 4))
def F13 : Phi := F12.setCl 8 (.m 4 (gM F12 1 B_linit 5 2))
def F14 : Phi := F13.setMt 8 6 (.m 2 (gM F13 1 B_lfits 4 0))
def F15 : Phi := F14.setMt 8 8 (.m 1 (gM F14 1 B_lrows 2 0))
def F16 : Phi := recMt F15 8 7 1 B_lgoes 4 10
def F17 : Phi := F16.setFn 69 (.p 3 (gP F16 1 (B_laid8 8) 4))
def F18 : Phi := F17.setCl 10 (.m 4 (gM F17 1 B_linit 5 2))
def F19 : Phi := F18.setCm 8 6 (.m 2 (gM F18 1 B_lfits 4 0))
def F20 : Phi := F19.setMt 10 8 (.m 1 (gM F19 1 B_lrows 2 0))
def F21 : Phi := F20.setMt 10 6 (.m 2 (gM F20 1 B_rfits 4 0))
def F22 : Phi := recMt F21 10 7 1 B_rgoes 3 10
def F23 : Phi := F22.setFn 82 (.p 3 (gP F22 1 (B_laid8 10) 4))
def F24 : Phi := F23.setFn 80 (.p 2 (gP F23 1 B_plane 6))
abbrev gLaw : List W → Option Ro := gP F24 1 B_law10 11
theorem law_is : ∀ ns : List Int, ns.length ≤ 63 → gLaw [.d (.list (ns.map .int))] = some (.ret (.d (.bool true))) := fun ns hl => by
  have N : NextOk (.m 2 (gM F1 1 B_next 4 0)) := next_ok _ _
  have M : MarksOk (.m 1 (gM F2 1 B_marks 4 0)) := marks_ok rfl N 1
  have Ti : TilesOk (.m 2 (gM F3 1 B_tiles 9 0)) := tiles_ok 1 rfl N rfl M
  have Sm : SmallOk (.m 2 (gM F4 1 B_small 4 0)) := small_ok rfl Ti
  have Be : PairOk (.p 3 (gP F5 1 B_beside 3)) besideB := beside_ok _ _
  have Bl : PairOk (.p 3 (gP F6 1 B_below 3)) belowB := below_ok _ _
  have Mn : ManyOk (.p 1 (gP F7 1 B_many 1)) := many_ok _ _
  have K : MkTiles (.p 1 (gI 2 F8 1 B_Tinit 4)) := tinit_ok 1 rfl
  have Ne : NeedOk (.p 2 (gP F9 1 B_needSize 2)) := need_ok _ _
  have La : LaidOk (.p 2 (gP F10 1 B_laid 4)) := laid_ok 1 rfl Be rfl Bl
  have Ir : IsRolledOk (.p 2 (gP F11 1 B_isRolled 4)) := isRolled_ok 1 rfl La rfl Be rfl Bl
  have M8 : MkLy (.m 4 (gM F12 1 B_linit 5 2)) 8 := linit_ok rfl Ne rfl rfl rfl rfl rfl rfl
  have Lf : LFitsOk (.m 2 (gM F13 1 B_lfits 4 0)) := lfits_ok rfl Be rfl Bl
  have R8 : LRowsOk (.m 1 (gM F14 1 B_lrows 2 0)) := lrows_ok
  have G8 := lgoes_rec (Φ := F15) (c := 8) (by decide) rfl Mn rfl Lf 9
  have Fl : FirstOk (.p 3 (gP F16 1 (B_laid8 8) 4)) (fun ts h w => layF ts w (h * w)) 9 := laid_first rfl M8 rfl G8 rfl R8
  have M10 : MkLy (.m 4 (gM F17 1 B_linit 5 2)) 10 := linit_ok rfl Ne rfl rfl rfl rfl rfl rfl
  have Lc : LFitsOk (.m 2 (gM F18 1 B_lfits 4 0)) := lfits_ok rfl Be rfl Bl
  have R10 : LRowsOk (.m 1 (gM F19 1 B_lrows 2 0)) := lrows_ok
  have Rf : RFitsOk (.m 2 (gM F20 1 B_rfits 4 0)) := rfits_ok rfl Lc rfl Be rfl Bl
  have G10 := rgoes_rec (Φ := F21) (c := 10) (by decide) rfl Mn rfl Rf rfl Ir rfl R10 9
  have Fr : FirstOk (.p 3 (gP F22 1 (B_laid8 10) 4)) rolF 9 := rolled_first rfl M10 rfl G10 rfl R10
  have Pl : PlaneOk (.p 2 (gP F23 1 B_plane 6)) 9 := plane_ok rfl Fr rfl Fl rfl Ne
  exact law10 (n := 1) rfl (dice_ok _ _) rfl Sm rfl K rfl N rfl Pl rfl Fr ns hl
theorem all_mk {l : PySem.W.OpenLaw} {w : World} {K : PySem.W.Frag} {h : Heap} {mg : Str → Option Value} {fa : Addr} {f_law_dice f_law_next f_law_marks f_law_tiles f_law_small f_Tiles_is_beside f_Tiles_is_below f_Tiles_many f_Tiles_init f_need_size f_is_laid f_is_rolled f_Laying_init f_Laying_fits f_Laying_rows f_Laying_goes f_laid f_Rolling_fits f_Rolling_goes f_rolled f_plane f_law C_Tiles C_Laying C_Rolling : Addr} {od_law_dice an_law_dice od_law_next an_law_next od_law_marks an_law_marks od_law_tiles an_law_tiles od_law_small an_law_small od_Tiles_is_beside an_Tiles_is_beside od_Tiles_is_below an_Tiles_is_below od_Tiles_many an_Tiles_many od_Tiles_init an_Tiles_init od_need_size an_need_size od_is_laid an_is_laid od_is_rolled an_is_rolled od_Laying_init an_Laying_init od_Laying_fits an_Laying_fits od_Laying_rows an_Laying_rows od_Laying_goes an_Laying_goes od_laid an_laid od_Rolling_fits an_Rolling_fits od_Rolling_goes an_Rolling_goes od_rolled an_rolled od_plane an_plane od_law an_law : Option Addr} {sl_law_dice sl_law_next sl_law_marks sl_law_tiles sl_law_small sl_Tiles_is_beside sl_Tiles_is_below sl_Tiles_many sl_Tiles_init sl_need_size sl_is_laid sl_is_rolled sl_Laying_init sl_Laying_fits sl_Laying_rows sl_Laying_goes sl_laid sl_Rolling_fits sl_Rolling_goes sl_rolled sl_plane sl_law : Array (Option Value)} {oc_law_dice kV_law_dice dc_law_dice pm_law_dice cd_law_dice ct_law_dice oc_law_next kV_law_next dc_law_next pm_law_next cd_law_next ct_law_next oc_law_marks kV_law_marks dc_law_marks pm_law_marks cd_law_marks ct_law_marks oc_law_tiles kV_law_tiles dc_law_tiles pm_law_tiles cd_law_tiles ct_law_tiles oc_law_small kV_law_small dc_law_small pm_law_small cd_law_small ct_law_small oc_Tiles_is_beside kV_Tiles_is_beside dc_Tiles_is_beside pm_Tiles_is_beside cd_Tiles_is_beside ct_Tiles_is_beside oc_Tiles_is_below kV_Tiles_is_below dc_Tiles_is_below pm_Tiles_is_below cd_Tiles_is_below ct_Tiles_is_below oc_Tiles_many kV_Tiles_many dc_Tiles_many pm_Tiles_many cd_Tiles_many ct_Tiles_many oc_Tiles_init kV_Tiles_init dc_Tiles_init pm_Tiles_init cd_Tiles_init ct_Tiles_init oc_need_size kV_need_size dc_need_size pm_need_size cd_need_size ct_need_size oc_is_laid kV_is_laid dc_is_laid pm_is_laid cd_is_laid ct_is_laid oc_is_rolled kV_is_rolled dc_is_rolled pm_is_rolled cd_is_rolled ct_is_rolled oc_Laying_init kV_Laying_init dc_Laying_init pm_Laying_init cd_Laying_init ct_Laying_init oc_Laying_fits kV_Laying_fits dc_Laying_fits pm_Laying_fits cd_Laying_fits ct_Laying_fits oc_Laying_rows kV_Laying_rows dc_Laying_rows pm_Laying_rows cd_Laying_rows ct_Laying_rows oc_Laying_goes kV_Laying_goes dc_Laying_goes pm_Laying_goes cd_Laying_goes ct_Laying_goes oc_laid kV_laid dc_laid pm_laid cd_laid ct_laid oc_Rolling_fits kV_Rolling_fits dc_Rolling_fits pm_Rolling_fits cd_Rolling_fits ct_Rolling_fits oc_Rolling_goes kV_Rolling_goes dc_Rolling_goes pm_Rolling_goes cd_Rolling_goes ct_Rolling_goes oc_rolled kV_rolled dc_rolled pm_rolled cd_rolled ct_rolled oc_plane kV_plane dc_plane pm_plane cd_plane ct_plane oc_law kV_law dc_law pm_law cd_law ct_law : Value} {tk_MOST_TILES tk_MOST_SIZE : Tok} {pv : Program} (X : K.In h) (XPv : PySem.W.XL pv [("MOST_MARK", PySem.W.WData.int 1000000000000)] mg h) (G : h.Ns mainGlobals mg) (hfa : mg "law" = some (.ref fa))
    (aC_Tiles : PySem.W.nsIn K mainGlobals "Tiles" = some (some (.ref C_Tiles)))
    (pg_Tiles : PySem.W.plainGet K C_Tiles Str.empty = true)
    (hd_Tiles : PySem.W.hasDictIn K C_Tiles = true)
    (po_Tiles : PySem.W.plainOver K C_Tiles = true)
    (sa_Tiles : PySem.W.findIn K (.ref C_Tiles) "__setattr__" = some (some (.builtin "object.__setattr__")))
    (mk_Tiles : PySem.W.makesIn K C_Tiles = true)
    (kc_Tiles : PySem.W.keepIn K (.ref C_Tiles) = true)
    (nsquares_Tiles : PySem.W.findIn K (.ref C_Tiles) "squares" = some none)
    (aC_Laying : PySem.W.nsIn K mainGlobals "Laying" = some (some (.ref C_Laying)))
    (pg_Laying : PySem.W.plainGet K C_Laying Str.empty = true)
    (hd_Laying : PySem.W.hasDictIn K C_Laying = true)
    (po_Laying : PySem.W.plainOver K C_Laying = true)
    (sa_Laying : PySem.W.findIn K (.ref C_Laying) "__setattr__" = some (some (.builtin "object.__setattr__")))
    (mk_Laying : PySem.W.makesIn K C_Laying = true)
    (kc_Laying : PySem.W.keepIn K (.ref C_Laying) = true)
    (nkit_Laying : PySem.W.findIn K (.ref C_Laying) "kit" = some none)
    (nhigh_Laying : PySem.W.findIn K (.ref C_Laying) "high" = some none)
    (nwide_Laying : PySem.W.findIn K (.ref C_Laying) "wide" = some none)
    (nfixed_Laying : PySem.W.findIn K (.ref C_Laying) "fixed" = some none)
    (nrow_Laying : PySem.W.findIn K (.ref C_Laying) "row" = some none)
    (nbad_Laying : PySem.W.findIn K (.ref C_Laying) "bad" = some none)
    (aC_Rolling : PySem.W.nsIn K mainGlobals "Rolling" = some (some (.ref C_Rolling)))
    (pg_Rolling : PySem.W.plainGet K C_Rolling Str.empty = true)
    (hd_Rolling : PySem.W.hasDictIn K C_Rolling = true)
    (po_Rolling : PySem.W.plainOver K C_Rolling = true)
    (sa_Rolling : PySem.W.findIn K (.ref C_Rolling) "__setattr__" = some (some (.builtin "object.__setattr__")))
    (mk_Rolling : PySem.W.makesIn K C_Rolling = true)
    (kc_Rolling : PySem.W.keepIn K (.ref C_Rolling) = true)
    (nkit_Rolling : PySem.W.findIn K (.ref C_Rolling) "kit" = some none)
    (nhigh_Rolling : PySem.W.findIn K (.ref C_Rolling) "high" = some none)
    (nwide_Rolling : PySem.W.findIn K (.ref C_Rolling) "wide" = some none)
    (nfixed_Rolling : PySem.W.findIn K (.ref C_Rolling) "fixed" = some none)
    (nrow_Rolling : PySem.W.findIn K (.ref C_Rolling) "row" = some none)
    (nbad_Rolling : PySem.W.findIn K (.ref C_Rolling) "bad" = some none)
    (a_law_dice : PySem.W.nsIn K mainGlobals "_law_dice" = some (some (.ref f_law_dice)))
    (l_law_dice : K.lookup f_law_dice = some ⟨oc_law_dice, od_law_dice, .func (PySem.W.fnOf "_law_dice" "_law_dice" (defArgs s_law_dice) (defBody s_law_dice) (defScope s_law_dice) .none kV_law_dice dc_law_dice pm_law_dice an_law_dice cd_law_dice ct_law_dice), sl_law_dice⟩)
    (c_law_dice : PySem.W.codeIn K cd_law_dice "_law_dice" = true)
    (k_law_dice : PySem.W.keepIn K (.ref f_law_dice) = true)
    (a_law_next : PySem.W.nsIn K mainGlobals "_law_next" = some (some (.ref f_law_next)))
    (l_law_next : K.lookup f_law_next = some ⟨oc_law_next, od_law_next, .func (PySem.W.fnOf "_law_next" "_law_next" (defArgs s_law_next) (defBody s_law_next) (defScope s_law_next) .none kV_law_next dc_law_next pm_law_next an_law_next cd_law_next ct_law_next), sl_law_next⟩)
    (c_law_next : PySem.W.codeIn K cd_law_next "_law_next" = true)
    (k_law_next : PySem.W.keepIn K (.ref f_law_next) = true)
    (a_law_marks : PySem.W.nsIn K mainGlobals "_law_marks" = some (some (.ref f_law_marks)))
    (l_law_marks : K.lookup f_law_marks = some ⟨oc_law_marks, od_law_marks, .func (PySem.W.fnOf "_law_marks" "_law_marks" (defArgs s_law_marks) (defBody s_law_marks) (defScope s_law_marks) .none kV_law_marks dc_law_marks pm_law_marks an_law_marks cd_law_marks ct_law_marks), sl_law_marks⟩)
    (c_law_marks : PySem.W.codeIn K cd_law_marks "_law_marks" = true)
    (k_law_marks : PySem.W.keepIn K (.ref f_law_marks) = true)
    (a_law_tiles : PySem.W.nsIn K mainGlobals "_law_tiles" = some (some (.ref f_law_tiles)))
    (l_law_tiles : K.lookup f_law_tiles = some ⟨oc_law_tiles, od_law_tiles, .func (PySem.W.fnOf "_law_tiles" "_law_tiles" (defArgs s_law_tiles) (defBody s_law_tiles) (defScope s_law_tiles) .none kV_law_tiles dc_law_tiles pm_law_tiles an_law_tiles cd_law_tiles ct_law_tiles), sl_law_tiles⟩)
    (c_law_tiles : PySem.W.codeIn K cd_law_tiles "_law_tiles" = true)
    (k_law_tiles : PySem.W.keepIn K (.ref f_law_tiles) = true)
    (a_law_small : PySem.W.nsIn K mainGlobals "_law_small" = some (some (.ref f_law_small)))
    (l_law_small : K.lookup f_law_small = some ⟨oc_law_small, od_law_small, .func (PySem.W.fnOf "_law_small" "_law_small" (defArgs s_law_small) (defBody s_law_small) (defScope s_law_small) .none kV_law_small dc_law_small pm_law_small an_law_small cd_law_small ct_law_small), sl_law_small⟩)
    (c_law_small : PySem.W.codeIn K cd_law_small "_law_small" = true)
    (k_law_small : PySem.W.keepIn K (.ref f_law_small) = true)
    (a_Tiles_is_beside : PySem.W.findIn K (.ref C_Tiles) "is_beside" = some (some (.ref f_Tiles_is_beside)))
    (i_Tiles_is_beside : PySem.W.isFn K (.ref f_Tiles_is_beside) = true)
    (l_Tiles_is_beside : K.lookup f_Tiles_is_beside = some ⟨oc_Tiles_is_beside, od_Tiles_is_beside, .func (PySem.W.fnOf "is_beside" "Tiles.is_beside" (defArgs s_Tiles_is_beside) (defBody s_Tiles_is_beside) (defScope s_Tiles_is_beside) .none kV_Tiles_is_beside dc_Tiles_is_beside pm_Tiles_is_beside an_Tiles_is_beside cd_Tiles_is_beside ct_Tiles_is_beside), sl_Tiles_is_beside⟩)
    (c_Tiles_is_beside : PySem.W.codeIn K cd_Tiles_is_beside "Tiles.is_beside" = true)
    (k_Tiles_is_beside : PySem.W.keepIn K (.ref f_Tiles_is_beside) = true)
    (a_Tiles_is_below : PySem.W.findIn K (.ref C_Tiles) "is_below" = some (some (.ref f_Tiles_is_below)))
    (i_Tiles_is_below : PySem.W.isFn K (.ref f_Tiles_is_below) = true)
    (l_Tiles_is_below : K.lookup f_Tiles_is_below = some ⟨oc_Tiles_is_below, od_Tiles_is_below, .func (PySem.W.fnOf "is_below" "Tiles.is_below" (defArgs s_Tiles_is_below) (defBody s_Tiles_is_below) (defScope s_Tiles_is_below) .none kV_Tiles_is_below dc_Tiles_is_below pm_Tiles_is_below an_Tiles_is_below cd_Tiles_is_below ct_Tiles_is_below), sl_Tiles_is_below⟩)
    (c_Tiles_is_below : PySem.W.codeIn K cd_Tiles_is_below "Tiles.is_below" = true)
    (k_Tiles_is_below : PySem.W.keepIn K (.ref f_Tiles_is_below) = true)
    (a_Tiles_many : PySem.W.findIn K (.ref C_Tiles) "many" = some (some (.ref f_Tiles_many)))
    (i_Tiles_many : PySem.W.isFn K (.ref f_Tiles_many) = true)
    (l_Tiles_many : K.lookup f_Tiles_many = some ⟨oc_Tiles_many, od_Tiles_many, .func (PySem.W.fnOf "many" "Tiles.many" (defArgs s_Tiles_many) (defBody s_Tiles_many) (defScope s_Tiles_many) .none kV_Tiles_many dc_Tiles_many pm_Tiles_many an_Tiles_many cd_Tiles_many ct_Tiles_many), sl_Tiles_many⟩)
    (c_Tiles_many : PySem.W.codeIn K cd_Tiles_many "Tiles.many" = true)
    (k_Tiles_many : PySem.W.keepIn K (.ref f_Tiles_many) = true)
    (a_Tiles_init : PySem.W.findIn K (.ref C_Tiles) "__init__" = some (some (.ref f_Tiles_init)))
    (i_Tiles_init : PySem.W.isFn K (.ref f_Tiles_init) = true)
    (l_Tiles_init : K.lookup f_Tiles_init = some ⟨oc_Tiles_init, od_Tiles_init, .func (PySem.W.fnOf "__init__" "Tiles.__init__" (defArgs s_Tiles_init) (defBody s_Tiles_init) (defScope s_Tiles_init) .none kV_Tiles_init dc_Tiles_init pm_Tiles_init an_Tiles_init cd_Tiles_init ct_Tiles_init), sl_Tiles_init⟩)
    (c_Tiles_init : PySem.W.codeIn K cd_Tiles_init "Tiles.__init__" = true)
    (k_Tiles_init : PySem.W.keepIn K (.ref f_Tiles_init) = true)
    (a_need_size : PySem.W.nsIn K mainGlobals "need_size" = some (some (.ref f_need_size)))
    (l_need_size : K.lookup f_need_size = some ⟨oc_need_size, od_need_size, .func (PySem.W.fnOf "need_size" "need_size" (defArgs s_need_size) (defBody s_need_size) (defScope s_need_size) .none kV_need_size dc_need_size pm_need_size an_need_size cd_need_size ct_need_size), sl_need_size⟩)
    (c_need_size : PySem.W.codeIn K cd_need_size "need_size" = true)
    (k_need_size : PySem.W.keepIn K (.ref f_need_size) = true)
    (a_is_laid : PySem.W.nsIn K mainGlobals "is_laid" = some (some (.ref f_is_laid)))
    (l_is_laid : K.lookup f_is_laid = some ⟨oc_is_laid, od_is_laid, .func (PySem.W.fnOf "is_laid" "is_laid" (defArgs s_is_laid) (defBody s_is_laid) (defScope s_is_laid) .none kV_is_laid dc_is_laid pm_is_laid an_is_laid cd_is_laid ct_is_laid), sl_is_laid⟩)
    (c_is_laid : PySem.W.codeIn K cd_is_laid "is_laid" = true)
    (k_is_laid : PySem.W.keepIn K (.ref f_is_laid) = true)
    (a_is_rolled : PySem.W.nsIn K mainGlobals "is_rolled" = some (some (.ref f_is_rolled)))
    (l_is_rolled : K.lookup f_is_rolled = some ⟨oc_is_rolled, od_is_rolled, .func (PySem.W.fnOf "is_rolled" "is_rolled" (defArgs s_is_rolled) (defBody s_is_rolled) (defScope s_is_rolled) .none kV_is_rolled dc_is_rolled pm_is_rolled an_is_rolled cd_is_rolled ct_is_rolled), sl_is_rolled⟩)
    (c_is_rolled : PySem.W.codeIn K cd_is_rolled "is_rolled" = true)
    (k_is_rolled : PySem.W.keepIn K (.ref f_is_rolled) = true)
    (a_Laying_init : PySem.W.findIn K (.ref C_Laying) "__init__" = some (some (.ref f_Laying_init)))
    (i_Laying_init : PySem.W.isFn K (.ref f_Laying_init) = true)
    (l_Laying_init : K.lookup f_Laying_init = some ⟨oc_Laying_init, od_Laying_init, .func (PySem.W.fnOf "__init__" "Laying.__init__" (defArgs s_Laying_init) (defBody s_Laying_init) (defScope s_Laying_init) .none kV_Laying_init dc_Laying_init pm_Laying_init an_Laying_init cd_Laying_init ct_Laying_init), sl_Laying_init⟩)
    (c_Laying_init : PySem.W.codeIn K cd_Laying_init "Laying.__init__" = true)
    (k_Laying_init : PySem.W.keepIn K (.ref f_Laying_init) = true)
    (a_Laying_fits : PySem.W.findIn K (.ref C_Laying) "fits" = some (some (.ref f_Laying_fits)))
    (i_Laying_fits : PySem.W.isFn K (.ref f_Laying_fits) = true)
    (l_Laying_fits : K.lookup f_Laying_fits = some ⟨oc_Laying_fits, od_Laying_fits, .func (PySem.W.fnOf "fits" "Laying.fits" (defArgs s_Laying_fits) (defBody s_Laying_fits) (defScope s_Laying_fits) .none kV_Laying_fits dc_Laying_fits pm_Laying_fits an_Laying_fits cd_Laying_fits ct_Laying_fits), sl_Laying_fits⟩)
    (c_Laying_fits : PySem.W.codeIn K cd_Laying_fits "Laying.fits" = true)
    (k_Laying_fits : PySem.W.keepIn K (.ref f_Laying_fits) = true)
    (a_Laying_rows : PySem.W.findIn K (.ref C_Laying) "rows" = some (some (.ref f_Laying_rows)))
    (i_Laying_rows : PySem.W.isFn K (.ref f_Laying_rows) = true)
    (l_Laying_rows : K.lookup f_Laying_rows = some ⟨oc_Laying_rows, od_Laying_rows, .func (PySem.W.fnOf "rows" "Laying.rows" (defArgs s_Laying_rows) (defBody s_Laying_rows) (defScope s_Laying_rows) .none kV_Laying_rows dc_Laying_rows pm_Laying_rows an_Laying_rows cd_Laying_rows ct_Laying_rows), sl_Laying_rows⟩)
    (c_Laying_rows : PySem.W.codeIn K cd_Laying_rows "Laying.rows" = true)
    (k_Laying_rows : PySem.W.keepIn K (.ref f_Laying_rows) = true)
    (a_Laying_goes : PySem.W.findIn K (.ref C_Laying) "goes" = some (some (.ref f_Laying_goes)))
    (i_Laying_goes : PySem.W.isFn K (.ref f_Laying_goes) = true)
    (l_Laying_goes : K.lookup f_Laying_goes = some ⟨oc_Laying_goes, od_Laying_goes, .func (PySem.W.fnOf "goes" "Laying.goes" (defArgs s_Laying_goes) (defBody s_Laying_goes) (defScope s_Laying_goes) .none kV_Laying_goes dc_Laying_goes pm_Laying_goes an_Laying_goes cd_Laying_goes ct_Laying_goes), sl_Laying_goes⟩)
    (c_Laying_goes : PySem.W.codeIn K cd_Laying_goes "Laying.goes" = true)
    (k_Laying_goes : PySem.W.keepIn K (.ref f_Laying_goes) = true)
    (a_laid : PySem.W.nsIn K mainGlobals "laid" = some (some (.ref f_laid)))
    (l_laid : K.lookup f_laid = some ⟨oc_laid, od_laid, .func (PySem.W.fnOf "laid" "laid" (defArgs s_laid) (defBody s_laid) (defScope s_laid) .none kV_laid dc_laid pm_laid an_laid cd_laid ct_laid), sl_laid⟩)
    (c_laid : PySem.W.codeIn K cd_laid "laid" = true)
    (k_laid : PySem.W.keepIn K (.ref f_laid) = true)
    (a_Rolling_fits : PySem.W.findIn K (.ref C_Rolling) "fits" = some (some (.ref f_Rolling_fits)))
    (i_Rolling_fits : PySem.W.isFn K (.ref f_Rolling_fits) = true)
    (l_Rolling_fits : K.lookup f_Rolling_fits = some ⟨oc_Rolling_fits, od_Rolling_fits, .func (PySem.W.fnOf "fits" "Rolling.fits" (defArgs s_Rolling_fits) (defBody s_Rolling_fits) (defScope s_Rolling_fits) .none kV_Rolling_fits dc_Rolling_fits pm_Rolling_fits an_Rolling_fits cd_Rolling_fits ct_Rolling_fits), sl_Rolling_fits⟩)
    (c_Rolling_fits : PySem.W.codeIn K cd_Rolling_fits "Rolling.fits" = true)
    (k_Rolling_fits : PySem.W.keepIn K (.ref f_Rolling_fits) = true)
    (a_Rolling_goes : PySem.W.findIn K (.ref C_Rolling) "goes" = some (some (.ref f_Rolling_goes)))
    (i_Rolling_goes : PySem.W.isFn K (.ref f_Rolling_goes) = true)
    (l_Rolling_goes : K.lookup f_Rolling_goes = some ⟨oc_Rolling_goes, od_Rolling_goes, .func (PySem.W.fnOf "goes" "Rolling.goes" (defArgs s_Rolling_goes) (defBody s_Rolling_goes) (defScope s_Rolling_goes) .none kV_Rolling_goes dc_Rolling_goes pm_Rolling_goes an_Rolling_goes cd_Rolling_goes ct_Rolling_goes), sl_Rolling_goes⟩)
    (c_Rolling_goes : PySem.W.codeIn K cd_Rolling_goes "Rolling.goes" = true)
    (k_Rolling_goes : PySem.W.keepIn K (.ref f_Rolling_goes) = true)
    (a_rolled : PySem.W.nsIn K mainGlobals "rolled" = some (some (.ref f_rolled)))
    (l_rolled : K.lookup f_rolled = some ⟨oc_rolled, od_rolled, .func (PySem.W.fnOf "rolled" "rolled" (defArgs s_rolled) (defBody s_rolled) (defScope s_rolled) .none kV_rolled dc_rolled pm_rolled an_rolled cd_rolled ct_rolled), sl_rolled⟩)
    (c_rolled : PySem.W.codeIn K cd_rolled "rolled" = true)
    (k_rolled : PySem.W.keepIn K (.ref f_rolled) = true)
    (a_plane : PySem.W.nsIn K mainGlobals "plane" = some (some (.ref f_plane)))
    (l_plane : K.lookup f_plane = some ⟨oc_plane, od_plane, .func (PySem.W.fnOf "plane" "plane" (defArgs s_plane) (defBody s_plane) (defScope s_plane) .none kV_plane dc_plane pm_plane an_plane cd_plane ct_plane), sl_plane⟩)
    (c_plane : PySem.W.codeIn K cd_plane "plane" = true)
    (k_plane : PySem.W.keepIn K (.ref f_plane) = true)
    (a_law : PySem.W.nsIn K mainGlobals "law" = some (some (.ref f_law)))
    (l_law : K.lookup f_law = some ⟨oc_law, od_law, .func (PySem.W.fnOf "law" "law" (defArgs s_law) (defBody s_law) (defScope s_law) .none kV_law dc_law pm_law an_law cd_law ct_law), sl_law⟩)
    (c_law : PySem.W.codeIn K cd_law "law" = true)
    (k_law : PySem.W.keepIn K (.ref f_law) = true)
    (h_Rolling_Laying_init : PySem.W.findIn K (.ref C_Rolling) "__init__" = some (some (.ref f_Laying_init)))
    (rd_Laying : PySem.W.readsIn K C_Laying (Value.type "type") = true)
    (ga_Laying : PySem.W.specialIn K (.ref C_Laying) "__getattribute__" = some (some (.builtin "type.__getattribute__")))
    (fc_Laying_fits : PySem.W.findCls K (.ref C_Laying) (Value.type "type") "fits" = some (.val (.ref f_Laying_fits)))
    (h_Rolling_Laying_rows : PySem.W.findIn K (.ref C_Rolling) "rows" = some (some (.ref f_Laying_rows)))
    (z_len : PySem.W.nsIn K mainGlobals "len" = some none)
    (z_int : PySem.W.nsIn K mainGlobals "int" = some none)
    (z_str : PySem.W.nsIn K mainGlobals "str" = some none)
    (z_bool : PySem.W.nsIn K mainGlobals "bool" = some none)
    (z_tuple : PySem.W.nsIn K mainGlobals "tuple" = some none)
    (z_list : PySem.W.nsIn K mainGlobals "list" = some none)
    (z_dict : PySem.W.nsIn K mainGlobals "dict" = some none)
    (z_max : PySem.W.nsIn K mainGlobals "max" = some none)
    (z_min : PySem.W.nsIn K mainGlobals "min" = some none)
    (z_isinstance : PySem.W.nsIn K mainGlobals "isinstance" = some none)
    (z_range : PySem.W.nsIn K mainGlobals "range" = some none)
    (z_sorted : PySem.W.nsIn K mainGlobals "sorted" = some none)
    (z_sum : PySem.W.nsIn K mainGlobals "sum" = some none)
    (z_set : PySem.W.nsIn K mainGlobals "set" = some none)
    (g_MOST_TILES : PySem.W.nsIn K mainGlobals "MOST_TILES" = some (some (.int 200 tk_MOST_TILES)))
    (g_MOST_SIZE : PySem.W.nsIn K mainGlobals "MOST_SIZE" = some (some (.int 12 tk_MOST_SIZE))) :
    ∃ fd : FuncData, (∀ (s : Shared) (v : Value), BindsTo s fd ⟨[v], []⟩ [("_law_script", v)]) ∧ ∀ base : Heap, K.In base → base.Ns mainGlobals mg → FnOk l.prog w K mg base (L2.CX l.prog w) 86 fa fd ["_law_script"] (spLaw K) := by
  have e := hfa.symm.trans (PySem.W.mg_of X G a_law)
  cases e
  have hc : ClsAll K NM [(2, C_Tiles), (8, C_Laying), (10, C_Rolling)] := by
    intro p hp
    simp only [List.mem_cons, List.not_mem_nil, or_false] at hp
    rcases hp with rfl | rfl | rfl
    · refine ⟨⟨pg_Tiles, hd_Tiles, po_Tiles, sa_Tiles⟩, fun f hf => ?_⟩
      have hf : f ∈ [3] := hf
      simp only [List.mem_cons, List.not_mem_nil, or_false] at hf
      rcases hf with rfl
      · exact nsquares_Tiles
    · refine ⟨⟨pg_Laying, hd_Laying, po_Laying, sa_Laying⟩, fun f hf => ?_⟩
      have hf : f ∈ [6, 7, 8, 9, 2, 10] := hf
      simp only [List.mem_cons, List.not_mem_nil, or_false] at hf
      rcases hf with rfl | rfl | rfl | rfl | rfl | rfl
      · exact nkit_Laying
      · exact nhigh_Laying
      · exact nwide_Laying
      · exact nfixed_Laying
      · exact nrow_Laying
      · exact nbad_Laying
    · refine ⟨⟨pg_Rolling, hd_Rolling, po_Rolling, sa_Rolling⟩, fun f hf => ?_⟩
      have hf : f ∈ [6, 7, 8, 9, 2, 10] := hf
      simp only [List.mem_cons, List.not_mem_nil, or_false] at hf
      rcases hf with rfl | rfl | rfl | rfl | rfl | rfl
      · exact nkit_Rolling
      · exact nhigh_Rolling
      · exact nwide_Rolling
      · exact nfixed_Rolling
      · exact nrow_Rolling
      · exact nbad_Rolling
  have A : Amb l.prog w K mg NM [(2, C_Tiles), (8, C_Laying), (10, C_Rolling)] := by
    refine ⟨tab_ok (by decide +kernel) (by decide +kernel) hc, blt_of ?_, gl_of ?_⟩
    · intro x hx
      simp only [NM, List.map_cons, List.map_nil, List.mem_cons, List.not_mem_nil, or_false] at hx
      rcases hx with rfl | rfl | rfl | rfl | rfl | rfl | rfl | rfl | rfl | rfl | rfl | rfl | rfl | rfl
      · exact PySem.W.mg_none_of X G z_len
      · exact PySem.W.mg_none_of X G z_int
      · exact PySem.W.mg_none_of X G z_str
      · exact PySem.W.mg_none_of X G z_bool
      · exact PySem.W.mg_none_of X G z_tuple
      · exact PySem.W.mg_none_of X G z_list
      · exact PySem.W.mg_none_of X G z_dict
      · exact PySem.W.mg_none_of X G z_max
      · exact PySem.W.mg_none_of X G z_min
      · exact PySem.W.mg_none_of X G z_isinstance
      · exact PySem.W.mg_none_of X G z_range
      · exact PySem.W.mg_none_of X G z_sorted
      · exact PySem.W.mg_none_of X G z_sum
      · exact PySem.W.mg_none_of X G z_set
    · intro p hp
      simp only [NM, List.mem_cons, List.not_mem_nil, or_false] at hp
      rcases hp with rfl | rfl | rfl
      · exact con_int (PySem.W.mg_of X G g_MOST_TILES)
      · exact loose_int XPv (by simp)
      · exact con_int (PySem.W.mg_of X G g_MOST_SIZE)
  have hD_law_dice := fun_mk (st := s_law_dice) l_law_dice c_law_dice k_law_dice
  have hB_law_dice := hD_law_dice.binds (ps := p_law_dice) fun _ _ _ _ _ _ us hl => match us, hl with | [_], _ => rfl
  have hD_law_next := fun_mk (st := s_law_next) l_law_next c_law_next k_law_next
  have hB_law_next := hD_law_next.binds (ps := p_law_next) fun _ _ _ _ _ _ us hl => match us, hl with | [_, _], _ => rfl
  have hD_law_marks := fun_mk (st := s_law_marks) l_law_marks c_law_marks k_law_marks
  have hB_law_marks := hD_law_marks.binds (ps := p_law_marks) fun _ _ _ _ _ _ us hl => match us, hl with | [_], _ => rfl
  have hD_law_tiles := fun_mk (st := s_law_tiles) l_law_tiles c_law_tiles k_law_tiles
  have hB_law_tiles := hD_law_tiles.binds (ps := p_law_tiles) fun _ _ _ _ _ _ us hl => match us, hl with | [_, _], _ => rfl
  have hD_law_small := fun_mk (st := s_law_small) l_law_small c_law_small k_law_small
  have hB_law_small := hD_law_small.binds (ps := p_law_small) fun _ _ _ _ _ _ us hl => match us, hl with | [_, _], _ => rfl
  have hD_Tiles_is_beside := fun_mk (st := s_Tiles_is_beside) l_Tiles_is_beside c_Tiles_is_beside k_Tiles_is_beside
  have hB_Tiles_is_beside := hD_Tiles_is_beside.binds (ps := p_Tiles_is_beside) fun _ _ _ _ _ _ us hl => match us, hl with | [_, _, _], _ => rfl
  have hD_Tiles_is_below := fun_mk (st := s_Tiles_is_below) l_Tiles_is_below c_Tiles_is_below k_Tiles_is_below
  have hB_Tiles_is_below := hD_Tiles_is_below.binds (ps := p_Tiles_is_below) fun _ _ _ _ _ _ us hl => match us, hl with | [_, _, _], _ => rfl
  have hD_Tiles_many := fun_mk (st := s_Tiles_many) l_Tiles_many c_Tiles_many k_Tiles_many
  have hB_Tiles_many := hD_Tiles_many.binds (ps := p_Tiles_many) fun _ _ _ _ _ _ us hl => match us, hl with | [_], _ => rfl
  have hD_Tiles_init := fun_mk (st := s_Tiles_init) l_Tiles_init c_Tiles_init k_Tiles_init
  have hB_Tiles_init := hD_Tiles_init.binds (ps := p_Tiles_init) fun _ _ _ _ _ _ us hl => match us, hl with | [_, _], _ => rfl
  have hD_need_size := fun_mk (st := s_need_size) l_need_size c_need_size k_need_size
  have hB_need_size := hD_need_size.binds (ps := p_need_size) fun _ _ _ _ _ _ us hl => match us, hl with | [_, _], _ => rfl
  have hD_is_laid := fun_mk (st := s_is_laid) l_is_laid c_is_laid k_is_laid
  have hB_is_laid := hD_is_laid.binds (ps := p_is_laid) fun _ _ _ _ _ _ us hl => match us, hl with | [_, _], _ => rfl
  have hD_is_rolled := fun_mk (st := s_is_rolled) l_is_rolled c_is_rolled k_is_rolled
  have hB_is_rolled := hD_is_rolled.binds (ps := p_is_rolled) fun _ _ _ _ _ _ us hl => match us, hl with | [_, _], _ => rfl
  have hD_Laying_init := fun_mk (st := s_Laying_init) l_Laying_init c_Laying_init k_Laying_init
  have hB_Laying_init := hD_Laying_init.binds (ps := p_Laying_init) fun _ _ _ _ _ _ us hl => match us, hl with | [_, _, _, _, _], _ => rfl
  have hD_Laying_fits := fun_mk (st := s_Laying_fits) l_Laying_fits c_Laying_fits k_Laying_fits
  have hB_Laying_fits := hD_Laying_fits.binds (ps := p_Laying_fits) fun _ _ _ _ _ _ us hl => match us, hl with | [_, _], _ => rfl
  have hD_Laying_rows := fun_mk (st := s_Laying_rows) l_Laying_rows c_Laying_rows k_Laying_rows
  have hB_Laying_rows := hD_Laying_rows.binds (ps := p_Laying_rows) fun _ _ _ _ _ _ us hl => match us, hl with | [_], _ => rfl
  have hD_Laying_goes := fun_mk (st := s_Laying_goes) l_Laying_goes c_Laying_goes k_Laying_goes
  have hB_Laying_goes := hD_Laying_goes.binds (ps := p_Laying_goes) fun _ _ _ _ _ _ us hl => match us, hl with | [_], _ => rfl
  have hD_laid := fun_mk (st := s_laid) l_laid c_laid k_laid
  have hB_laid := hD_laid.binds (ps := p_laid) fun _ _ _ _ _ _ us hl => match us, hl with | [_, _, _], _ => rfl
  have hD_Rolling_fits := fun_mk (st := s_Rolling_fits) l_Rolling_fits c_Rolling_fits k_Rolling_fits
  have hB_Rolling_fits := hD_Rolling_fits.binds (ps := p_Rolling_fits) fun _ _ _ _ _ _ us hl => match us, hl with | [_, _], _ => rfl
  have hD_Rolling_goes := fun_mk (st := s_Rolling_goes) l_Rolling_goes c_Rolling_goes k_Rolling_goes
  have hB_Rolling_goes := hD_Rolling_goes.binds (ps := p_Rolling_goes) fun _ _ _ _ _ _ us hl => match us, hl with | [_], _ => rfl
  have hD_rolled := fun_mk (st := s_rolled) l_rolled c_rolled k_rolled
  have hB_rolled := hD_rolled.binds (ps := p_rolled) fun _ _ _ _ _ _ us hl => match us, hl with | [_, _, _], _ => rfl
  have hD_plane := fun_mk (st := s_plane) l_plane c_plane k_plane
  have hB_plane := hD_plane.binds (ps := p_plane) fun _ _ _ _ _ _ us hl => match us, hl with | [_, _], _ => rfl
  have hD_law := fun_mk (st := s_law) l_law c_law k_law
  have hB_law := hD_law.binds (ps := p_law) fun _ _ _ _ _ _ us hl => match us, hl with | [_], _ => rfl
  refine ⟨PySem.W.fnOf "law" "law" (defArgs s_law) (defBody s_law) (defScope s_law) .none kV_law dc_law pm_law an_law cd_law ct_law, fun s v => .of_eq rfl, fun base _ _ => ?_⟩
  have S0 : SndA l.prog w K mg base NM [(2, C_Tiles), (8, C_Laying), (10, C_Rolling)] 0 F0 := snd0
  have S1 : SndA l.prog w K mg base NM [(2, C_Tiles), (8, C_Laying), (10, C_Rolling)] 2 F1 := (S0.mono (k := 2) (by decide)).setFn (PySem.W.mg_of X G a_law_dice) k_law_dice hB_law_dice rfl (fn_P hD_law_dice sc_law_dice A S0 cb_law_dice (g := gP F0 1 B_dice 3) (fun ws ro hl e => ⟨1, e⟩))
  have S2 : SndA l.prog w K mg base NM [(2, C_Tiles), (8, C_Laying), (10, C_Rolling)] 4 F2 := (S1.mono (k := 4) (by decide)).setFn (PySem.W.mg_of X G a_law_next) k_law_next hB_law_next rfl (fn_M hD_law_next sc_law_next A S1 cb_law_next (ext := 0) (g := gM F1 1 B_next 4 0) (fun ws s hl hs hne => ⟨1, rfl⟩))
  have S3 : SndA l.prog w K mg base NM [(2, C_Tiles), (8, C_Laying), (10, C_Rolling)] 6 F3 := (S2.mono (k := 6) (by decide)).setFn (PySem.W.mg_of X G a_law_marks) k_law_marks hB_law_marks rfl (fn_M hD_law_marks sc_law_marks A S2 cb_law_marks (ext := 0) (g := gM F2 1 B_marks 4 0) (fun ws s hl hs hne => ⟨1, rfl⟩))
  have S4 : SndA l.prog w K mg base NM [(2, C_Tiles), (8, C_Laying), (10, C_Rolling)] 8 F4 := (S3.mono (k := 8) (by decide)).setFn (PySem.W.mg_of X G a_law_tiles) k_law_tiles hB_law_tiles rfl (fn_M hD_law_tiles sc_law_tiles A S3 cb_law_tiles (ext := 0) (g := gM F3 1 B_tiles 9 0) (fun ws s hl hs hne => ⟨1, rfl⟩))
  have S5 : SndA l.prog w K mg base NM [(2, C_Tiles), (8, C_Laying), (10, C_Rolling)] 10 F5 := (S4.mono (k := 10) (by decide)).setFn (PySem.W.mg_of X G a_law_small) k_law_small hB_law_small rfl (fn_M hD_law_small sc_law_small A S4 cb_law_small (ext := 0) (g := gM F4 1 B_small 4 0) (fun ws s hl hs hne => ⟨1, rfl⟩))
  have S6 : SndA l.prog w K mg base NM [(2, C_Tiles), (8, C_Laying), (10, C_Rolling)] 12 F6 := (S5.mono (k := 12) (by decide)).setMt rfl ⟨pg_Tiles, hd_Tiles, po_Tiles, sa_Tiles⟩ ⟨a_Tiles_is_beside, i_Tiles_is_beside, k_Tiles_is_beside⟩ hB_Tiles_is_beside rfl (fn_P hD_Tiles_is_beside sc_Tiles_is_beside A S5 cb_Tiles_is_beside (g := gP F5 1 B_beside 3) (fun ws ro hl e => ⟨1, e⟩))
  have S7 : SndA l.prog w K mg base NM [(2, C_Tiles), (8, C_Laying), (10, C_Rolling)] 14 F7 := (S6.mono (k := 14) (by decide)).setMt rfl ⟨pg_Tiles, hd_Tiles, po_Tiles, sa_Tiles⟩ ⟨a_Tiles_is_below, i_Tiles_is_below, k_Tiles_is_below⟩ hB_Tiles_is_below rfl (fn_P hD_Tiles_is_below sc_Tiles_is_below A S6 cb_Tiles_is_below (g := gP F6 1 B_below 3) (fun ws ro hl e => ⟨1, e⟩))
  have S8 : SndA l.prog w K mg base NM [(2, C_Tiles), (8, C_Laying), (10, C_Rolling)] 16 F8 := (S7.mono (k := 16) (by decide)).setMt rfl ⟨pg_Tiles, hd_Tiles, po_Tiles, sa_Tiles⟩ ⟨a_Tiles_many, i_Tiles_many, k_Tiles_many⟩ hB_Tiles_many rfl (fn_P hD_Tiles_many sc_Tiles_many A S7 cb_Tiles_many (g := gP F7 1 B_many 1) (fun ws ro hl e => ⟨1, e⟩))
  have S9 : SndA l.prog w K mg base NM [(2, C_Tiles), (8, C_Laying), (10, C_Rolling)] 18 F9 := (S8.mono (k := 18) (by decide)).setClP rfl (PySem.W.mg_of X G aC_Tiles) ⟨mk_Tiles, a_Tiles_init, i_Tiles_init, kc_Tiles⟩ hB_Tiles_init rfl (fn_I hD_Tiles_init sc_Tiles_init rfl A S8 cb_Tiles_init (c := 2) (g := gI 2 F8 1 B_Tinit 4) (fun ws r hl e => ⟨1, e⟩))
  have S10 : SndA l.prog w K mg base NM [(2, C_Tiles), (8, C_Laying), (10, C_Rolling)] 20 F10 := (S9.mono (k := 20) (by decide)).setFn (PySem.W.mg_of X G a_need_size) k_need_size hB_need_size rfl (fn_P hD_need_size sc_need_size A S9 cb_need_size (g := gP F9 1 B_needSize 2) (fun ws ro hl e => ⟨1, e⟩))
  have S11 : SndA l.prog w K mg base NM [(2, C_Tiles), (8, C_Laying), (10, C_Rolling)] 22 F11 := (S10.mono (k := 22) (by decide)).setFn (PySem.W.mg_of X G a_is_laid) k_is_laid hB_is_laid rfl (fn_P hD_is_laid sc_is_laid A S10 cb_is_laid (g := gP F10 1 B_laid 4) (fun ws ro hl e => ⟨1, e⟩))
  have S12 : SndA l.prog w K mg base NM [(2, C_Tiles), (8, C_Laying), (10, C_Rolling)] 24 F12 := (S11.mono (k := 24) (by decide)).setFn (PySem.W.mg_of X G a_is_rolled) k_is_rolled hB_is_rolled rfl (fn_P hD_is_rolled sc_is_rolled A S11 cb_is_rolled (g := gP F11 1 B_isRolled 4) (fun ws ro hl e => ⟨1, e⟩))
  have S13 : SndA l.prog w K mg base NM [(2, C_Tiles), (8, C_Laying), (10, C_Rolling)] 26 F13 := (S12.mono (k := 26) (by decide)).setClM rfl (PySem.W.mg_of X G aC_Laying) ⟨mk_Laying, a_Laying_init, i_Laying_init, kc_Laying⟩ hB_Laying_init rfl (fn_M hD_Laying_init sc_Laying_init A S12 cb_Laying_init (ext := 2) (g := gM F12 1 B_linit 5 2) (fun ws s hl hs hne => ⟨1, rfl⟩))
  have S14 : SndA l.prog w K mg base NM [(2, C_Tiles), (8, C_Laying), (10, C_Rolling)] 28 F14 := (S13.mono (k := 28) (by decide)).setMt rfl ⟨pg_Laying, hd_Laying, po_Laying, sa_Laying⟩ ⟨a_Laying_fits, i_Laying_fits, k_Laying_fits⟩ hB_Laying_fits rfl (fn_M hD_Laying_fits sc_Laying_fits A S13 cb_Laying_fits (ext := 0) (g := gM F13 1 B_lfits 4 0) (fun ws s hl hs hne => ⟨1, rfl⟩))
  have S15 : SndA l.prog w K mg base NM [(2, C_Tiles), (8, C_Laying), (10, C_Rolling)] 30 F15 := (S14.mono (k := 30) (by decide)).setMt rfl ⟨pg_Laying, hd_Laying, po_Laying, sa_Laying⟩ ⟨a_Laying_rows, i_Laying_rows, k_Laying_rows⟩ hB_Laying_rows rfl (fn_M hD_Laying_rows sc_Laying_rows A S14 cb_Laying_rows (ext := 0) (g := gM F14 1 B_lrows 2 0) (fun ws s hl hs hne => ⟨1, rfl⟩))
  have S16 : SndA l.prog w K mg base NM [(2, C_Tiles), (8, C_Laying), (10, C_Rolling)] 50 F16 := snd_rec (k := 30) (Φ := F15) (c := 8) (m := 7) (a := 1) (b := B_lgoes) (N := 4) S15 (fun d S => (S.mono (k := 30 + 2 * d + 2) (by omega)).setMt rfl ⟨pg_Laying, hd_Laying, po_Laying, sa_Laying⟩ ⟨a_Laying_goes, i_Laying_goes, k_Laying_goes⟩ hB_Laying_goes rfl (fn_M hD_Laying_goes sc_Laying_goes A S cb_Laying_goes (ext := 0) (g := gM (recMt F15 8 7 1 B_lgoes 4 d) 1 B_lgoes 4 0) (fun ws s hl hs hne => ⟨1, rfl⟩))) 10
  have S17 : SndA l.prog w K mg base NM [(2, C_Tiles), (8, C_Laying), (10, C_Rolling)] 52 F17 := (S16.mono (k := 52) (by decide)).setFn (PySem.W.mg_of X G a_laid) k_laid hB_laid rfl (fn_P hD_laid sc_laid A S16 cb_laid (g := gP F16 1 (B_laid8 8) 4) (fun ws ro hl e => ⟨1, e⟩))
  have S18 : SndA l.prog w K mg base NM [(2, C_Tiles), (8, C_Laying), (10, C_Rolling)] 54 F18 := (S17.mono (k := 54) (by decide)).setClM rfl (PySem.W.mg_of X G aC_Rolling) ⟨mk_Rolling, h_Rolling_Laying_init, i_Laying_init, kc_Rolling⟩ hB_Laying_init rfl (fn_M hD_Laying_init sc_Laying_init A S17 cb_Laying_init (ext := 2) (g := gM F17 1 B_linit 5 2) (fun ws s hl hs hne => ⟨1, rfl⟩))
  have S19 : SndA l.prog w K mg base NM [(2, C_Tiles), (8, C_Laying), (10, C_Rolling)] 56 F19 := (S18.mono (k := 56) (by decide)).setCm (PySem.W.mg_of X G aC_Laying) ⟨rd_Laying, ga_Laying⟩ fc_Laying_fits k_Laying_fits hB_Laying_fits rfl (fn_M hD_Laying_fits sc_Laying_fits A S18 cb_Laying_fits (ext := 0) (g := gM F18 1 B_lfits 4 0) (fun ws s hl hs hne => ⟨1, rfl⟩))
  have S20 : SndA l.prog w K mg base NM [(2, C_Tiles), (8, C_Laying), (10, C_Rolling)] 58 F20 := (S19.mono (k := 58) (by decide)).setMt rfl ⟨pg_Rolling, hd_Rolling, po_Rolling, sa_Rolling⟩ ⟨h_Rolling_Laying_rows, i_Laying_rows, k_Laying_rows⟩ hB_Laying_rows rfl (fn_M hD_Laying_rows sc_Laying_rows A S19 cb_Laying_rows (ext := 0) (g := gM F19 1 B_lrows 2 0) (fun ws s hl hs hne => ⟨1, rfl⟩))
  have S21 : SndA l.prog w K mg base NM [(2, C_Tiles), (8, C_Laying), (10, C_Rolling)] 60 F21 := (S20.mono (k := 60) (by decide)).setMt rfl ⟨pg_Rolling, hd_Rolling, po_Rolling, sa_Rolling⟩ ⟨a_Rolling_fits, i_Rolling_fits, k_Rolling_fits⟩ hB_Rolling_fits rfl (fn_M hD_Rolling_fits sc_Rolling_fits A S20 cb_Rolling_fits (ext := 0) (g := gM F20 1 B_rfits 4 0) (fun ws s hl hs hne => ⟨1, rfl⟩))
  have S22 : SndA l.prog w K mg base NM [(2, C_Tiles), (8, C_Laying), (10, C_Rolling)] 80 F22 := snd_rec (k := 60) (Φ := F21) (c := 10) (m := 7) (a := 1) (b := B_rgoes) (N := 3) S21 (fun d S => (S.mono (k := 60 + 2 * d + 2) (by omega)).setMt rfl ⟨pg_Rolling, hd_Rolling, po_Rolling, sa_Rolling⟩ ⟨a_Rolling_goes, i_Rolling_goes, k_Rolling_goes⟩ hB_Rolling_goes rfl (fn_M hD_Rolling_goes sc_Rolling_goes A S cb_Rolling_goes (ext := 0) (g := gM (recMt F21 10 7 1 B_rgoes 3 d) 1 B_rgoes 3 0) (fun ws s hl hs hne => ⟨1, rfl⟩))) 10
  have S23 : SndA l.prog w K mg base NM [(2, C_Tiles), (8, C_Laying), (10, C_Rolling)] 82 F23 := (S22.mono (k := 82) (by decide)).setFn (PySem.W.mg_of X G a_rolled) k_rolled hB_rolled rfl (fn_P hD_rolled sc_rolled A S22 cb_rolled (g := gP F22 1 (B_laid8 10) 4) (fun ws ro hl e => ⟨1, e⟩))
  have S24 : SndA l.prog w K mg base NM [(2, C_Tiles), (8, C_Laying), (10, C_Rolling)] 84 F24 := (S23.mono (k := 84) (by decide)).setFn (PySem.W.mg_of X G a_plane) k_plane hB_plane rfl (fn_P hD_plane sc_plane A S23 cb_plane (g := gP F23 1 B_plane 6) (fun ws ro hl e => ⟨1, e⟩))
  exact law_P (fn_P hD_law sc_law A S24 cb_law (g := gLaw) (fun ws ro hl e => ⟨1, e⟩)) law_is
end K10

set_option maxRecDepth 100000
open PySem PySem.W PyProof.Rows L2 in
set_option maxHeartbeats 0 in
theorem PySem.Challenge.cw_tilelaw_k10_plane_by_sizes_holds : PySem.Challenge.rw_tilelaw_k10_plane_by_sizes.Holds := by
  w_on; o_law; k_head; (case hw => w_witness2)
  k_fill
  refine DM.walkX (l := PySem.Challenge.rw_tilelaw_k10_plane_by_sizes) (x := "_law_script") 86 rfl rfl ⟨rfl, by decide, by decide⟩ (fun w h Y => PySem.W.kIn_of Y) ?F
  case F =>
    intro w mg fa h KX XPv G hmg
    refine' K10.all_mk KX XPv G hmg ?aC_Tiles ?pg_Tiles ?hd_Tiles ?po_Tiles ?sa_Tiles ?mk_Tiles ?kc_Tiles ?nsquares_Tiles ?aC_Laying ?pg_Laying ?hd_Laying ?po_Laying ?sa_Laying ?mk_Laying ?kc_Laying ?nkit_Laying ?nhigh_Laying ?nwide_Laying ?nfixed_Laying ?nrow_Laying ?nbad_Laying ?aC_Rolling ?pg_Rolling ?hd_Rolling ?po_Rolling ?sa_Rolling ?mk_Rolling ?kc_Rolling ?nkit_Rolling ?nhigh_Rolling ?nwide_Rolling ?nfixed_Rolling ?nrow_Rolling ?nbad_Rolling ?a_law_dice ?l_law_dice ?c_law_dice ?k_law_dice ?a_law_next ?l_law_next ?c_law_next ?k_law_next ?a_law_marks ?l_law_marks ?c_law_marks ?k_law_marks ?a_law_tiles ?l_law_tiles ?c_law_tiles ?k_law_tiles ?a_law_small ?l_law_small ?c_law_small ?k_law_small ?a_Tiles_is_beside ?i_Tiles_is_beside ?l_Tiles_is_beside ?c_Tiles_is_beside ?k_Tiles_is_beside ?a_Tiles_is_below ?i_Tiles_is_below ?l_Tiles_is_below ?c_Tiles_is_below ?k_Tiles_is_below ?a_Tiles_many ?i_Tiles_many ?l_Tiles_many ?c_Tiles_many ?k_Tiles_many ?a_Tiles_init ?i_Tiles_init ?l_Tiles_init ?c_Tiles_init ?k_Tiles_init ?a_need_size ?l_need_size ?c_need_size ?k_need_size ?a_is_laid ?l_is_laid ?c_is_laid ?k_is_laid ?a_is_rolled ?l_is_rolled ?c_is_rolled ?k_is_rolled ?a_Laying_init ?i_Laying_init ?l_Laying_init ?c_Laying_init ?k_Laying_init ?a_Laying_fits ?i_Laying_fits ?l_Laying_fits ?c_Laying_fits ?k_Laying_fits ?a_Laying_rows ?i_Laying_rows ?l_Laying_rows ?c_Laying_rows ?k_Laying_rows ?a_Laying_goes ?i_Laying_goes ?l_Laying_goes ?c_Laying_goes ?k_Laying_goes ?a_laid ?l_laid ?c_laid ?k_laid ?a_Rolling_fits ?i_Rolling_fits ?l_Rolling_fits ?c_Rolling_fits ?k_Rolling_fits ?a_Rolling_goes ?i_Rolling_goes ?l_Rolling_goes ?c_Rolling_goes ?k_Rolling_goes ?a_rolled ?l_rolled ?c_rolled ?k_rolled ?a_plane ?l_plane ?c_plane ?k_plane ?a_law ?l_law ?c_law ?k_law ?h_Rolling_Laying_init ?rd_Laying ?ga_Laying ?fc_Laying_fits ?h_Rolling_Laying_rows ?z_len ?z_int ?z_str ?z_bool ?z_tuple ?z_list ?z_dict ?z_max ?z_min ?z_isinstance ?z_range ?z_sorted ?z_sum ?z_set ?g_MOST_TILES ?g_MOST_SIZE
    (case aC_Tiles => k_is)
    (case pg_Tiles => k_is)
    (case hd_Tiles => k_is)
    (case po_Tiles => k_is)
    (case sa_Tiles => k_is)
    (case mk_Tiles => k_is)
    (case kc_Tiles => k_is)
    (case nsquares_Tiles => k_is)
    (case aC_Laying => k_is)
    (case pg_Laying => k_is)
    (case hd_Laying => k_is)
    (case po_Laying => k_is)
    (case sa_Laying => k_is)
    (case mk_Laying => k_is)
    (case kc_Laying => k_is)
    (case nkit_Laying => k_is)
    (case nhigh_Laying => k_is)
    (case nwide_Laying => k_is)
    (case nfixed_Laying => k_is)
    (case nrow_Laying => k_is)
    (case nbad_Laying => k_is)
    (case aC_Rolling => k_is)
    (case pg_Rolling => k_is)
    (case hd_Rolling => k_is)
    (case po_Rolling => k_is)
    (case sa_Rolling => k_is)
    (case mk_Rolling => k_is)
    (case kc_Rolling => k_is)
    (case nkit_Rolling => k_is)
    (case nhigh_Rolling => k_is)
    (case nwide_Rolling => k_is)
    (case nfixed_Rolling => k_is)
    (case nrow_Rolling => k_is)
    (case nbad_Rolling => k_is)
    (case a_law_dice => k_is)
    (case l_law_dice => k_is)
    (case c_law_dice => k_is)
    (case k_law_dice => k_is)
    (case a_law_next => k_is)
    (case l_law_next => k_is)
    (case c_law_next => k_is)
    (case k_law_next => k_is)
    (case a_law_marks => k_is)
    (case l_law_marks => k_is)
    (case c_law_marks => k_is)
    (case k_law_marks => k_is)
    (case a_law_tiles => k_is)
    (case l_law_tiles => k_is)
    (case c_law_tiles => k_is)
    (case k_law_tiles => k_is)
    (case a_law_small => k_is)
    (case l_law_small => k_is)
    (case c_law_small => k_is)
    (case k_law_small => k_is)
    (case a_Tiles_is_beside => k_is)
    (case i_Tiles_is_beside => k_is)
    (case l_Tiles_is_beside => k_is)
    (case c_Tiles_is_beside => k_is)
    (case k_Tiles_is_beside => k_is)
    (case a_Tiles_is_below => k_is)
    (case i_Tiles_is_below => k_is)
    (case l_Tiles_is_below => k_is)
    (case c_Tiles_is_below => k_is)
    (case k_Tiles_is_below => k_is)
    (case a_Tiles_many => k_is)
    (case i_Tiles_many => k_is)
    (case l_Tiles_many => k_is)
    (case c_Tiles_many => k_is)
    (case k_Tiles_many => k_is)
    (case a_Tiles_init => k_is)
    (case i_Tiles_init => k_is)
    (case l_Tiles_init => k_is)
    (case c_Tiles_init => k_is)
    (case k_Tiles_init => k_is)
    (case a_need_size => k_is)
    (case l_need_size => k_is)
    (case c_need_size => k_is)
    (case k_need_size => k_is)
    (case a_is_laid => k_is)
    (case l_is_laid => k_is)
    (case c_is_laid => k_is)
    (case k_is_laid => k_is)
    (case a_is_rolled => k_is)
    (case l_is_rolled => k_is)
    (case c_is_rolled => k_is)
    (case k_is_rolled => k_is)
    (case a_Laying_init => k_is)
    (case i_Laying_init => k_is)
    (case l_Laying_init => k_is)
    (case c_Laying_init => k_is)
    (case k_Laying_init => k_is)
    (case a_Laying_fits => k_is)
    (case i_Laying_fits => k_is)
    (case l_Laying_fits => k_is)
    (case c_Laying_fits => k_is)
    (case k_Laying_fits => k_is)
    (case a_Laying_rows => k_is)
    (case i_Laying_rows => k_is)
    (case l_Laying_rows => k_is)
    (case c_Laying_rows => k_is)
    (case k_Laying_rows => k_is)
    (case a_Laying_goes => k_is)
    (case i_Laying_goes => k_is)
    (case l_Laying_goes => k_is)
    (case c_Laying_goes => k_is)
    (case k_Laying_goes => k_is)
    (case a_laid => k_is)
    (case l_laid => k_is)
    (case c_laid => k_is)
    (case k_laid => k_is)
    (case a_Rolling_fits => k_is)
    (case i_Rolling_fits => k_is)
    (case l_Rolling_fits => k_is)
    (case c_Rolling_fits => k_is)
    (case k_Rolling_fits => k_is)
    (case a_Rolling_goes => k_is)
    (case i_Rolling_goes => k_is)
    (case l_Rolling_goes => k_is)
    (case c_Rolling_goes => k_is)
    (case k_Rolling_goes => k_is)
    (case a_rolled => k_is)
    (case l_rolled => k_is)
    (case c_rolled => k_is)
    (case k_rolled => k_is)
    (case a_plane => k_is)
    (case l_plane => k_is)
    (case c_plane => k_is)
    (case k_plane => k_is)
    (case a_law => k_is)
    (case l_law => k_is)
    (case c_law => k_is)
    (case k_law => k_is)
    (case h_Rolling_Laying_init => k_is)
    (case rd_Laying => k_is)
    (case ga_Laying => k_is)
    (case fc_Laying_fits => k_is)
    (case h_Rolling_Laying_rows => k_is)
    (case z_len => k_is)
    (case z_int => k_is)
    (case z_str => k_is)
    (case z_bool => k_is)
    (case z_tuple => k_is)
    (case z_list => k_is)
    (case z_dict => k_is)
    (case z_max => k_is)
    (case z_min => k_is)
    (case z_isinstance => k_is)
    (case z_range => k_is)
    (case z_sorted => k_is)
    (case z_sum => k_is)
    (case z_set => k_is)
    (case g_MOST_TILES => k_is)
    (case g_MOST_SIZE => k_is)

