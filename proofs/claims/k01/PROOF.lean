import PyProof.Rows.All
import Wide.All
import OpenK.AllK
import Wide.FinOn
import HandS.ForMost
import PyProof.TupleKey
import HandS.Iter
import HandS.Conv
import KE.KDictCopyH
import KE.KDictOf
import KE.KDictDisplayH
import HandS.TupMul
import HandS.List
import PyProof.AutoListH
import HandS.TupAny
import HandS.Deep
import HandS.IsInst
import HandS.Wide
import HandS.ForExc
import HandS.Style
import HandS.ExcCtx
import HandS.HotCalls
import HandS.ExcInit
import HandS.ExcField
import HandS.ExcIs
import KE.DatumOrd
import HandS.ClsMeth
import HandS.TryOnly
import HandS.ExcOwn
import PySem.Challenge.RW_tilelaw_k01_sets_refused
set_option Elab.async false
set_option linter.all false
set_option maxRecDepth 100000
/-! ND1: keys that are pairs of a flat key and a tuple of flat keys. -/
namespace DM
open PySem PyProof.Rows
open Sem (wp)
section
variable {prog : Program} {w : World} {K : Type} [DecidableEq K] (knd : KeyKind prog w K)
def IsPairKey (h : Heap) (k : K × List K) (a : Addr) : Prop := ∃ o v c n, h.get? a = some o ∧ o.cls = .type "tuple" ∧ o.data = .seq #[v, .ref c] n ∧ knd.is k.1 v = true ∧ IsTupleKey knd h k.2 c
variable {knd}
theorem IsPairKey.typeIs {s : Shared} {k : K × List K} {a : Addr} (x : IsPairKey knd s.heap k a) : s.TypeIs (.ref a) "tuple" := let ⟨o, _, _, _, ho, hc, _⟩ := x; ⟨o, ho, hc⟩
theorem IsPairKey.inj {h : Heap} {a : Addr} {x y : K × List K} (hx : IsPairKey knd h x a) (hy : IsPairKey knd h y a) : x = y := by
  obtain ⟨o, v, c, n, ho, _, hd, hv, hc⟩ := hx
  obtain ⟨o', v', c', n', ho', _, hd', hv', hc'⟩ := hy
  obtain rfl : o = o' := Option.some.inj (ho.symm.trans ho')
  rw [hd] at hd'
  injection hd' with h1 _
  have e : [v, Value.ref c] = [v', Value.ref c'] := congrArg Array.toList h1
  simp at e
  obtain ⟨rfl, rfl⟩ := e
  exact Prod.ext (knd.inj _ _ _ hv hv') (hc.inj hc')
theorem IsPairKey.keeps {h h' : Heap} {k : K × List K} {a d : Addr} {o : Obj} {es ep} (x : IsPairKey knd h k a) (ho : h.get? d = some o) (hd : o.data = .dict es ep) (hs : Heap.SameBut d h h') : IsPairKey knd h' k a := by
  obtain ⟨o', v, c, n, ho', hc, hd', hv, hk⟩ := x
  have hne : a ≠ d := by
    rintro rfl
    obtain rfl : o' = o := Option.some.inj (ho'.symm.trans ho)
    rw [hd] at hd'; exact nomatch hd'
  exact ⟨o', v, c, n, (hs.2 a hne).trans ho', hc, hd', hv, hk.keeps ho hd hs⟩
def pairKeyHash (knd : KeyKind prog w K) (k : K × List K) : Int := reduceHash (Builtin.Tuple.tupleHashOf [knd.hash k.1, tupleKeyHash knd k.2])
variable {A : Around} {E : Value → Shared → Prop} {s : Shared}
theorem wpAny_pyHash_pair {k : K × List K} {a : Addr} {Q : Int → Shared → Prop} (hu : A.units + 2 < cLine) (hk : IsPairKey knd s.heap k a) (h : Q (pairKeyHash knd k) { s with toks := s.toks + (k.2.length + 3) }) :
    wpAny (model prog w) A (pyHash (.ref a)) Q E s := by
  have hT := hk.typeIs
  obtain ⟨o, v, c, n, ho, _, hd, hv, hc⟩ := hk
  unfold pyHash
  first | unfold pyHashByItsType | skip
  first | refine wpAny_bind (wpAny_cRoomFor_or (.inr (by omega)) ?_) | skip
  refine wpAny_bind (wpAny_specialOf hT F.slot_tuple_hash.lookup ?_)
  show wpAny _ _ (if (some (Value.builtin "tuple.__hash__") == some Value.none) = true then _ else _) Q E s
  rw [if_neg (by rw [beq_builtin_none]; exact Bool.false_ne_true)]
  refine wpAny_bind (wpAny_specialOf hT F.slot_tuple_hash.lookup ?_)
  show wpAny _ _ (callSpecialIfBoundUnlessNone? (.ref a) "__hash__" _ >>= _) Q E s
  refine wpAny_bind (wpAny_callSpecialIfBoundUnlessNone?_slot hT F.slot_tuple_hash (wpAny_call_entry F.slot_tuple_hash hT F.entry_tuple_hash ?_ (F.args_tuple_hash_1 _)))
  show wpAny _ _ (Builtin.Tuple.tupleItemsOf (.ref a) >>= _) _ _ s
  refine wpAny_bind (wpAny_tupleItemsOf ho hd ?_)
  refine wpAny_bind ?_
  rw [← Array.forIn_toList]
  refine wpAny_forIn_list _
    (fun rest (b : Array Int) s' => (rest = [v, .ref c] ∧ b = #[] ∧ s' = s) ∨ (rest = [.ref c] ∧ b.toList = [knd.hash k.1] ∧ s' = { s with toks := s.toks + 1 }) ∨ (rest = [] ∧ b.toList = [knd.hash k.1, tupleKeyHash knd k.2] ∧ s' = { s with toks := s.toks + (k.2.length + 2) }))
    _ ?_ ?_ _ _ (.inl ⟨rfl, rfl, rfl⟩)
  · rintro x rest b s' (⟨e, rfl, rfl⟩ | ⟨e, hb, rfl⟩ | ⟨e, _⟩)
    · injection e with e1 e2
      subst e1 e2
      refine wpAny_bind (knd.pyHash hv ?_)
      first
        | exact wpAny_pure (.inr (.inl ⟨rfl, by simp, rfl⟩))
        | exact wpAny_bind (wpAny_pure (wpAny_pure (.inr (.inl ⟨rfl, by simp, rfl⟩))))
    · injection e with e1 e2
      subst e1 e2
      refine wpAny_bind (wpAny_pyHash_tuple (knd := knd) (ks := k.2) ?_ hc ?_)
      · show A.units + 1 < cLine
        omega
      · first
          | exact wpAny_pure (.inr (.inr ⟨rfl, by simp [hb], by simp; omega⟩))
          | exact wpAny_bind (wpAny_pure (wpAny_pure (.inr (.inr ⟨rfl, by simp [hb], by simp; omega⟩))))
    · cases e
  · rintro b s' (⟨e, _⟩ | ⟨e, _⟩ | ⟨_, hb, rfl⟩)
    · cases e
    · cases e
    · show wpAny _ _ (retInt (Builtin.Tuple.tupleHashOf b.toList)) _ _ _
      rw [hb]
      refine wpAny_ret_mkInt ?_
      show wpAny _ _ (if (decide (-(2 : Int) ^ 63 ≤ Builtin.Tuple.tupleHashOf [knd.hash k.1, tupleKeyHash knd k.2]) && decide (Builtin.Tuple.tupleHashOf [knd.hash k.1, tupleKeyHash knd k.2] < 2 ^ 63)) = true then _ else _) Q E _
      unfold pairKeyHash reduceHash at h
      by_cases hr : (decide (-(2 : Int) ^ 63 ≤ Builtin.Tuple.tupleHashOf [knd.hash k.1, tupleKeyHash knd k.2]) && decide (Builtin.Tuple.tupleHashOf [knd.hash k.1, tupleKeyHash knd k.2] < 2 ^ 63)) = true
      · rw [if_pos hr]
        rw [if_pos hr] at h
        exact wpAny_pure (by simpa [Nat.add_assoc] using h)
      · rw [if_neg hr]
        rw [if_neg hr] at h
        exact wpAny_bind (wpAny_rule (wpAny_pure (by simpa [Nat.add_assoc] using h)))
theorem pair_eq_tree {x y : K × List K} {a b : Addr} {P : Fin → Shared → Prop} (hu : A.units < cLine) (hx : IsPairKey knd s.heap x a) (hy : IsPairKey knd s.heap y b) (h : P (.done (.ret (.bool (decide (x = y))))) s) :
    wpAny (model prog w) A (Builtin.«tuple.__eq__» ⟨[.ref a, .ref b], []⟩) P E s := by
  have hTb := hy.typeIs
  obtain ⟨oa, va, ca, na, hoa, _, hda, hva, hca⟩ := hx
  obtain ⟨ob, vb, cb, nb, hob, _, hdb, hvb, hcb⟩ := hy
  show wpAny _ _ (isInstance (.ref b) (.type "tuple") >>= _) _ _ s
  refine wpAny_bind (wpAny_isInstance hTb isSubtype_tuple_tuple ?_)
  simp only [Bool.not_true, Bool.false_eq_true, if_false]
  refine wpAny_bind (wpAny_tupleItemsOf hoa hda ?_)
  refine wpAny_bind (wpAny_tupleItemsOf hob hdb ?_)
  refine wpAny_bind ?_
  refine wpAny_forIn_list _
    (fun rest r s' => r.1 = none ∧ s' = s ∧ ((rest = [(va, vb), (.ref ca, .ref cb)]) ∨ (rest = [(.ref ca, .ref cb)] ∧ x.1 = y.1) ∨ (rest = [] ∧ x.1 = y.1 ∧ x.2 = y.2)))
    _ ?_ ?_ _ _ ⟨rfl, rfl, .inl rfl⟩
  · rintro ⟨u, v⟩ rest r s' ⟨hr, rfl, (e | ⟨e, h1⟩ | ⟨e, _⟩)⟩
    · injection e with e1 e2
      injection e1 with e1 e3
      subst e1 e2 e3
      refine wpAny_bind (knd.eqBool (a := x.1) (b := y.1) hva hvb ?_)
      by_cases hk : x.1 = y.1
      · rw [decide_eq_true hk]
        simp only [Bool.not_true, Bool.false_eq_true, if_false]
        exact wpAny_pure ⟨rfl, rfl, .inr (.inl ⟨by first | rfl | trivial, hk⟩)⟩
      · rw [decide_eq_false hk]
        simp only [Bool.not_false, if_true]
        have hf : decide (x = y) = false := decide_eq_false fun e => hk (by rw [e])
        rw [hf] at h
        exact wpAny_bind (wpAny_pure (wpAny_pure (wpAny_pure h)))
    · injection e with e1 e2
      injection e1 with e1 e3
      subst e1 e2 e3
      refine wpAny_bind (wpAny_eqBool_tuple (knd := knd) (x := x.2) (y := y.2) (by show A.units < cLine; exact hu) hca hcb ?_)
      by_cases hk : x.2 = y.2
      · rw [decide_eq_true hk]
        simp only [Bool.not_true, Bool.false_eq_true, if_false]
        exact wpAny_pure ⟨rfl, rfl, .inr (.inr ⟨by first | rfl | trivial, h1, hk⟩)⟩
      · rw [decide_eq_false hk]
        simp only [Bool.not_false, if_true]
        have hf : decide (x = y) = false := decide_eq_false fun e => hk (by rw [e])
        rw [hf] at h
        exact wpAny_bind (wpAny_pure (wpAny_pure (wpAny_pure h)))
    · cases e
  · rintro ⟨r1, r2⟩ s' ⟨hr, rfl, (e | ⟨e, h1⟩ | ⟨_, h1, h2⟩)⟩
    · cases e
    · cases e
    · simp only at hr
      subst hr
      refine wpAny_pure ?_
      have hf : decide (x = y) = true := decide_eq_true (Prod.ext h1 h2)
      rw [hf] at h
      exact h
theorem wpAny_eqBool_pair {x y : K × List K} {a b : Addr} {Q : Bool → Shared → Prop} (hu : A.units + 2 < cLine) (hx : IsPairKey knd s.heap x a) (hy : IsPairKey knd s.heap y b) (h : Q (decide (x = y)) s) :
    wpAny (model prog w) A (eqBool (.ref a) (.ref b)) Q E s := by
  unfold eqBool
  try with_reducible refine wpAny_holding ?_
  show wpAny _ _ (if (Value.ref a == Value.ref b) = true then _ else _) Q E s
  by_cases hab : (Value.ref a == Value.ref b) = true
  · rw [if_pos hab]
    have e : a = b := by have := eq_of_beq hab; injection this
    subst e
    obtain rfl := hx.inj hy
    exact wpAny_bind (wpAny_rule (wpAny_pure (by simpa using h)))
  · rw [if_neg hab]
    refine wpAny_bind (wpAny_richCompare_same_room (op := .Eq) hx.typeIs hy.typeIs F.slot_tuple_eq
      (wpAny_call_entry F.slot_tuple_eq hx.typeIs F.entry_tuple_eq (pair_eq_tree ?_ hx hy ⟨_, rfl, (fun e => nomatch e), wpAny_truthy_bool h⟩) (F.args_tuple_eq_2 _ _)) (by omega))
    first | (show A.units + 1 < cLine; omega) | (show A.units + 2 < cLine; omega) | (show A.units < cLine; omega)
theorem quiet_tuple7 {m : Nat} {ks : List K} {a : Addr} {Q : Bool → Shared → Prop} (hk : IsTupleKey knd s.heap ks a) (h : Q true s) : wpAny (model prog w) A (eqIsQuiet (m + 1) (.ref a)) Q E s := by
  have hT := hk.typeIs
  obtain ⟨o, items, n, ho, _, hd, hi⟩ := hk
  unfold eqIsQuiet
  refine wpAny_bind (wpAny_specialOf hT F.slot_tuple_eq.lookup ?_)
  show wpAny _ _ (isInstance (.ref a) (.type "tuple") >>= _) _ _ s
  refine wpAny_bind (wpAny_isInstance hT isSubtype_tuple_tuple ?_)
  simp only [Bool.not_true, Bool.false_eq_true, if_false]
  refine wpAny_bind (wpAny_seqItems ho hd ?_)
  refine wpAny_bind ?_
  show wpAny _ _ (forIn items _ _) _ _ s
  rw [← Array.forIn_toList]
  refine wpAny_forIn_list _ (fun rest r s' => r.1 = none ∧ s' = s ∧ ∀ v ∈ rest, carriedByValue v = true) _ ?_ ?_ _ _ ⟨rfl, rfl, hi.byValue⟩
  · rintro v rest r s' ⟨hr, rfl, hall⟩
    rw [eqIsQuiet_byValue _ (hall v List.mem_cons_self)]
    refine wpAny_bind (wpAny_pure ?_)
    simp only [Bool.not_true, Bool.false_eq_true, if_false]
    exact wpAny_pure ⟨rfl, rfl, fun u hu' => hall u (List.mem_cons_of_mem _ hu')⟩
  · rintro ⟨r1, r2⟩ s' ⟨hr, rfl, _⟩
    simp only at hr
    subst hr
    exact wpAny_pure h
theorem quiet_pair {k : K × List K} {a : Addr} {Q : Bool → Shared → Prop} (hk : IsPairKey knd s.heap k a) (h : Q true s) : wpAny (model prog w) A (eqIsQuiet 8 (.ref a)) Q E s := by
  have hT := hk.typeIs
  obtain ⟨o, v, c, n, ho, _, hd, hv, hc⟩ := hk
  unfold eqIsQuiet
  refine wpAny_bind (wpAny_specialOf hT F.slot_tuple_eq.lookup ?_)
  show wpAny _ _ (isInstance (.ref a) (.type "tuple") >>= _) _ _ s
  refine wpAny_bind (wpAny_isInstance hT isSubtype_tuple_tuple ?_)
  simp only [Bool.not_true, Bool.false_eq_true, if_false]
  refine wpAny_bind (wpAny_seqItems ho hd ?_)
  refine wpAny_bind ?_
  show wpAny _ _ (forIn (#[v, .ref c] : Array Value) _ _) _ _ s
  rw [← Array.forIn_toList]
  refine wpAny_forIn_list _ (fun rest r s' => r.1 = none ∧ s' = s ∧ ((rest = [v, .ref c]) ∨ (rest = [.ref c]) ∨ rest = [])) _ ?_ ?_ _ _ ⟨rfl, rfl, .inl rfl⟩
  · rintro u rest r s' ⟨hr, rfl, (e | e | e)⟩
    · injection e with e1 e2
      subst e1 e2
      rw [eqIsQuiet_byValue _ (knd.byValue _ _ hv)]
      refine wpAny_bind (wpAny_pure ?_)
      simp only [Bool.not_true, Bool.false_eq_true, if_false]
      exact wpAny_pure ⟨rfl, rfl, .inr (.inl (by first | rfl | trivial))⟩
    · injection e with e1 e2
      subst e1 e2
      refine wpAny_bind (quiet_tuple7 (knd := knd) (m := 6) hc ?_)
      simp only [Bool.not_true, Bool.false_eq_true, if_false]
      exact wpAny_pure ⟨rfl, rfl, .inr (.inr (by first | rfl | trivial))⟩
    · cases e
  · rintro ⟨r1, r2⟩ s' ⟨hr, rfl, _⟩
    simp only at hr
    subst hr
    exact wpAny_pure h
end
def pairKind {prog : Program} {w : World} {K : Type} [DecidableEq K] (knd : KeyKind prog w K) : HeapKind prog w (K × List K) where
  is := IsPairKey knd
  hash := pairKeyHash knd
  draws := fun k => k.2.length + 3
  room := fun A => A.units + 2 < cLine
  inj := fun hx hy => hx.inj hy
  keeps := fun x ho hd hs => x.keeps ho hd hs
  pyHash := fun hu hk h => wpAny_pyHash_pair hu hk h
  eqBool := fun hu hx hy h => wpAny_eqBool_pair hu hx hy h
  quiet := fun hk h => quiet_pair hk h
end DM

set_option maxRecDepth 100000
/-! ND2: dicts of any kind of heap keys, as objects known by what is true of them. -/
namespace DM
open PySem PySem.Spec PyProof.Rows L2
section
variable {K' : Type} [DecidableEq K']
abbrev RelN : List (K' × Addr × V) → List (K' × Addr × Value) → Prop := Paired fun p q => p.1 = q.1 ∧ p.2.1 = q.2.1 ∧ RelV p.2.2 q.2.2
def gdP {P : Program} {w : World} (kd : HeapKind P w K') (a : Addr) (xs : List (K' × Addr × V)) (h : Heap) : Prop :=
  xs.length ≤ sizeLine ∧ (a == sysModules) = false ∧ ∃ ys, RelN xs ys ∧ ∃ o es ep, h.get? a = some o ∧ o.ExactDict ∧ o.data = .dict es ep ∧ es.toList = ys.map (entryOfKey kd) ∧ (ys.map (·.1)).Nodup
def gdO {P : Program} {w : World} (kd : HeapKind P w K') (a : Addr) (xs : List (K' × Addr × V)) : HO := .ext (gdP kd a xs)
/-- the dict stands there, whatever else is known of it -/
def GdIs {P : Program} {w : World} (kd : HeapKind P w K') (H : Hp) (a : Addr) (xs : List (K' × Addr × V)) : Prop := ∃ φ, H a = some (.ext φ) ∧ ∀ h, φ h → gdP kd a xs h
theorem GdIs.of {P : Program} {w : World} {kd : HeapKind P w K'} {H : Hp} {a : Addr} {xs : List (K' × Addr × V)} (e : H a = some (gdO kd a xs)) : GdIs kd H a xs := ⟨_, e, fun _ h => h⟩
def valN (xs : List (K' × Addr × V)) (k : K') : Option V := (xs.find? fun x => decide (x.1 = k)).map (·.2.2)
def putX (xs : List (K' × Addr × V)) (k : K') (b : Addr) (v : V) : List (K' × Addr × V) := if (valN xs k).isSome then xs.map (fun x => if x.1 = k then (x.1, x.2.1, v) else x) else xs ++ [(k, b, v)]
theorem RelN.val {xs : List (K' × Addr × V)} {ys : List (K' × Addr × Value)} (r : RelN xs ys) (k : K') : RelO (valN xs k) ((atKey ys k).map (·.2)) := by
  induction r with
  | nil => exact True.intro
  | @cons p q ps qs h t ih =>
    unfold valN atKey at ih ⊢
    by_cases e : q.1 = k
    · have e' : p.1 = k := h.1.trans e
      simp only [List.find?_cons, e, e', decide_true, Option.map_some]
      exact h.2.2
    · have e' : ¬ p.1 = k := fun z => e (h.1.symm.trans z)
      simp only [List.find?_cons, e, e', decide_false]
      exact ih
theorem RelN.put {xs : List (K' × Addr × V)} {ys : List (K' × Addr × Value)} (r : RelN xs ys) (k : K') {b : Addr} {y : V} {u : Value} (ry : RelV y u) : RelN (putX xs k b y) (storedH ys k b u) := by
  unfold putX storedH
  have q := (r.val k).isSome_eq
  rw [Option.isSome_map] at q
  rw [← q]
  by_cases h : (valN xs k).isSome = true
  · rw [if_pos h, if_pos h]
    clear q h
    induction r with
    | nil => exact .nil
    | @cons p q ps qs h t ih =>
      rw [List.map_cons, List.map_cons]
      refine .cons ?_ ih
      unfold putAt
      by_cases e : q.1 = k
      · rw [if_pos e, if_pos (h.1.trans e)]
        exact ⟨h.1, h.2.1, ry⟩
      · rw [if_neg e, if_neg fun z => e (h.1.symm.trans z)]
        exact h
  · rw [if_neg h, if_neg h]
    exact Paired.snoc r ⟨rfl, rfl, ry⟩
theorem RelN.addrs {xs : List (K' × Addr × V)} {ys : List (K' × Addr × Value)} (r : RelN xs ys) : ∀ y ∈ ys, ∃ x ∈ xs, x.1 = y.1 ∧ x.2.1 = y.2.1 := by
  induction r with
  | nil => intro y hy; cases hy
  | @cons p q ps qs h t ih =>
    intro y hy
    rcases List.mem_cons.mp hy with rfl | hy
    · exact ⟨p, List.mem_cons_self, h.1, h.2.1⟩
    · obtain ⟨x, hx, e⟩ := ih y hy
      exact ⟨x, List.mem_cons_of_mem _ hx, e⟩
theorem putX_len (xs : List (K' × Addr × V)) (k : K') (b : Addr) (v : V) : (putX xs k b v).length ≤ xs.length + 1 := by
  unfold putX; split <;> simp
variable {X : Cx} {kd : HeapKind X.prog X.w K'} {pins : List (Addr × Obj)} {σ : L2.St} {H : Hp} {s : Shared} {a b : Addr} {xs : List (K' × Addr × V)} {k : K'} {A : Around} {E : Value → Shared → Prop}
/-- a key, whatever the heap is in full -/
def KeyIn (X : Cx) (kd : HeapKind X.prog X.w K') (H : Hp) (k : K') (b : Addr) : Prop := ∀ (pins : List (Addr × Obj)) (σ : L2.St) (s : Shared), Inv X pins σ H s → kd.is s.heap k b
theorem gd_at (I : Inv X pins σ H s) (e : GdIs kd H a xs) : gdP kd a xs s.heap := by
  obtain ⟨φ, e1, e2⟩ := e
  have x : ObjOk X.prog X.w H s.heap a (.ext φ) := I.hok a _ e1
  exact e2 _ x.1
theorem gd_ok {H' : Hp} {h : Heap} (x : gdP kd a xs h) : ObjOk X.prog X.w H' h a (gdO kd a xs) := by
  obtain ⟨z, hd, ys, r, o, es, ep, h1, h2, h3, h4, h5⟩ := x
  refine ⟨⟨z, hd, ys, r, o, es, ep, h1, h2, h3, h4, h5⟩, ⟨o, h1⟩, fun g1 g2 y q => ?_⟩
  obtain ⟨z, hd, ys, r, o, es, ep, h1, h2, h3, h4, h5⟩ := y
  exact ⟨z, hd, ys, r, o, es, ep, q _ h1, h2, h3, h4, h5⟩
theorem gd_of (I : Inv X pins σ H s) (e : GdIs kd H a xs) (hk : ∀ x ∈ xs, KeyIn X kd H x.1 x.2.1) : xs.length ≤ sizeLine ∧ (a == sysModules) = false ∧ ∃ ys, RelN xs ys ∧ s.heap.DictOfH kd a ys := by
  obtain ⟨z, hd, ys, r, o, es, ep, h1, h2, h3, h4, h5⟩ := gd_at I e
  refine ⟨z, hd, ys, r, o, es, ep, h1, h2, h3, h4, fun y hy => ?_, h5⟩
  obtain ⟨x, hx, e1, e2⟩ := r.addrs y hy
  rw [← e1, ← e2]
  exact hk x hx _ _ _ I
theorem gd_in {Q : Value → Shared → Prop} (hu : kd.room A.in1) (I : Inv X pins σ H s) (e : GdIs kd H a xs) (hk : ∀ x ∈ xs, KeyIn X kd H x.1 x.2.1) (ky : KeyIn X kd H k b) (h : ∀ s', Inv X pins σ H s' → Q (.bool (valN xs k).isSome) s') :
    wpAny (model X.prog X.w) A (compareOp .In (.ref b) (.ref a)) Q E s := by
  obtain ⟨z, hd, ys, r, dd⟩ := gd_of I e hk
  refine wpAny_in_heap hu (ky _ _ _ I) hd dd ?_
  have q := (r.val k).isSome_eq
  rw [Option.isSome_map] at q
  rw [← q]
  exact h _ (I.tok _)
theorem gd_notIn {Q : Value → Shared → Prop} (hu : kd.room A.in1) (I : Inv X pins σ H s) (e : GdIs kd H a xs) (hk : ∀ x ∈ xs, KeyIn X kd H x.1 x.2.1) (ky : KeyIn X kd H k b) (h : ∀ s', Inv X pins σ H s' → Q (.bool (!(valN xs k).isSome)) s') :
    wpAny (model X.prog X.w) A (compareOp .NotIn (.ref b) (.ref a)) Q E s := by
  obtain ⟨z, hd, ys, r, dd⟩ := gd_of I e hk
  refine wpAny_notIn_heap hu (ky _ _ _ I) hd dd ?_
  have q := (r.val k).isSome_eq
  rw [Option.isSome_map] at q
  rw [← q]
  exact h _ (I.tok _)
theorem gd_getItem {v : V} {Q : Value → Shared → Prop} (hu : kd.room A.in1) (I : Inv X pins σ H s) (e : GdIs kd H a xs) (hk : ∀ x ∈ xs, KeyIn X kd H x.1 x.2.1) (ky : KeyIn X kd H k b) (l : valN xs k = some v) (h : ∀ w' s', Inv X pins σ H s' → RelV v w' → Q w' s') :
    wpAny (model X.prog X.w) A (getItem (.ref a) (.ref b)) Q E s := by
  obtain ⟨z, hd, ys, r, dd⟩ := gd_of I e hk
  obtain ⟨w', hw, rw'⟩ := RelO.some_of (v := v) (o := (atKey ys k).map (·.2)) (by rw [← l]; exact r.val k)
  obtain ⟨p, hp, hp2⟩ := Option.map_eq_some_iff.mp hw
  refine wpAny_getItem_heap hu (ky _ _ _ I) dd hp ?_
  rw [hp2]
  exact h w' _ (I.tok _) rw'
theorem gd_setItem {v : V} {u : Value} {Q : Unit → Shared → Prop} (hu : kd.room A.in1) (I : Inv X pins σ H s) (e : GdIs kd H a xs) (hk : ∀ x ∈ xs, KeyIn X kd H x.1 x.2.1) (ky : KeyIn X kd H k b) (hl : xs.length < sizeLine) (rv : RelV v u)
    (h : ∀ s', Inv X pins σ (upd H a (gdO kd a (putX xs k b v))) s' → Q () s') : wpAny (model X.prog X.w) A (setItem (.ref a) (.ref b) u) Q E s := by
  obtain ⟨z, hd, ys, r, dd⟩ := gd_of I e hk
  have hz : ys.length ≤ sizeLine := by rw [← Paired.length r]; exact z
  have hl2 : (putX xs k b v).length ≤ sizeLine := by have := putX_len xs k b v; omega
  refine wpAny_setItem_heap (hsz := hz) hu (ky _ _ _ I) dd fun h' dd' hs => h _ ?_
  obtain ⟨q, es, ep, hq, h2, h3, h4, _, h5⟩ := dd'
  obtain ⟨φ, e1, _⟩ := e
  exact d_write I (by rw [e1]; exact True.intro) hs ⟨q, hq⟩ (gd_ok ⟨hl2, hd, _, r.put k rv, q, es, ep, hq, h2, h3, h4, h5⟩)
theorem gd_new (I : Inv X pins σ H s) : Inv X pins σ (upd H s.heap.objs.size (gdO kd s.heap.objs.size [])) { s with heap := s.heap.push { cls := .type "dict", data := .dict #[] }, toks := s.toks } :=
  I.laid (a := s.heap.objs.size) (t' := s.toks) (fun _ _ q => Heap.get?_push_of_some _ q) (Nat.le_refl _) (gd_ok ⟨Nat.zero_le _, beq_eq_false_iff_ne.mpr (Ne.symm (Nat.ne_of_lt I.big)), [], .nil, _, #[], 0, Heap.get?_push_size _ rfl, ⟨rfl, rfl, rfl⟩, rfl, rfl, List.nodup_nil⟩)
theorem gd_typeIs (I : Inv X pins σ H s) (e : GdIs kd H a xs) : s.TypeIs (.ref a) "dict" := by
  obtain ⟨_, _, _, _, o, _, _, h1, h2, _⟩ := gd_at I e
  exact ⟨o, h1, h2.1⟩
theorem gd_noDict (I : Inv X pins σ H s) (e : GdIs kd H a xs) : ∀ b, Value.ref a = .ref b → ∃ ob, s.heap.get? b = some ob ∧ ob.dict = none := fun b q => by
  cases q
  obtain ⟨_, _, _, _, ob, _, _, h1, h2, _⟩ := gd_at I e
  exact ⟨ob, h1, h2.2.1⟩
/-! ### rules -/
variable {o i value e : Expr} {pos pos' apos cpos : Pos} {td ty tv tx : TE}
/-- at a dict and a key -/
def GdAt (X : Cx) (kd : HeapKind X.prog X.w K') (x y : V) (H : Hp) (R : Addr → List (K' × Addr × V) → K' → Addr → Prop) : Prop := ∃ a b xs k, x = .ref a ∧ y = .ref b ∧ GdIs kd H a xs ∧ (∀ x ∈ xs, KeyIn X kd H x.1 x.2.1) ∧ KeyIn X kd H k b ∧ R a xs k b
theorem pe_gnew : PE X (.Dict [] [] pos) (fun _ H Q => ∀ p, H p = none → Q (.ref p) (upd H p (gdO kd p []))) := ⟨fun pins s σ H Q I h =>
  wpAny_Dict_empty ⟨.ref s.heap.objs.size, _, gd_new (kd := kd) I, rfl, h _ (I.hok.fresh (Nat.le_refl _))⟩⟩
theorem pe_gget (hu : kd.room X.A.in1) (ho : PE X o td) (hi : PE X i ty) (hs : NoSl i) : PE X (.Subscript o i pos) (fun σ H Q => td σ H fun x H1 => ty σ H1 fun y H2 => GdAt X kd x y H2 fun a xs k b => ∃ v, valN xs k = some v ∧ Q v H2) := by
  refine ⟨fun pins s σ H Q I h => ?_⟩
  refine subD_of PySem.F.slot_dict_getitem.lookup hs (thn (ho.run pins s σ H _ I h) fun u s1 ⟨x, H1, I1, rx, q1⟩ => thn (hi.run pins s1 σ H1 _ I1 q1) fun iv s2 ⟨y, H2, I2, ry, a, b, xs, k, ex, ey, g, hk, ky, v, l, q2⟩ => ?_)
  subst ex ey
  obtain rfl : u = Value.ref a := rx
  obtain rfl : iv = Value.ref b := ry
  exact ⟨gd_typeIs I2 g, gd_getItem hu I2 g hk ky l fun w' s3 I3 rw' => ⟨v, H2, I3, rw', q2⟩⟩
theorem pc_gin (hu : kd.room X.A.in1) (hi : PE X i ty) (ho : PE X o td) : PC X .In i o (fun σ H Q => ty σ H fun y H1 => td σ H1 fun x H2 => GdAt X kd x y H2 fun a xs k b => Q (.bl (valN xs k).isSome) H2) := by
  refine ⟨fun pins s σ H Q I h => ?_⟩
  refine thn (hi.run pins s σ H _ I h) fun iv s1 ⟨y, H1, I1, ry, q1⟩ => thn (ho.run pins s1 σ H1 _ I1 q1) fun u s2 ⟨x, H2, I2, rx, a, b, xs, k, ex, ey, g, hk, ky, q2⟩ => ?_
  subst ex ey
  obtain rfl : u = Value.ref a := rx
  obtain rfl : iv = Value.ref b := ry
  exact gd_in hu I2 g hk ky fun s3 I3 => ⟨.bl (valN xs k).isSome, H2, I3, rfl, q2⟩
theorem pc_gnotin (hu : kd.room X.A.in1) (hi : PE X i ty) (ho : PE X o td) : PC X .NotIn i o (fun σ H Q => ty σ H fun y H1 => td σ H1 fun x H2 => GdAt X kd x y H2 fun a xs k b => Q (.bl (!(valN xs k).isSome)) H2) := by
  refine ⟨fun pins s σ H Q I h => ?_⟩
  refine thn (hi.run pins s σ H _ I h) fun iv s1 ⟨y, H1, I1, ry, q1⟩ => thn (ho.run pins s1 σ H1 _ I1 q1) fun u s2 ⟨x, H2, I2, rx, a, b, xs, k, ex, ey, g, hk, ky, q2⟩ => ?_
  subst ex ey
  obtain rfl : u = Value.ref a := rx
  obtain rfl : iv = Value.ref b := ry
  exact gd_notIn hu I2 g hk ky fun s3 I3 => ⟨.bl (!(valN xs k).isSome), H2, I3, rfl, q2⟩
theorem ps_gput (hu : kd.room X.A.in1) (ho : PE X o td) (hi : PE X i ty) (hv : PE X value tv) (hs : swapsWith value (some (.Subscript o i pos')) pos.line X.env = pure false) :
    PS X (.Assign [.Subscript o i pos'] value pos) (fun D σ H => tv σ H fun v H1 => td σ H1 fun x H2 => ty σ H2 fun y H3 => GdAt X kd x y H3 fun a xs k b => xs.length < sizeLine ∧ D.nx σ (upd H3 a (gdO kd a (putX xs k b v)))) := by
  refine ⟨fun pins s σ H D I h => ?_⟩
  refine wpAny_Assign_Subscript (thn (hv.run pins s σ H _ I h) fun r s1 ⟨v, H1, I1, rv, q1⟩ => thn (ho.run pins s1 σ H1 _ I1 q1) fun u s2 ⟨x, H2, I2, rx, q2⟩ => thn (hi.run pins s2 σ H2 _ I2 q2) fun iv s3 ⟨y, H3, I3, ry, a, b, xs, k, ex, ey, g, hk, ky, hl, q3⟩ => ?_) hs
  subst ex ey
  obtain rfl : u = Value.ref a := rx
  obtain rfl : iv = Value.ref b := ry
  exact gd_setItem hu I3 g hk ky hl rv fun s4 I4 => ⟨σ, _, I4, q3⟩
end
/-! ### d.get(k, x) -/
section
variable {K' : Type} [DecidableEq K'] {X : Cx} {kd : HeapKind X.prog X.w K'} {pins : List (Addr × Obj)} {σ : L2.St} {H : Hp} {s : Shared} {a b : Addr} {xs : List (K' × Addr × V)} {k : K'} {A : Around} {E : Value → Shared → Prop}
theorem gd_get2 {d : V} {r : Value} {Q : Value → Shared → Prop} (hu : kd.room A.in1) (I : Inv X pins σ H s) (e : GdIs kd H a xs) (hk : ∀ x ∈ xs, KeyIn X kd H x.1 x.2.1) (ky : KeyIn X kd H k b) (rd : RelV d r) (h : ∀ w' s', Inv X pins σ H s' → RelV ((valN xs k).getD d) w' → Q w' s') :
    wpAny (model X.prog X.w) A (call (.builtin "dict.get") [.ref a, .ref b, r]) Q E s := by
  obtain ⟨z, hd, ys, rel, dd⟩ := gd_of I e hk
  exact call_meetsIn PySem.F.slot_dict_get dd.typeIs PySem.F.entry_dict_get (PySem.F.args_dict_get_3 _ _ _) (meetsH_dict_get_default kd a b hd r) ⟨hu, k, ys, ky _ _ _ I, dd, h _ _ (I.tok _) ((rel.val k).getD rd)⟩
variable {o e f : Expr} {apos cpos : Pos} {td ty tx : TE}
theorem pe_gget2 (hu : kd.room X.A.in1) (ho : PE X o td) (he : PE X e ty) (hf : PE X f tx) (m : M2 X o "get" apos e f cpos) : PE X (.Call (.Attribute o "get" apos) [e, f] [] cpos)
    (fun σ H Q => td σ H fun x H1 => (∃ a xs, x = .ref a ∧ GdIs kd H1 a xs) ∧ ty σ H1 fun y H2 => tx σ H2 fun z H3 => GdAt X kd x y H3 fun a xs k b => Q ((valN xs k).getD z) H3) := by
  refine ⟨fun pins s σ H Q I h => ?_⟩
  refine wpAny_Call_method m.base m.few m.line PySem.F.plainAttrs_dict PySem.F.slot_dict_get PySem.F.type_dict_get (thn (ho.run pins s σ H _ I h) fun u s1 ⟨x, H1, I1, rx, ⟨a, xs, ex, ea⟩, q1⟩ => ?_)
  subst ex
  obtain rfl : u = Value.ref a := rx
  refine ⟨gd_typeIs I1 ea, gd_noDict I1 ea, ?_⟩
  rw [m.trees]
  refine Calls.callWith_builtin rfl (Calls.evalArgs_plain (Calls.spliced_cons (thn (he.run pins s1 σ H1 _ I1 q1) fun iv s2 ⟨y, H2, I2, ry, q2⟩ =>
    Calls.spliced_cons (thn (hf.run pins s2 σ H2 _ I2 q2) fun fv s3 ⟨z, H3, I3, rz, a', b, xs', k, ex', ey, g, hk, ky, q3⟩ => Calls.spliced_nil ?_))))
  cases ex'
  subst ey
  obtain rfl : iv = Value.ref b := ry
  exact gd_get2 hu I3 g hk ky rz fun w' s4 I4 rw' => ⟨_, H3, I4, rw', q3⟩
end
/-! ### keys -/
section
variable {X : Cx} {pins : List (Addr × Obj)} {σ : L2.St} {H : Hp} {s : Shared} {a b c : Addr}
theorem tup_key (I : Inv X pins σ H s) {ks : List Key} (h : SqT X.K H b (ks.map kV)) : (tupleKind (mixKind X.prog X.w)).is s.heap ks b := by
  obtain ⟨its, r, ⟨o, h1, h2, n, h3⟩, _⟩ := I.tuple h
  exact ⟨o, its.toArray, n, h1, h2, h3, by simpa using items_are r⟩
theorem keyIn_tup {ks : List Key} (h : SqT X.K H b (ks.map kV)) : KeyIn X (tupleKind (mixKind X.prog X.w)) H ks b := fun _ _ _ I => tup_key I h
theorem keyIn_pair {k : Key} {ks : List Key} (h : SqT X.K H b [kV k, .ref c]) (h2 : SqT X.K H c (ks.map kV)) : KeyIn X (pairKind (mixKind X.prog X.w)) H (k, ks) b := fun _ _ s I => by
  obtain ⟨its, r, ⟨o, e1, e2, n, e3⟩, _⟩ := I.tuple h
  cases r with
  | cons r1 r =>
    cases r with
    | cons r2 r =>
      cases r
      rename_i v u
      obtain rfl : u = Value.ref c := r2
      exact ⟨o, v, c, n, e1, e2, e3, kV_is r1, tup_key I h2⟩
theorem room_tup (hu : X.A.units + 64 < cLine) : (tupleKind (mixKind X.prog X.w)).room X.A.in1 := tupleKind_room_in1 (by omega)
theorem room_pair (hu : X.A.units + 64 < cLine) : (pairKind (mixKind X.prog X.w)).room X.A.in1 := by
  show X.A.units + 1 + 2 < cLine
  omega
end
end DM

set_option maxRecDepth 100000
/-! ND3: dicts of heap keys: walked by their keys, copied, written out with one pair. -/
namespace DM
open PySem PySem.Spec PyProof.Rows L2
section
variable {K' : Type} [DecidableEq K']
/-- a dict that is just this object -/
def lockO {P : Program} {w : World} (kd : HeapKind P w K') (a : Addr) (xs : List (K' × Addr × V)) (o : Obj) : HO := .ext fun h => gdP kd a xs h ∧ h.get? a = some o
theorem lock_is {P : Program} {w : World} {kd : HeapKind P w K'} {H : Hp} {a : Addr} {xs : List (K' × Addr × V)} {o : Obj} (e : H a = some (lockO kd a xs o)) : GdIs kd H a xs := ⟨_, e, fun _ h => h.1⟩
variable {X : Cx} {kd : HeapKind X.prog X.w K'} {pins : List (Addr × Obj)} {σ : L2.St} {H : Hp} {s : Shared} {a b : Addr} {xs : List (K' × Addr × V)} {k : K'} {A : Around} {E : Value → Shared → Prop}
theorem gd_lock (I : Inv X pins σ H s) (e : GdIs kd H a xs) : ∃ o, Inv X pins σ (upd H a (lockO kd a xs o)) s := by
  have p := gd_at I e
  obtain ⟨φ, e1, _⟩ := e
  obtain ⟨z, hd, ys, r, o, es, ep, h1, h2, h3, h4, h5⟩ := id p
  have new : ObjOk X.prog X.w (upd H a (lockO kd a xs o)) s.heap a (lockO kd a xs o) := by
    refine ⟨⟨p, h1⟩, ⟨o, h1⟩, fun g1 g2 y q => ?_⟩
    obtain ⟨⟨z, hd, ys, r, o', es, ep, h1, h2, h3, h4, h5⟩, g⟩ := y
    exact ⟨⟨z, hd, ys, r, o', es, ep, q _ h1, h2, h3, h4, h5⟩, q _ g⟩
  exact ⟨o, I.write (x := a) (e := a) (t' := s.toks) (h' := s.heap) (by rw [e1]; exact True.intro) (.inl rfl) (fun b v _ q => q) ⟨o, h1⟩ new⟩
theorem RelN.at {xs : List (K' × Addr × V)} {ys : List (K' × Addr × Value)} (r : RelN xs ys) {i : Nat} {x : K' × Addr × V} (h : xs[i]? = some x) : ∃ y, ys[i]? = some y ∧ x.1 = y.1 ∧ x.2.1 = y.2.1 := by
  induction r generalizing i with
  | nil => simp at h
  | @cons p q ps qs h1 t ih =>
    cases i with
    | zero => simp at h; subst h; exact ⟨q, by simp, h1.1, h1.2.1⟩
    | succ i => simp at h; obtain ⟨y, e, f⟩ := ih h; exact ⟨y, by simpa using e, f⟩
def ItG {P : Program} {w : World} (kd : HeapKind P w K') (a : Addr) (xs : List (K' × Addr × V)) (o : Obj) : It :=
  ⟨fun i H => H a = some (lockO kd a xs o) ∧ i < xs.length, fun i H x H' => H' = H ∧ ∃ q, xs[i]? = some q ∧ x = .ref q.2.1, fun i H => H a = some (lockO kd a xs o) ∧ xs.length ≤ i⟩
theorem lock_at {o : Obj} (I : Inv X pins σ H s) (e : H a = some (lockO kd a xs o)) : s.heap.get? a = some o ∧ ∃ ys es ep, RelN xs ys ∧ o.ExactDict ∧ o.data = .dict es ep ∧ es.toList = ys.map (entryOfKey kd) ∧ (a == sysModules) = false := by
  have x : ObjOk X.prog X.w H s.heap a (.ext fun h => gdP kd a xs h ∧ h.get? a = some o) := I.hok a _ e
  obtain ⟨⟨z, hd, ys, r, o', es, ep, h1, h2, h3, h4, h5⟩, g⟩ := x.1
  rw [g] at h1
  cases h1
  exact ⟨g, ys, es, ep, r, h2, h3, h4, hd⟩
theorem turn_gkeys {P : Program} {w : World} {K : PySem.W.Frag} {tg : Expr} {kd : HeapKind P w K'} {o : Obj} {es : Array DictEntry} {ep : Nat} (it : Addr) (hod : o.data = .dict es ep) : Turn P w K tg (ItG kd a xs o) [it] it (fun i h => h.IsKeyIter it a i xs.length ep) where
  mem := by simp
  obj := fun i h st b hb => by
    have e : b = it := by simpa using hb
    subst e
    obtain ⟨oi, e, c, dd⟩ := st
    exact ⟨oi, e, fun v z => by rw [dd] at z; cases z⟩
  keep := fun i h h' st k => st.at fun oi e => k it (by simp) oi e
  item := by
    intro X hP hw hK hc i pins s σ H E I hf st hg
    subst hP hw hK
    obtain ⟨hd, hi⟩ := hg
    obtain ⟨f0, f1, f2, f3, f4, f5⟩ := hf it (by simp)
    obtain ⟨hgd, ys, es', ep', r, hx, hdt, het, hs⟩ := lock_at I hd
    obtain ⟨rfl, rfl⟩ := dict_ep hod hdt
    have hxi : xs[i]? = some xs[i] := List.getElem?_eq_getElem hi
    obtain ⟨y, hy, e1, e2⟩ := r.at hxi
    have hl : es'.size = xs.length := by
      rw [← Array.length_toList, het, List.length_map, Paired.length r]
    have hen : es'[i]? = some (entryOfKey kd y) := by
      rw [← Array.getElem?_toList, het, List.getElem?_map, hy]; rfl
    refine next_key_item st hgd hdt hl hen fun h' st' sb => ?_
    have I1 : Inv X pins σ H { s with heap := h' } := I.turned (t' := s.toks) (fun b ob hb e => (sb.2 b hb).trans e) f0 f1 f3 f4 f5
    obtain ⟨oi, e, c, dd⟩ := id st'
    refine ⟨_, rfl, go_of (s := { s with heap := h' }) e c dd (by decide) ⟨.ref xs[i].2.1, H, I1, ?_, ⟨rfl, _, hxi, rfl⟩, st', fun b hb => (hf b hb).1⟩⟩
    rw [e2]
    rfl
  done := by
    intro X hP hw hK hc i pins s σ H E I hf st hg
    subst hP hw hK
    obtain ⟨hd, hi⟩ := hg
    obtain ⟨f0, f1, f2, f3, f4, f5⟩ := hf it (by simp)
    obtain ⟨hgd, ys, es', ep', r, hx, hdt, het, hs⟩ := lock_at I hd
    obtain ⟨rfl, rfl⟩ := dict_ep hod hdt
    have hl : es'.size = xs.length := by
      rw [← Array.length_toList, het, List.length_map, Paired.length r]
    exact next_key_end (I.ok.hd hc) st hgd hdt hl hi fun h' eb => ⟨rfl, I.turned (t' := s.toks) (fun b ob hb e => eb b ob hb e) f0 f1 f3 f4 f5⟩
  self := fun A i s Q E st h => by
    refine wpAny_pyIter_slot st.typeIs F.slot_dict_keyiterator_iter (wpAny_call_entry F.slot_dict_keyiterator_iter st.typeIs F.entry_dict_keyiterator_iter ?_ (F.args_dict_keyiterator_iter_1 _))
    show wpAny _ _ (ret (.ref it)) _ _ s
    exact wpAny_pure ⟨_, rfl, "dict_keyiterator", _, st.typeIs, F.slot_dict_keyiterator_next.lookup, h⟩
end
/-- a dict of heap keys, of any kind -/
def iGk (X : Cx) (td : TE) : TI := fun σ H R => td σ H fun x H1 => ∃ (κ : Type) (inst : DecidableEq κ) (kd : HeapKind X.prog X.w κ) (a : Addr) (xs : List (κ × Addr × V)), x = .ref a ∧ GdIs kd H1 a xs ∧ ∀ o, R (ItG kd a xs o) (upd H1 a (lockO kd a xs o))
theorem pi_gkeys {X : Cx} {tg e : Expr} {td : TE} (he : PE X e td) : PI X tg e (iGk X td) := by
  refine ⟨fun pins s σ H R I h => ?_⟩
  refine thn (he.run pins s σ H _ I h) fun u s1 ⟨x, H1, I1, rx, κ, inst, kd, a, xs, ex, g, q⟩ => ?_
  subst ex
  obtain rfl : u = Value.ref a := rx
  obtain ⟨o, I2⟩ := gd_lock I1 g
  obtain ⟨hgd, ys, es, ep, r, hx, hdt, het, hs⟩ := lock_at I2 (upd_same (H := H1) (a := a))
  have hl : es.size = xs.length := by
    rw [← Array.length_toList, het, List.length_map, Paired.length r]
  refine iter_keys hs hgd hx hdt (pi_one (tk := s1.toks) I2 _ (turn_gkeys _ hdt) ⟨_, Heap.get?_push_size _ rfl, rfl, ?_⟩ (q o))
  rw [hl] <;> rfl
/-! ### dict(d) -/
section
variable {prog : Program} {w : World} {κ : Type} [DecidableEq κ] {knd : HeapKind prog w κ} {A : Around} {E : Value → Shared → Prop} {s : Shared}
theorem kt_call_dictH {o : Addr} {more : List (κ × Addr × Value)} {Q : Value → Shared → Prop} (hu : ∀ B : Around, B.units ≤ A.units + 8 → knd.room B) (hoS : (o == sysModules) = false) (ho : s.heap.DictOfH knd o more)
    (hst : ∀ h', (∀ b o, s.heap.get? b = some o → h'.get? b = some o) → ∀ x ∈ more, knd.is h' x.1 x.2.1) (hty : ∀ x ∈ more, s.TypeIs (.ref x.2.1) "tuple") (hap : (more.map fun x => knd.hash x.1).Nodup) (hsz : more.length ≤ sizeLine)
    (h : ∀ h', h'.DictOfH knd s.heap.objs.size more → Heap.SameBut s.heap.objs.size (s.heap.push { cls := .type "dict", data := .dict #[] }) h' → Q (.ref s.heap.objs.size) { s with heap := h' }) :
    wpAny (model prog w) A (call (.type "dict") [.ref o]) Q E s := by
  refine callType_codes (Q₁ := fun obj s₁ => obj = .ref s.heap.objs.size ∧ s₁ = { s with heap := s.heap.push { cls := .type "dict", data := .dict #[] } }) F.kt_called_dict (F.kt_typeCall_dict_1 _) F.entry_dict_init (kt_code_dict_new _ ⟨rfl, rfl⟩) ?_
  rintro obj s₁ ⟨rfl, rfl⟩
  have hnew : (s.heap.push { cls := .type "dict", data := .dict #[] }).DictOfH knd s.heap.objs.size [] := Heap.DictOfH.new s.heap
  obtain ⟨oo, es, ep, hg, hc, hdt, het, his, hn⟩ := id ho
  have up : ∀ b u, s.heap.get? b = some u → (s.heap.push { cls := .type "dict", data := .dict #[] }).get? b = some u := fun b u e => Heap.get?_push_of_some _ e
  have ho' : (s.heap.push { cls := .type "dict", data := .dict #[] }).DictOfH knd o more := ⟨oo, es, ep, up _ _ hg, hc, hdt, het, hst _ up, hn⟩
  have hdo : s.heap.objs.size ≠ o := fun e => absurd (Heap.lt_size hg) (by rw [e]; exact Nat.lt_irrefl _)
  refine ⟨hnew.typeIs, F.args_dict_init_2 _ _, ?_⟩
  unfold Builtin.«dict.__init__»
  refine wpAny_bind ?_
  unfold Builtin.Dict.selfAndRest
  refine wpAny_bind (wpAny_notOrdered_dict hnew.typeIs ?_)
  show wpAny _ _ (pure (s.heap.objs.size, [Value.ref o])) _ _ _
  refine wpAny_pure ?_
  show wpAny _ _ (Builtin.Dict.updateFrom "dict.__init__" s.heap.objs.size (.ref o) [] .none) _ _ _
  unfold Builtin.Dict.updateFrom
  refine wpAny_bind (wpAny_typeOf ho'.typeIs ?_)
  rw [if_neg (by decide)]
  refine wpAny_bind ?_
  unfold Builtin.Dict.merge
  refine wpAny_bind ?_
  unfold Builtin.Dict.readDirectly
  refine wpAny_bind (wpAny_isInstance ho'.typeIs isSubtype_dict_dict ?_)
  simp only [Bool.not_true, Bool.false_eq_true, if_false]
  refine wpAny_bind (wpAny_specialOf ho'.typeIs F.slot_dict_iter.lookup (wpAny_pure ?_))
  simp only [beq_self_eq_true, if_true]
  refine wpAny_bind (wpAny_pure ?_)
  refine wpAny_mergeDict_heap (hsz := by simpa using hsz) (hu _ ?_) hdo hoS hnew ho' (.inr ⟨fun x hx => ?_, hap⟩) fun h' hd' _ hs' => ?_
  · first
    | (show A.units + 1 ≤ A.units + 8; omega)
    | (show A.units + 2 ≤ A.units + 8; omega)
    | (show A.units + 3 ≤ A.units + 8; omega)
    | (show A.units + 4 ≤ A.units + 8; omega)
  · obtain ⟨ob, e1, e2⟩ := hty x hx
    exact ⟨ob, up _ _ e1, e2⟩
  show wpAny _ _ (Builtin.Dict.addKeywords s.heap.objs.size [] >>= _) _ _ _
  rw [storedAllH_nil_of_nodup more hn] at hd'
  exact wpAny_bind (wpAny_pure (wpAny_pure ⟨rfl, h h' hd' hs'⟩))
end
section
variable {κ : Type} [DecidableEq κ] {X : Cx} {kd : HeapKind X.prog X.w κ} {pins : List (Addr × Obj)} {σ : L2.St} {H : Hp} {s : Shared} {a : Addr} {xs : List (κ × Addr × V)}
theorem RelN.keys {xs : List (κ × Addr × V)} {ys : List (κ × Addr × Value)} (r : RelN xs ys) : ys.map (·.1) = xs.map (·.1) := by
  induction r with
  | nil => rfl
  | @cons p q ps qs h t ih => rw [List.map_cons, List.map_cons, ih, h.1]
/-- a key is a tuple -/
def TupIn (X : Cx) (H : Hp) (b : Addr) : Prop := ∀ (pins : List (Addr × Obj)) (σ : L2.St) (s : Shared), Inv X pins σ H s → s.TypeIs (.ref b) "tuple"
theorem gd_copy {A : Around} {E : Value → Shared → Prop} {Q : Value → Shared → Prop} (hu : ∀ B : Around, B.units ≤ A.units + 8 → kd.room B) (I : Inv X pins σ H s) (e : GdIs kd H a xs) (hk : ∀ x ∈ xs, KeyIn X kd H x.1 x.2.1 ∧ TupIn X H x.2.1) (hn : (xs.map fun x => kd.hash x.1).Nodup)
    (h : ∀ p s', H p = none → Inv X pins σ (upd H p (gdO kd p xs)) s' → Q (.ref p) s') : wpAny (model X.prog X.w) A (call (.type "dict") [.ref a]) Q E s := by
  obtain ⟨z, hd, ys, r, dd⟩ := gd_of I e fun x hx => (hk x hx).1
  have hk2 : ∀ y ∈ ys, ∃ x ∈ xs, x.1 = y.1 ∧ x.2.1 = y.2.1 := r.addrs
  refine kt_call_dictH hu hd dd (fun h' up y hy => ?_) (fun y hy => ?_) ?_ (by rw [← Paired.length r]; exact z) fun h' dd' hs => ?_
  · obtain ⟨x, hx, e1, e2⟩ := hk2 y hy
    rw [← e1, ← e2]
    exact (hk x hx).1 _ _ { s with heap := h' } (I.kept (t' := s.toks) up)
  · obtain ⟨x, hx, e1, e2⟩ := hk2 y hy
    rw [← e2]
    exact (hk x hx).2 _ _ _ I
  · have : (ys.map fun x => kd.hash x.1) = xs.map fun x => kd.hash x.1 := by
      have := congrArg (List.map kd.hash) r.keys
      simpa [List.map_map, Function.comp_def] using this
    rw [this]; exact hn
  · refine h _ _ (I.hok.fresh (Nat.le_refl _)) (I.laid (a := s.heap.objs.size) (o := gdO kd s.heap.objs.size xs) (t' := s.toks) (fun b q hq => ?_) (Nat.le_refl _) ?_)
    · exact (hs.2 b (Nat.ne_of_lt (Heap.lt_size hq))).trans (Heap.get?_push_of_some _ hq)
    · obtain ⟨o, es, ep, h1, h2, h3, h4, _, h5⟩ := dd'
      exact gd_ok ⟨z, beq_eq_false_iff_ne.mpr (Ne.symm (Nat.ne_of_lt I.big)), ys, r, o, es, ep, h1, h2, h3, h4, h5⟩
end
/-! ### {k: v} -/
section
variable {κ : Type} [DecidableEq κ] {X : Cx} {kd : HeapKind X.prog X.w κ} {ke ve : Expr} {tk tv : TE} {pos : Pos}
theorem pe_gdisp1 (hu : kd.room X.A) (hk : PE X ke tk) (hv : PE X ve tv) : PE X (.Dict [some ke] [ve] pos) (fun σ H Q => ∀ p, H p = none → tk σ (upd H p (gdO kd p [])) fun y H2 => tv σ H2 fun v H3 => H3 p = some (gdO kd p []) ∧ ∃ b k, y = .ref b ∧ KeyIn X kd H3 k b ∧ Q (.ref p) (upd H3 p (gdO kd p [(k, b, v)]))) := by
  refine ⟨fun pins s σ H Q I q => ?_⟩
  have hn := I.hok.fresh (Nat.le_refl s.heap.objs.size)
  have I1 : Inv X pins σ (upd H s.heap.objs.size (gdO kd s.heap.objs.size [])) { s with heap := s.heap.push { cls := .type "dict", data := .dict #[] }, toks := s.toks } := gd_new I
  have q1 := q _ hn
  rw [arm_eval_Dict]
  have hshape : (evalEachOpt [some ke] X.env).zip ((evalEach [ve] X.env).map fun v => do let x ← v; standAt pos; pure x) = [(eval ke X.env, (do let x ← eval ve X.env; standAt pos; pure x : Sem Value))].map fun p => (some p.1, p.2) := rfl
  rw [hshape, dictDisplay_pairs _ (by simp) (by simp)]
  refine wpAny_bind (wpAny_standAt (wpAny_bind (wpAny_subDictH (knd := kd) hu (by simp) ?_)))
  refine evalPairs_cons (thn (hk.run pins _ σ _ _ I1 q1) fun kv s2 ⟨y, H2, I2, ry, q2⟩ => wpAny_bind (thn (hv.run pins s2 σ H2 _ I2 q2) fun vv s3 ⟨v, H3, I3, rv, e3, b, k, ey, ky, q3⟩ => wpAny_bind (wpAny_standAt (wpAny_pure (evalPairs_nil ?_)))))
  subst ey
  obtain rfl : kv = Value.ref b := ry
  obtain ⟨z, hd, ys, r, dd⟩ := gd_of I3 (GdIs.of e3) (fun x hx => by cases hx)
  cases r
  refine ⟨[(k, b, vv)], ⟨rfl, rfl, ky _ _ _ I3, trivial⟩, dd, fun h' tk dd' hs => wpAny_pure ⟨.ref s.heap.objs.size, _, ?_, rfl, q3⟩⟩
  obtain ⟨o, es, ep, hq, h2, h3, h4, _, h5⟩ := dd'
  exact d_write I3 (by rw [e3]; exact True.intro) hs ⟨o, hq⟩ (gd_ok ⟨by show 1 ≤ sizeLine; decide, hd, _, .cons ⟨rfl, rfl, rv⟩ .nil, o, es, ep, hq, h2, h3, h4, h5⟩)
end
end DM

set_option maxRecDepth 100000
/-! ND4: a list said again, whatever is known of it. -/
namespace DM
open PySem PySem.Spec PyProof.Rows L2
theorem int_rmul_listW (a : Int) (t : Tok) (l : Addr) (items : Array Value) (n : Nat) (dd : Option Addr) (sl : Array (Option Value)) :
    Meets (Builtin.«int.__rmul__» ⟨[.int a t, .ref l], []⟩) (fun _ R s => s.heap.get? l = some { cls := .type "list", dict := dd, data := .seq items n, slots := sl } ∧ R (.ok (.ret Value.notImplemented)) s) :=
  .of_wp fun prog w A R s h => by obtain ⟨hp, g, d, tk, os⟩ := s; obtain ⟨hl, h⟩ := h; wp_walk using wpAny_loadPart' hl; exact ⟨_, rfl, h⟩
theorem list_mulW (l : Addr) (items : Array Value) (n : Nat) (dd : Option Addr) (sl : Array (Option Value)) (x : Int) (u : Tok) (hc0 : ¬(!Builtin.List.listFitsIndex x) = true) (hc1 : ¬items.size * x.toNat > (2 ^ 63 - 1) / 8) (hc2 : ¬Builtin.List.listTooLong (items.size * x.toNat) = true) :
    Meets (Builtin.«list.__mul__» ⟨[.ref l, .int x u], []⟩) (fun _ R s => s.heap.get? l = some { cls := .type "list", dict := dd, data := .seq items n, slots := sl } ∧ R (.ok (.ret (Value.ref s.heap.objs.size))) { s with heap := s.heap.push { cls := Value.type "list", data := Data.seq (List.foldl (fun x1 x2 => x1 ++ x2) #[] (List.replicate (if items.isEmpty = true then 0 else x.toNat) items)) }, toks := s.toks }) :=
  .of_wp fun prog w A R s h => by
    obtain ⟨hp, g, d, tk, os⟩ := s; obtain ⟨hl, h⟩ := h
    have hsz := AutoListH.joined_fits hc2
    wp_walk using wpAny_loadPart' hl; refine wpAny_ite_false (decide_eq_false (Nat.not_lt.mpr hsz)) ?_; wp_walk using wpAny_loadPart' hl; exact ⟨_, rfl, h⟩
def rRepS (K : PySem.W.Frag) : R2 := fun x y H Q => ∃ l k xs, x = .ref l ∧ y = .int k ∧ SqL K H l xs ∧ -(2 ^ 63) ≤ k ∧ k < 2 ^ 63 ∧ xs.length * k.toNat ≤ sizeLine ∧
  ∀ p, H p = none → Q (.ref p) (upd H p (.lst (List.replicate k.toNat xs).flatten))
section
variable {X : Cx}
theorem op_repS : OpR X (binaryOp .Mult) (rRepS X.K) := by
  intro pins s σ H x y v u Q I rx ry h
  obtain ⟨l, k, xs, rfl, rfl, hH, h1, h2, hz, q⟩ := h
  cases rx
  obtain ⟨t, rfl⟩ := ry
  obtain ⟨its, r, pl, z⟩ := I.list hH
  have hl := r.length
  obtain ⟨⟨cls, dd, data, sl⟩, e, hc, n, hd⟩ := pl.isList
  simp only at hc hd
  subst hc hd
  have hlen : its.toArray.size * k.toNat ≤ sizeLine := by rw [List.size_toArray, ← hl]; exact hz
  have hcap : ¬ its.toArray.size * k.toNat > (2 ^ 63 - 1) / 8 := by
    have : (sizeLine : Nat) ≤ (2 ^ 63 - 1) / 8 := by decide
    omega
  have hfit : ¬ (!Builtin.List.listFitsIndex k) = true := by
    rw [fitsIndex_both h1 h2]
    exact Bool.false_ne_true
  have hlong : ¬ Builtin.List.listTooLong (its.toArray.size * k.toNat) = true := by
    rw [notLongL hlen]
    exact Bool.false_ne_true
  have hnew : List.foldl (fun x1 x2 => x1 ++ x2) #[] (List.replicate (if its.toArray.isEmpty = true then 0 else k.toNat) its.toArray) = (List.replicate k.toNat its).flatten.toArray := by
    have f0 : ∀ m : Nat, List.foldl (fun x1 x2 => x1 ++ x2) #[] (List.replicate m its.toArray) = (List.replicate m its).flatten.toArray := fun m => by
      have := foldl_rep its m []
      rw [List.nil_append] at this
      exact this
    rw [f0]
    cases its with
    | nil => simp
    | cons a r' => rw [if_neg (by simp)]
  refine wpAny_binaryOp_repeat_ref (T := "list") (U := "int") (by decide) ⟨_, e, rfl⟩ (fun s' => typeIs_int s' k t) noFill_list_mul F.fills_int_mul F.slot_int_rmul repeat_list F.slot_int_index.lookup
    (call_meets F.slot_int_rmul (typeIs_int s k t) F.entry_int_rmul (F.args_int_rmul_2 _ _) (int_rmul_listW k t l its.toArray n dd sl)
      ⟨e, rfl, ⟨_, e, rfl⟩, call_meets F.slot_list_mul ⟨_, e, rfl⟩ F.entry_list_mul (F.args_list_mul_2 _ _) (list_mulW l its.toArray n dd sl k t hfit hcap hlong) ⟨e, ?_⟩⟩)
  rw [hnew]
  exact ⟨.ref _, _, I.lnew (t' := s.toks) (r.rep k.toNat) (by rw [PyProof.Rows.lm_len_rep_flat, Nat.mul_comm]; exact hz), rfl, q _ I.fresh⟩
end
end DM

/-! DM1: the D-machine: a small functional language for the Python that the program and the laws use, and its interpreter over plain data. -/
namespace DM
open PySem

/-- a value of the machine: data; a cell of the store; a frozen instance; a frozen dict -/
inductive W where
  | d (x : PyData)
  | h (i : Nat)
  | o (c : Nat) (fs : List (Nat × PyData))
  | dc (kvs : List (PyData × PyData))
/-- what may be changed -/
inductive Cell where
  | lst (l : List PyData)
  | dct (nd : Bool) (kvs : List (PyData × PyData))
  | lck (nd : Bool) (kvs : List (PyData × PyData))
  | ins (c : Nat) (fs : List (Nat × W))
  | fzl (l : List PyData)
  | gone
/-- an exception of a class of the program: the class, its fields -/
structure Xc where
  c : Nat
  fs : List (Nat × PyData)
/-! dict keys: tuples of ints and texts; pairs of such a thing and such a tuple -/
def flatK : PyData → Option L2.Key
  | .int i => some (.inl i)
  | .str x => some (.inr x)
  | _ => none
def flatKs : List PyData → Option (List L2.Key)
  | [] => some []
  | x :: xs => match flatK x, flatKs xs with
    | some k, some ks => some (k :: ks)
    | _, _ => none
def fkO : PyData → Option (List L2.Key)
  | .tuple l => flatKs l
  | _ => none
def pkO : PyData → Option (L2.Key × List L2.Key)
  | .tuple [i, .tuple l] => match flatK i, flatKs l with
    | some k, some ks => some (k, ks)
    | _, _ => none
  | _ => none
def dFind {κ : Type} [DecidableEq κ] (ko : PyData → Option κ) (kvs : List (PyData × PyData)) (k : κ) : Option PyData := (kvs.find? fun q => decide (ko q.1 = some k)).map (·.2)
def dPutK {κ : Type} [DecidableEq κ] (ko : PyData → Option κ) (kvs : List (PyData × PyData)) (k : κ) (key v : PyData) : List (PyData × PyData) :=
  if (dFind ko kvs k).isSome then kvs.map (fun q => if ko q.1 = some k then (q.1, v) else q) else kvs ++ [(key, v)]
def dGet (nd : Bool) (kvs : List (PyData × PyData)) (key : PyData) : Option (Option PyData) := if nd then (pkO key).map (dFind pkO kvs) else (fkO key).map (dFind fkO kvs)
def dPut (nd : Bool) (kvs : List (PyData × PyData)) (key v : PyData) : Option (List (PyData × PyData)) := if nd then (pkO key).map fun k => dPutK pkO kvs k key v else (fkO key).map fun k => dPutK fkO kvs k key v
abbrev Env := List (Option W)
inductive R (β : Type) where
  | ok (a : β) (s : List Cell)
  | ex (x : Xc) (s : List Cell)
  | no
def R.bind {β γ : Type} (r : R β) (k : β → List Cell → R γ) : R γ := match r with
  | .ok a s => k a s
  | .ex x s => .ex x s
  | .no => .no
@[simp] theorem R.bind_ok {β γ : Type} (a : β) (s : List Cell) (k : β → List Cell → R γ) : (R.ok a s).bind k = k a s := rfl
@[simp] theorem R.bind_ex {β γ : Type} (x : Xc) (s : List Cell) (k : β → List Cell → R γ) : (R.ex x s : R β).bind k = .ex x s := rfl
@[simp] theorem R.bind_no {β γ : Type} (k : β → List Cell → R γ) : (R.no : R β).bind k = .no := rfl
/-- what a def hands back: a value; a new list; what it raises -/
inductive Ro where
  | ret (w : W)
  | fresh (l : List PyData)
  | ex (x : Xc)
/-- a value, or a new list -/
inductive Rv where
  | w (x : W)
  | l (xs : List PyData)
/-- what a def is worth (n: its arguments): without a look at the store; or upon the store -/
inductive Fs where
  | p (n : Nat) (g : List W → Option Ro)
  | m (n : Nat) (f : List W → List Cell → R Rv)
/-- what a class's call is worth (n: its arguments): a frozen instance; or a new cell -/
inductive Ms where
  | p (n : Nat) (g : List W → Option (Except Xc (List (Nat × PyData))))
  | m (n : Nat) (f : List W → List Cell → R Rv)
/-- exceptions: the law's words for a class's instances; what says whether a number is whole; which class takes which fields; which fields are read -/
structure Hx where
  wd : Nat → Nat → Option (List Bool) := fun _ _ => none
  wh : Nat → Bool := fun _ => false
  xi : Nat → Option (List Nat) := fun _ => none
  xf : Nat → Nat → Bool := fun _ _ => false
structure Phi where
  fn : Nat → Option Fs
  mt : Nat → Nat → Option Fs
  cl : Nat → Option Ms
  cm : Nat → Nat → Option Fs
  has : Nat → Nat → Bool
  sub : Nat → Option (Nat → Option Bool)
  xc : Nat → Bool
  hx : Hx := {}

inductive BinK where | add | sub | mul | fdiv | mod | pow
  deriving DecidableEq
inductive CmpK where | eq | ne | lt | le | gt | ge | isN | notN | in_ | notIn
  deriving DecidableEq
/-- built-in functions whose answer is data -/
inductive BiK where | len | int | max2 | min2 | sum | maxl
  deriving DecidableEq
/-- built-in types that are asked for -/
inductive TyK where | str | int | bool | tuple | list | dict
  deriving DecidableEq

inductive Tg where
  | n (i : Nat)
  | t (is : List Nat)
  deriving DecidableEq
mutual
inductive E where
  | var (i : Nat)
  | cst (x : PyData)
  | bin (op : BinK) (a b : E)
  | cmp (op : CmpK) (a b : E)
  | chain (op op' : CmpK) (a b c : E)
  | and (a b : E)
  | or (a b : E)
  | not (a : E)
  | ite (c a b : E)
  | tup (es : Es)
  | idx (a i : E)
  | slc (a : E) (lo hi : Oe)
  | neg (a : E)
  | fld (a : E) (f : Nat)
  | call (f : Nat) (es : Es)
  | meth (o : E) (m : Nat) (es : Es)
  | mk (c : Nat) (es : Es)
  | bi (b : BiK) (es : Es)
  | tupOf (e : E)
  | isi (t : TyK) (e : E)
  | app (o e : E)
  | pop (o : E)
  | clr (o : E)
  | dnew (nd : Bool)
  | din (neg : Bool) (a b : E)
  | dget (a k : E)
  | dgetD (a k z : E)
  | dcopy (e : E)
  | dlit (k v : E)
  | cls (c m : Nat) (es : Es)
  | frz (e : E)
  | thc (f : Nat) (es : Es)
  | thm (o : E) (m : Nat) (es : Es)
  | fr (f : F)
  | th (f : F)
  | no
inductive F where
  | lst (es : Es)
  | comp (it : It) (tg : Tg) (own : List Nat) (c : Oe) (e : E)
  | call (f : Nat) (es : Es)
  | meth (o : E) (m : Nat) (es : Es)
  | list (e : E)
  | lrng (e : E)
  | sll (a : E) (lo hi : Oe)
  | add (a b : E)
  | mul (a : F) (b : E)
  | compD (it : E) (tg : Tg) (own : List Nat) (c : Oe) (e : E)
inductive Es where
  | nil
  | cons (e : E) (es : Es)
inductive Oe where
  | none
  | some (e : E)
inductive It where
  | seq (e : E)
  | rng1 (a : E)
  | rng2 (a b : E)
  | rng3 (a b c : E)
end
/-- what an except suite hands back, e its exception -/
inductive HE where
  | p (x : E)
  | is (g : Nat) (w : E)
  | whole (g f : Nat)
  | isStr (f : Nat)
  | cmpF (k : CmpK) (f : Nat) (x : E)
  | and (a b : HE)
  | or (a b : HE)
  | no
inductive S where
  | asg (t : Tg) (e : E)
  | par (is : List Nat) (es : Es)
  | setF (o : E) (f : Nat) (e : E)
  | setI (o i e : E)
  | setD (o k e : E)
  | ex (e : E)
  | ret (e : E)
  | retN
  | ite (c : E) (a b : List S)
  | while (c : E) (b : List S)
  | for (t : Tg) (it : It) (b : List S)
  | forD (t : Tg) (e : E) (b : List S)
  | raise (c : Nat)
  | try (b : List S) (c : Nat) (e : E)
  | tryAs (b : List S) (c i : Nat) (h : HE)
  | raiseA (c : Nat) (es : Es)
  | pass
  | brk
  | ct
  | no

/-! ### the store -/
def see (s : List Cell) : W → Option PyData
  | .d x => some x
  | .h i => match s[i]? with
    | some (.lst l) => some (.list l)
    | some (.fzl l) => some (.list l)
    | _ => none
  | _ => none
/-- the list of a live cell is frozen -/
def frz (s : List Cell) : W → Option (PyData × List Cell)
  | .d x => some (x, s)
  | .h i => match s[i]? with
    | some (.lst l) => some (.list l, s.set i (.fzl l))
    | some (.fzl l) => some (.list l, s)
    | _ => none
  | _ => none
def frzAll (s : List Cell) : List W → Option (List PyData × List Cell)
  | [] => some ([], s)
  | w :: ws => match frz s w with
    | none => none
    | some (x, s) => match frzAll s ws with
      | none => none
      | some (xs, s) => some (x :: xs, s)
/-- a cell's view as an argument of a def that looks at no store; whether it is a live one -/
def view (s : List Cell) : W → Option (W × Bool)
  | .d x => some (.d x, false)
  | .o c fs => some (.o c fs, false)
  | .dc kvs => some (.dc kvs, false)
  | .h i => match s[i]? with
    | some (.lst l) => some (.d (.list l), true)
    | some (.fzl l) => some (.d (.list l), false)
    | _ => none
def viewAll (s : List Cell) : List W → Option (List W × Bool)
  | [] => some ([], false)
  | w :: ws => match view s w, viewAll s ws with
    | some (x, b), some (xs, c) => some (x :: xs, b || c)
    | _, _ => none
def flat : W → Bool
  | .d .none => true
  | .d (.bool _) => true
  | .d (.int _) => true
  | .d (.str _) => true
  | _ => false
/-- fields -/
def putN {β : Type} (f : Nat) (v : β) : List (Nat × β) → List (Nat × β)
  | [] => [(f, v)]
  | p :: r => if p.1 = f then (f, v) :: r else p :: putN f v r
def getN {β : Type} (f : Nat) : List (Nat × β) → Option β
  | [] => none
  | p :: r => if f = p.1 then some p.2 else getN f r

/-! ### operators over data -/
def ixD (n : Nat) (i : Int) : Option Nat := if 0 ≤ i then (if i < n then some i.toNat else none) else if -(n : Int) ≤ i then some (i + n).toNat else none
def atD (l : List PyData) (i : Int) : Option PyData := (ixD l.length i).bind fun j => l[j]?
def mulOk (i j : Int) : Bool := (decide (-(2 ^ 64) < i) && decide (i < 2 ^ 64)) || (decide (-(2 ^ 64) < j) && decide (j < 2 ^ 64))
def divOk (j : Int) : Bool := decide (0 < j) && decide (j < 9223372036854775808)
def powOk (i j : Int) : Bool := decide (0 ≤ j) && decide (j ≤ 1000000) && decide (i.natAbs < 2 ^ 64)
def binD : BinK → PyData → PyData → Option PyData
  | .add, .int i, .int j => some (.int (i + j))
  | .add, .tuple a, .tuple b => if a.length + b.length ≤ sizeLine then some (.tuple (a ++ b)) else none
  | .add, .list a, .list b => if a.length + b.length ≤ sizeLine then some (.list (a ++ b)) else none
  | .sub, .int i, .int j => some (.int (i - j))
  | .mul, .int i, .int j => if mulOk i j then some (.int (i * j)) else none
  | .mul, .tuple a, .int k => if decide (2 ≤ k) && decide (k ≤ 1000) && decide (a.length ≤ 1000) && !a.isEmpty then some (.tuple (List.replicate k.toNat a).flatten) else none
  | .mul, .list a, .int k => if decide (-(2 ^ 63) ≤ k) && decide (k < 2 ^ 63) && decide (a.length * k.toNat ≤ sizeLine) then some (.list (List.replicate k.toNat a).flatten) else none
  | .fdiv, .int i, .int j => if divOk j then some (.int (i / j)) else none
  | .mod, .int i, .int j => if decide (0 < j) then some (.int (i % j)) else none
  | .pow, .int i, .int j => if powOk i j then some (.int (i ^ j.toNat)) else none
  | _, _, _ => none
def okD (x : PyData) : Bool := SeqAt.shaped x
def isNone : PyData → Bool
  | .none => true
  | _ => false
def intsOf : List PyData → Option (List Int)
  | [] => some []
  | .int i :: r => (intsOf r).map (i :: ·)
  | _ => none
def cmpD : CmpK → PyData → PyData → Option Bool
  | .lt, .int i, .int j => some (decide (i < j))
  | .lt, .tuple a, .tuple b => match intsOf a, intsOf b with
    | some ns, some ms => some (HT.lexLt ns ms)
    | _, _ => none
  | .le, .int i, .int j => some (decide (i ≤ j))
  | .gt, .int i, .int j => some (decide (j < i))
  | .ge, .int i, .int j => some (decide (j ≤ i))
  | .eq, .int i, .int j => some (decide (i = j))
  | .ne, .int i, .int j => some (!decide (i = j))
  | .eq, a, b => if okD a && okD b then some (a.eqv b) else none
  | .ne, a, b => if okD a && okD b then some (!a.eqv b) else none
  | .isN, a, .none => some (isNone a)
  | .notN, a, .none => some (!isNone a)
  | .in_, a, .list l => if okD a && okD (.list l) then some (l.any fun z => z.eqv a) else none
  | .notIn, a, .list l => if okD a && okD (.list l) then some (!l.any fun z => z.eqv a) else none
  | .in_, .int i, .tuple l => (intsOf l).map fun ns => ns.any fun j => decide (j = i)
  | .notIn, .int i, .tuple l => (intsOf l).map fun ns => !ns.any fun j => decide (j = i)
  | _, _, _ => none
def maxI : List Int → Option Int
  | [] => none
  | i :: r => some (r.foldl (fun a y => if a < y then y else a) i)
def biD : BiK → List PyData → Option PyData
  | .len, [.list l] => some (.int l.length)
  | .len, [.tuple l] => some (.int l.length)
  | .int, [.int i] => some (.int i)
  | .int, [.bool b] => some (.int (if b then 1 else 0))
  | .max2, [.int i, .int j] => some (.int (if j > i then j else i))
  | .min2, [.int i, .int j] => some (.int (if j < i then j else i))
  | .sum, [.list l] => (intsOf l).map fun ns => .int ns.sum
  | .maxl, [.list l] => ((intsOf l).bind maxI).map .int
  | .maxl, [.tuple l] => ((intsOf l).bind maxI).map .int
  | _, _ => none
/-- is data of a built-in type -/
def isiD : TyK → PyData → Bool
  | .str, .str _ => true
  | .int, .int _ => true
  | .int, .bool _ => true
  | .bool, .bool _ => true
  | .tuple, .tuple _ => true
  | .list, .list _ => true
  | _, _ => false
def sIx (n d : Nat) : Option Int → Nat
  | none => d
  | some v => if v < 0 then (v + (n : Int)).toNat else min v.toNat n
def cut (l : List PyData) (lo hi : Option Int) : List PyData := (l.drop (sIx l.length 0 lo)).take (sIx l.length l.length hi - sIx l.length 0 lo)
def tt (w : W) (s : List Cell) : R Bool := match w with
  | .d (.bool b) => .ok b s
  | _ => .no
/-- an integer part -/
def ii (w : W) (s : List Cell) : R Int := match w with
  | .d (.int i) => .ok i s
  | _ => .no
def upTo (lo : Int) : Nat → List PyData
  | 0 => []
  | n + 1 => .int lo :: upTo (lo + 1) n
def smallI (j : Int) : Bool := decide (-4611686018427387904 ≤ j) && decide (j < 4611686018427387904)

def dnTo (hi : Int) : Nat → List PyData
  | 0 => []
  | n + 1 => .int hi :: dnTo (hi - 1) n
/-! ### calls -/
def pX (s : List Cell) (live : Bool) : Option Ro → R Rv
  | some (.ret w) => if flat w || !live then .ok (.w w) s else .no
  | some (.fresh l) => if !live then .ok (.l l) s else .no
  | some (.ex x) => .ex x s
  | none => .no
def callX (φ : Fs) (ws : List W) (s : List Cell) : R Rv := match φ with
  | .p n g => if ws.length = n then match viewAll s ws with
    | some (vs, live) => pX s live (g vs)
    | none => .no
    else .no
  | .m n f => if ws.length = n then f ws s else .no
def rvW (r : Rv) (s : List Cell) : R W := match r with
  | .w w => .ok w s
  | .l l => .ok (.d (.list l)) s
def rvL (r : Rv) (s : List Cell) : R (List PyData) := match r with
  | .w _ => .no
  | .l l => .ok l s
def callF (φ : Fs) (ws : List W) (s : List Cell) : R W := (callX φ ws s).bind rvW
/-- .. where a new list comes back -/
def callL (φ : Fs) (ws : List W) (s : List Cell) : R (List PyData) := (callX φ ws s).bind rvL
def rvT (r : Rv) (s : List Cell) : R W := match r with
  | .w w => .ok w s
  | .l l => .ok (.h s.length) (s ++ [.lst l])
/-- .. where a new list, if one comes back, gets a cell -/
def callT (φ : Fs) (ws : List W) (s : List Cell) : R W := (callX φ ws s).bind rvT
/-- the class of a receiver -/
def clsOf (s : List Cell) : W → Option Nat
  | .o c _ => some c
  | .h i => match s[i]? with
    | some (.ins c _) => some c
    | _ => none
  | _ => none
def mkF (φ : Ms) (c : Nat) (ws : List W) (s : List Cell) : R W := match φ with
  | .p n g => if ws.length = n then match viewAll s ws with
    | some (vs, live) => match g vs with
      | some (.ok fs) => if !live then .ok (.o c fs) s else .no
      | some (.error x) => .ex x s
      | none => .no
    | none => .no
    else .no
  | .m n f => if ws.length = n then (f (.h s.length :: ws) (s ++ [.ins c []])).bind fun r s' => match r with
      | .w (.d .none) => .ok (.h s.length) s'
      | _ => .no
    else .no

/-! ### the interpreter -/
def wipeE (ρ : Env) : List Nat → Env
  | [] => ρ
  | v :: vs => (wipeE ρ vs).set v none
def setAll (ρ : Env) : List Nat → List PyData → Option Env
  | [], [] => some ρ
  | i :: is, x :: xs => setAll (ρ.set i (some (.d x))) is xs
  | _, _ => none
def asgT (ρ : Env) : Tg → W → Option Env
  | .n i, w => some (ρ.set i (some w))
  | .t is, .d (.tuple l) => setAll ρ is l
  | _, _ => none
/-- the items of a comprehension, one after another -/
def compL (f : PyData → List Cell → R (Option PyData)) : List PyData → List Cell → R (List PyData)
  | [], s => .ok [] s
  | x :: xs, s => match f x s with
    | .ok y s => (compL f xs s).bind fun ys s => match y with
      | some y => .ok (y :: ys) s
      | none => .ok ys s
    | _ => .no
def fldW (s : List Cell) (f : Nat) : W → Option W
  | .o _ fs => (getN f fs).map .d
  | .h i => match s[i]? with
    | some (.ins _ fs) => getN f fs
    | _ => none
  | _ => none
def lift {β : Type} (x : Option β) (s : List Cell) : R β := match x with
  | some a => .ok a s
  | none => .no
def frzR (w : W) (s : List Cell) : R PyData := match frz s w with
  | some (x, s) => .ok x s
  | none => .no
def frzsR (ws : List W) (s : List Cell) : R (List PyData) := match frzAll s ws with
  | some (x, s) => .ok x s
  | none => .no
def seeAll (s : List Cell) : List W → Option (List PyData)
  | [] => some []
  | w :: ws => match see s w, seeAll s ws with
    | some x, some xs => some (x :: xs)
    | _, _ => none
def seqOf : PyData → Option (List PyData)
  | .list l => some l
  | .tuple l => some l
  | _ => none

/-- is a list -/
def isL (w : W) (s : List Cell) : Bool := match see s w with
  | some (.list _) => true
  | _ => false
def appW (w : W) (x : PyData) (s : List Cell) : R W := match w with
  | .h i => match s[i]? with
    | some (.lst l) => if l.length < sizeLine then .ok (.d .none) (s.set i (.lst (l ++ [x]))) else .no
    | _ => .no
  | _ => .no

def popW (w : W) (s : List Cell) : R W := match w with
  | .h i => match s[i]? with
    | some (.lst l) => match l[l.length - 1]? with
      | some x => .ok (.d x) (s.set i (.lst l.dropLast))
      | none => .no
    | _ => .no
  | _ => .no
def clrW (w : W) (s : List Cell) : R W := match w with
  | .h i => match s[i]? with
    | some (.lst l) => .ok (.d .none) (s.set i (.lst []))
    | _ => .no
  | _ => .no
def dctOf (s : List Cell) : W → Option (Bool × List (PyData × PyData))
  | .h i => match s[i]? with
    | some (.dct nd kvs) => some (nd, kvs)
    | some (.lck nd kvs) => some (nd, kvs)
    | _ => none
  | _ => none
/-- a dict that may be walked -/
def lckAt (w : W) (s : List Cell) : Option (Nat × Bool × List (PyData × PyData)) := match w with
  | .h i => match s[i]? with
    | some (.dct nd kvs) => some (i, nd, kvs)
    | _ => none
  | _ => none
/-- .. is no longer walked -/
def unl {β : Type} (i : Nat) (nd : Bool) (kvs : List (PyData × PyData)) (r : R β) : R β := match r with
  | .ok b s => .ok b (s.set i (.dct nd kvs))
  | .ex x s => .ex x (s.set i (.dct nd kvs))
  | .no => .no
@[simp] theorem unl_ok {β : Type} (i : Nat) (nd : Bool) (kvs : List (PyData × PyData)) (b : β) (s : List Cell) : unl i nd kvs (.ok b s) = .ok b (s.set i (.dct nd kvs)) := rfl
def hashK : PyData → Option Int
  | .tuple l => (intsOf l).map fun ns => reduceHash (Builtin.Tuple.tupleHashOf (ns.map hashInt))
  | _ => none
def hashKs : List PyData → Option (List Int)
  | [] => some []
  | x :: xs => match hashK x, hashKs xs with
    | some h, some hs => some (h :: hs)
    | _, _ => none
/-- no two keys hash alike -/
def copyOk (nd : Bool) (kvs : List (PyData × PyData)) : Bool := if nd then kvs.isEmpty else match hashKs (kvs.map (·.1)) with
  | some hs => decide hs.Nodup
  | none => false
def getDW (w y : W) (s : List Cell) : Option (Option PyData) := match dctOf s w, see s y with
  | some (nd, kvs), some key => dGet nd kvs key
  | _, _ => none
def putDW (w : W) (key x : PyData) (s : List Cell) : R Unit := match w with
  | .h i => match s[i]? with
    | some (.dct nd kvs) => if kvs.length < sizeLine then match dPut nd kvs key x with
      | some kvs' => .ok () (s.set i (.dct nd kvs'))
      | none => .no
      else .no
    | _ => .no
  | _ => .no
def setWs (ρ : Env) : List Nat → List W → Option Env
  | [], [] => some ρ
  | i :: is, w :: ws => setWs (ρ.set i (some w)) is ws
  | _, _ => none

mutual
def runE (Φ : Phi) : E → Env → List Cell → R W
  | .var i, ρ, s => match ρ[i]? with
    | some (some w) => .ok w s
    | _ => .no
  | .cst x, _, s => .ok (.d x) s
  | .bin op a b, ρ, s => (runE Φ a ρ s).bind fun x s => (runE Φ b ρ s).bind fun y s => match see s x, see s y with
    | some x, some y => lift ((binD op x y).map .d) s
    | _, _ => .no
  | .cmp op a b, ρ, s => (runE Φ a ρ s).bind fun x s => (runE Φ b ρ s).bind fun y s => match see s x, see s y with
    | some x, some y => lift ((cmpD op x y).map fun b => .d (.bool b)) s
    | _, _ => .no
  | .chain op op' a b c, ρ, s => (runE Φ a ρ s).bind fun x s => (runE Φ b ρ s).bind fun y s => match see s x, see s y with
    | some x', some y' => match cmpD op x' y' with
      | some true => (runE Φ c ρ s).bind fun z s => match see s y, see s z with
        | some y, some z => lift ((cmpD op' y z).map fun b => .d (.bool b)) s
        | _, _ => .no
      | some false => .ok (.d (.bool false)) s
      | none => .no
    | _, _ => .no
  | .and a b, ρ, s => (runE Φ a ρ s).bind fun x s => (tt x s).bind fun c s => if c then runE Φ b ρ s else .ok (.d (.bool false)) s
  | .or a b, ρ, s => (runE Φ a ρ s).bind fun x s => (tt x s).bind fun c s => if c then .ok (.d (.bool true)) s else runE Φ b ρ s
  | .not a, ρ, s => (runE Φ a ρ s).bind fun x s => (tt x s).bind fun c s => .ok (.d (.bool (!c))) s
  | .ite c a b, ρ, s => (runE Φ c ρ s).bind fun x s => (tt x s).bind fun c s => if c then runE Φ a ρ s else runE Φ b ρ s
  | .tup es, ρ, s => (runEs Φ es ρ s).bind fun ws s => (frzsR ws s).bind fun xs s => if xs.length ≤ sizeLine then .ok (.d (.tuple xs)) s else .no
  | .idx a i, ρ, s => (runE Φ a ρ s).bind fun x s => (runE Φ i ρ s).bind fun y s => (ii y s).bind fun j s => match see s x with
    | some (.list l) => lift ((atD l j).map .d) s
    | some (.tuple l) => lift ((atD l j).map .d) s
    | _ => .no
  | .slc a lo hi, ρ, s => (runE Φ a ρ s).bind fun x s => (runO Φ lo ρ s).bind fun l s => (runO Φ hi ρ s).bind fun h s => match see s x with
    | some (.tuple xs) => .ok (.d (.tuple (cut xs l h))) s
    | some (.list xs) => .ok (.d (.list (cut xs l h))) s
    | _ => .no
  | .neg a, ρ, s => (runE Φ a ρ s).bind fun x s => (ii x s).bind fun i s => .ok (.d (.int (-i))) s
  | .fld a f, ρ, s => (runE Φ a ρ s).bind fun x s => lift (fldW s f x) s
  | .call f es, ρ, s => match Φ.fn f with
    | some φ => (runEs Φ es ρ s).bind fun ws s => callF φ ws s
    | none => .no
  | .meth o m es, ρ, s => (runE Φ o ρ s).bind fun w s => match clsOf s w with
    | some c => match Φ.mt c m with
      | some φ => (runEs Φ es ρ s).bind fun ws s => callF φ (w :: ws) s
      | none => .no
    | none => .no
  | .mk c es, ρ, s => match Φ.cl c with
    | some φ => (runEs Φ es ρ s).bind fun ws s => mkF φ c ws s
    | none => .no
  | .bi b es, ρ, s => (runEs Φ es ρ s).bind fun ws s => match seeAll s ws with
    | some xs => lift ((biD b xs).map .d) s
    | none => .no
  | .tupOf e, ρ, s => (runE Φ e ρ s).bind fun w s => match see s w with
    | some (.list l) => .ok (.d (.tuple l)) s
    | some (.tuple l) => .ok (.d (.tuple l)) s
    | _ => .no
  | .isi t e, ρ, s => (runE Φ e ρ s).bind fun w s => match see s w with
    | some x => .ok (.d (.bool (isiD t x))) s
    | none => .no
  | .app o e, ρ, s => (runE Φ o ρ s).bind fun w s => if isL w s then (runE Φ e ρ s).bind fun v s => (frzR v s).bind fun x s => appW w x s else .no
  | .pop o, ρ, s => (runE Φ o ρ s).bind fun w s => popW w s
  | .clr o, ρ, s => (runE Φ o ρ s).bind fun w s => clrW w s
  | .dnew nd, _, s => .ok (.h s.length) (s ++ [.dct nd []])
  | .din neg a b, ρ, s => (runE Φ a ρ s).bind fun x s => (runE Φ b ρ s).bind fun y s => match getDW y x s with
    | some r => .ok (.d (.bool (if neg then !r.isSome else r.isSome))) s
    | none => .no
  | .dget a k, ρ, s => (runE Φ a ρ s).bind fun x s => (runE Φ k ρ s).bind fun y s => match getDW x y s with
    | some (some r) => .ok (.d r) s
    | _ => .no
  | .dgetD a k z, ρ, s => (runE Φ a ρ s).bind fun x s => if (dctOf s x).isSome then (runE Φ k ρ s).bind fun y s => (runE Φ z ρ s).bind fun v s => match getDW x y s with
    | some (some r) => .ok (.d r) s
    | some none => .ok v s
    | none => .no
    else .no
  | .dcopy e, ρ, s => (runE Φ e ρ s).bind fun w s => match dctOf s w with
    | some (nd, kvs) => if copyOk nd kvs then .ok (.h s.length) (s ++ [.dct nd kvs]) else .no
    | none => .no
  | .dlit k v, ρ, s0 => (runE Φ k ρ s0).bind fun y s => (runE Φ v ρ s).bind fun x s => (frzR y s).bind fun key s => (frzR x s).bind fun xv s => if (fkO key).isSome && decide (s.length = s0.length) then .ok (.h s.length) (s ++ [.dct false [(key, xv)]]) else .no
  | .cls c m es, ρ, s => match Φ.cm c m with
    | some φ => (runEs Φ es ρ s).bind fun ws s => callF φ ws s
    | none => .no
  | .frz e, ρ, s => (runE Φ e ρ s).bind fun w s => (frzR w s).bind fun x s => .ok (.d x) s
  | .thc f es, ρ, s => match Φ.fn f with
    | some φ => (runEs Φ es ρ s).bind fun ws s => callT φ ws s
    | none => .no
  | .thm o m es, ρ, s => (runE Φ o ρ s).bind fun w s => match clsOf s w with
    | some c => match Φ.mt c m with
      | some φ => (runEs Φ es ρ s).bind fun ws s => callT φ (w :: ws) s
      | none => .no
    | none => .no
  | .fr f, ρ, s => (runF Φ f ρ s).bind fun l s => .ok (.d (.list l)) s
  | .th f, ρ, s => (runF Φ f ρ s).bind fun l s => .ok (.h s.length) (s ++ [.lst l])
  | .no, _, _ => .no
def runF (Φ : Phi) : F → Env → List Cell → R (List PyData)
  | .lst es, ρ, s => (runEs Φ es ρ s).bind fun ws s => (frzsR ws s).bind fun xs s => if xs.length ≤ sizeLine then .ok xs s else .no
  | .comp it tg own c e, ρ, s => (runI Φ it ρ s).bind fun items s => if items.length < sizeLine then compL (fun x s => match asgT (wipeE ρ own) tg (.d x) with
    | some ρ' => (runC Φ c ρ' s).bind fun b s => if b then (runE Φ e ρ' s).bind fun w s => (frzR w s).bind fun y s => .ok (some y) s else .ok none s
    | none => .no) items s else .no
  | .call f es, ρ, s => match Φ.fn f with
    | some φ => (runEs Φ es ρ s).bind fun ws s => callL φ ws s
    | none => .no
  | .meth o m es, ρ, s => (runE Φ o ρ s).bind fun w s => match clsOf s w with
    | some c => match Φ.mt c m with
      | some φ => (runEs Φ es ρ s).bind fun ws s => callL φ (w :: ws) s
      | none => .no
    | none => .no
  | .list e, ρ, s => (runE Φ e ρ s).bind fun w s => match see s w with
    | some x => lift (seqOf x) s
    | none => .no
  | .lrng a, ρ, s => (runE Φ a ρ s).bind fun x s => (ii x s).bind fun j s => if decide (j ≤ 16777216) && decide (-4611686018427387904 ≤ j) then .ok (upTo 0 j.toNat) s else .no
  | .sll a lo hi, ρ, s => (runE Φ a ρ s).bind fun x s => (runO Φ lo ρ s).bind fun l s => (runO Φ hi ρ s).bind fun h s => match see s x with
    | some (.list xs) => .ok (cut xs l h) s
    | _ => .no
  | .add a b, ρ, s => (runE Φ a ρ s).bind fun x s => (runE Φ b ρ s).bind fun y s => match see s x, see s y with
    | some (.list xs), some (.list ys) => if xs.length + ys.length ≤ sizeLine then .ok (xs ++ ys) s else .no
    | _, _ => .no
  | .mul a b, ρ, s => (runF Φ a ρ s).bind fun xs s => (runE Φ b ρ s).bind fun y s => (ii y s).bind fun k s =>
    if decide (-(2 ^ 63) ≤ k) && decide (k < 2 ^ 63) && decide (xs.length * k.toNat ≤ sizeLine) then .ok (List.replicate k.toNat xs).flatten s else .no
  | .compD d tg own c e, ρ, s => (runE Φ d ρ s).bind fun w s => match lckAt w s with
    | some (i, nd, kvs) => if kvs.length < sizeLine then unl i nd kvs (compL (fun x s => match asgT (wipeE ρ own) tg (.d x) with
      | some ρ' => (runC Φ c ρ' s).bind fun b s => if b then (runE Φ e ρ' s).bind fun w s => (frzR w s).bind fun y s => .ok (some y) s else .ok none s
      | none => .no) (kvs.map (·.1)) (s.set i (.lck nd kvs))) else .no
    | none => .no
def runEs (Φ : Phi) : Es → Env → List Cell → R (List W)
  | .nil, _, s => .ok [] s
  | .cons e es, ρ, s => (runE Φ e ρ s).bind fun w s => (runEs Φ es ρ s).bind fun ws s => .ok (w :: ws) s
def runO (Φ : Phi) : Oe → Env → List Cell → R (Option Int)
  | .none, _, s => .ok none s
  | .some e, ρ, s => (runE Φ e ρ s).bind fun w s => (ii w s).bind fun i s => .ok (some i) s
/-- a condition, if there is one -/
def runC (Φ : Phi) : Oe → Env → List Cell → R Bool
  | .none, _, s => .ok true s
  | .some e, ρ, s => (runE Φ e ρ s).bind fun w s => tt w s
def runI (Φ : Phi) : It → Env → List Cell → R (List PyData)
  | .seq e, ρ, s => (runE Φ e ρ s).bind fun w s => (frzR w s).bind fun x s => lift (seqOf x) s
  | .rng1 a, ρ, s => (runE Φ a ρ s).bind fun x s => (ii x s).bind fun j s => if smallI j then .ok (upTo 0 j.toNat) s else .no
  | .rng2 a b, ρ, s => (runE Φ a ρ s).bind fun x s => (runE Φ b ρ s).bind fun y s => (ii x s).bind fun i s => (ii y s).bind fun j s => if smallI i && smallI j then .ok (upTo i (j - i).toNat) s else .no
  | .rng3 a b c, ρ, s => (runE Φ a ρ s).bind fun x s => (runE Φ b ρ s).bind fun y s => (runE Φ c ρ s).bind fun z s => (ii x s).bind fun i s => (ii y s).bind fun j s => (ii z s).bind fun k s => if smallI i && smallI j && decide (k = -1) then .ok (dnTo i (i - j).toNat) s else .no
end

/-- how a block ends -/
inductive O where
  | nx | brk | ct
  | ret (w : W)
  | ex (x : Xc)
abbrev RS := R (O × Env)
/-- an expression in a statement: what is raised ends the block -/
def R.st {β : Type} (r : R β) (ρ : Env) (k : β → List Cell → RS) : RS := match r with
  | .ok a s => k a s
  | .ex x s => .ok (.ex x, ρ) s
  | .no => .no
@[simp] theorem R.st_ok {β : Type} (a : β) (s : List Cell) (ρ : Env) (k : β → List Cell → RS) : (R.ok a s).st ρ k = k a s := rfl
@[simp] theorem R.st_ex {β : Type} (x : Xc) (s : List Cell) (ρ : Env) (k : β → List Cell → RS) : (R.ex x s : R β).st ρ k = .ok (.ex x, ρ) s := rfl
@[simp] theorem R.st_no {β : Type} (ρ : Env) (k : β → List Cell → RS) : (R.no : R β).st ρ k = .no := rfl
/-- one block, then another -/
def R.sq (r : RS) (k : Env → List Cell → RS) : RS := match r with
  | .ok (.nx, ρ) s => k ρ s
  | r => r
@[simp] theorem R.sq_nx (ρ : Env) (s : List Cell) (k : Env → List Cell → RS) : R.sq (.ok (.nx, ρ) s) k = k ρ s := rfl
@[simp] theorem R.sq_brk (ρ : Env) (s : List Cell) (k : Env → List Cell → RS) : R.sq (.ok (.brk, ρ) s) k = .ok (.brk, ρ) s := rfl
@[simp] theorem R.sq_ct (ρ : Env) (s : List Cell) (k : Env → List Cell → RS) : R.sq (.ok (.ct, ρ) s) k = .ok (.ct, ρ) s := rfl
@[simp] theorem R.sq_ret (w : W) (ρ : Env) (s : List Cell) (k : Env → List Cell → RS) : R.sq (.ok (.ret w, ρ) s) k = .ok (.ret w, ρ) s := rfl
@[simp] theorem R.sq_xx (x : Xc) (ρ : Env) (s : List Cell) (k : Env → List Cell → RS) : R.sq (.ok (.ex x, ρ) s) k = .ok (.ex x, ρ) s := rfl
@[simp] theorem R.sq_no (k : Env → List Cell → RS) : R.sq .no k = .no := rfl
/-- a loop's body, then the next turn -/
def R.lp (r : RS) (k : Env → List Cell → RS) : RS := match r with
  | .ok (.nx, ρ) s => k ρ s
  | .ok (.ct, ρ) s => k ρ s
  | .ok (.brk, ρ) s => .ok (.nx, ρ) s
  | r => r
@[simp] theorem R.lp_nx (ρ : Env) (s : List Cell) (k : Env → List Cell → RS) : R.lp (.ok (.nx, ρ) s) k = k ρ s := rfl
@[simp] theorem R.lp_brk (ρ : Env) (s : List Cell) (k : Env → List Cell → RS) : R.lp (.ok (.brk, ρ) s) k = .ok (.nx, ρ) s := rfl
@[simp] theorem R.lp_ct (ρ : Env) (s : List Cell) (k : Env → List Cell → RS) : R.lp (.ok (.ct, ρ) s) k = k ρ s := rfl
@[simp] theorem R.lp_ret (w : W) (ρ : Env) (s : List Cell) (k : Env → List Cell → RS) : R.lp (.ok (.ret w, ρ) s) k = .ok (.ret w, ρ) s := rfl
@[simp] theorem R.lp_xx (x : Xc) (ρ : Env) (s : List Cell) (k : Env → List Cell → RS) : R.lp (.ok (.ex x, ρ) s) k = .ok (.ex x, ρ) s := rfl
@[simp] theorem R.lp_no (k : Env → List Cell → RS) : R.lp .no k = .no := rfl
/-- a try's body, then its handler -/
def R.tr (r : RS) (k : Xc → Env → List Cell → RS) : RS := match r with
  | .ok (.ex x, ρ) s => k x ρ s
  | r => r
@[simp] theorem R.tr_nx (ρ : Env) (s : List Cell) (k : Xc → Env → List Cell → RS) : R.tr (.ok (.nx, ρ) s) k = .ok (.nx, ρ) s := rfl
@[simp] theorem R.tr_brk (ρ : Env) (s : List Cell) (k : Xc → Env → List Cell → RS) : R.tr (.ok (.brk, ρ) s) k = .ok (.brk, ρ) s := rfl
@[simp] theorem R.tr_ct (ρ : Env) (s : List Cell) (k : Xc → Env → List Cell → RS) : R.tr (.ok (.ct, ρ) s) k = .ok (.ct, ρ) s := rfl
@[simp] theorem R.tr_ret (w : W) (ρ : Env) (s : List Cell) (k : Xc → Env → List Cell → RS) : R.tr (.ok (.ret w, ρ) s) k = .ok (.ret w, ρ) s := rfl
@[simp] theorem R.tr_xx (x : Xc) (ρ : Env) (s : List Cell) (k : Xc → Env → List Cell → RS) : R.tr (.ok (.ex x, ρ) s) k = k x ρ s := rfl
@[simp] theorem R.tr_no (k : Xc → Env → List Cell → RS) : R.tr .no k = .no := rfl
/-- a handler that hands back -/
def R.only (r : R W) (ρ : Env) : RS := match r with
  | .ok w s => .ok (.ret w, ρ) s
  | _ => .no
@[simp] theorem R.only_ok (w : W) (s : List Cell) (ρ : Env) : R.only (.ok w s) ρ = .ok (.ret w, ρ) s := rfl
def whileL (c : Env → List Cell → R Bool) (b : Env → List Cell → RS) : Nat → Env → List Cell → RS
  | 0, _, _ => .no
  | n + 1, ρ, s => (c ρ s).st ρ fun k s => if k then R.lp (b ρ s) (whileL c b n) else .ok (.nx, ρ) s
def forL (g : Env → PyData → Option Env) (b : Env → List Cell → RS) : List PyData → Env → List Cell → RS
  | [], ρ, s => .ok (.nx, ρ) s
  | x :: xs, ρ, s => match g ρ x with
    | some ρ => R.lp (b ρ s) (forL g b xs)
    | none => .no
def setFW (Φ : Phi) (w : W) (f : Nat) (v : W) (s : List Cell) : R Unit := match w with
    | .h i => match s[i]? with
      | some (.ins c fs) => if fs.length < 1000 && Φ.has c f then .ok () (s.set i (.ins c (putN f v fs))) else .no
      | _ => .no
    | _ => .no
def setIW (w : W) (k : Int) (x : PyData) (s : List Cell) : R Unit := match w with
    | .h i => match s[i]? with
      | some (.lst l) => match ixD l.length k with
        | some j => .ok () (s.set i (.lst (l.set j x)))
        | none => .no
      | _ => .no
    | _ => .no
def wordsS : List Str := ["set", "spot", "none", "many", "text"]
/-- what the law answers of the kinds ks to the word -/
def isAns (ks : List Bool) (tw : Str) : Bool := (PyData.list (ks.map PyData.bool)).eqv (.list (wordsS.map fun x => PyData.bool ((PyData.str tw).eqv (.str x))))
def runH (Φ : Phi) (x : Xc) : HE → Env → List Cell → R W
  | .p e, ρ, s => runE Φ e ρ s
  | .is g w, ρ, s => match Φ.hx.wd g x.c with
    | some ks => (runE Φ w ρ s).bind fun v s => match v with
      | .d (.str tw) => if okD (.str tw) then .ok (.d (.bool (isAns ks tw))) s else .no
      | _ => .no
    | none => .no
  | .whole g f, _, s => if Φ.hx.wh g && Φ.hx.xf x.c f then match getN f x.fs with
    | some y => .ok (.d (.bool (isiD .int y && !isiD .bool y))) s
    | none => .no
    else .no
  | .isStr f, _, s => if Φ.hx.xf x.c f then match getN f x.fs with
    | some y => .ok (.d (.bool (isiD .str y))) s
    | none => .no
    else .no
  | .cmpF k f e, ρ, s => if Φ.hx.xf x.c f then match getN f x.fs with
    | some y => (runE Φ e ρ s).bind fun w s => match see s w with
      | some z => lift ((cmpD k y z).map fun b => .d (.bool b)) s
      | none => .no
    | none => .no
    else .no
  | .and a b, ρ, s => (runH Φ x a ρ s).bind fun w s => (tt w s).bind fun c s => if c then runH Φ x b ρ s else .ok (.d (.bool false)) s
  | .or a b, ρ, s => (runH Φ x a ρ s).bind fun w s => (tt w s).bind fun c s => if c then .ok (.d (.bool true)) s else runH Φ x b ρ s
  | .no, _, _ => .no
def flatAll : List W → Option (List PyData)
  | [] => some []
  | .d x :: r => if flat (.d x) then (flatAll r).map (x :: ·) else none
  | _ :: _ => none
mutual
def runS (Φ : Phi) (n : Nat) : S → Env → List Cell → RS
  | .asg t e, ρ, s => (runE Φ e ρ s).st ρ fun w s => match asgT ρ t w with
    | some ρ => .ok (.nx, ρ) s
    | none => .no
  | .par is es, ρ, s => (runEs Φ es ρ s).st ρ fun ws s => match setWs ρ is ws with
    | some ρ => .ok (.nx, ρ) s
    | none => .no
  | .setF o f e, ρ, s => ((runE Φ e ρ s).bind fun v s => (runE Φ o ρ s).bind fun w s => setFW Φ w f v s).st ρ fun _ s => .ok (.nx, ρ) s
  | .setI o i e, ρ, s => ((runE Φ e ρ s).bind fun v s => (runE Φ o ρ s).bind fun w s => (runE Φ i ρ s).bind fun k s => (ii k s).bind fun k s => (frzR v s).bind fun x s => setIW w k x s).st ρ fun _ s => .ok (.nx, ρ) s
  | .setD o k e, ρ, s => ((runE Φ e ρ s).bind fun v s => (runE Φ o ρ s).bind fun w s => (runE Φ k ρ s).bind fun y s => (frzR v s).bind fun x s => (frzR y s).bind fun key s => putDW w key x s).st ρ fun _ s => .ok (.nx, ρ) s
  | .ex e, ρ, s => (runE Φ e ρ s).st ρ fun _ s => .ok (.nx, ρ) s
  | .ret e, ρ, s => (runE Φ e ρ s).st ρ fun w s => .ok (.ret w, ρ) s
  | .retN, ρ, s => .ok (.ret (.d .none), ρ) s
  | .ite c a b, ρ, s => ((runE Φ c ρ s).bind tt).st ρ fun k s => if k then runB Φ n a ρ s else runB Φ n b ρ s
  | .while c b, ρ, s => whileL (fun ρ s => (runE Φ c ρ s).bind tt) (fun ρ s => runB Φ n b ρ s) n ρ s
  | .for t it b, ρ, s => (runI Φ it ρ s).st ρ fun items s => forL (fun ρ x => asgT ρ t (.d x)) (fun ρ s => runB Φ n b ρ s) items ρ s
  | .forD t e b, ρ, s => (runE Φ e ρ s).st ρ fun w s => match lckAt w s with
    | some (i, nd, kvs) => unl i nd kvs (forL (fun ρ x => asgT ρ t (.d x)) (fun ρ s => runB Φ n b ρ s) (kvs.map (·.1)) ρ (s.set i (.lck nd kvs)))
    | none => .no
  | .raise c, ρ, s => if Φ.xc c then .ok (.ex ⟨c, []⟩, ρ) s else .no
  | .try b c e, ρ, s => match Φ.sub c with
    | some f => R.tr (runB Φ n b ρ s) fun x ρ s => match f x.c with
      | some true => R.only (runE Φ e ρ s) ρ
      | some false => .ok (.ex x, ρ) s
      | none => .no
    | none => .no
  | .tryAs b c i h, ρ, s => match Φ.sub c with
    | some f => R.tr (runB Φ n b ρ s) fun x ρ s => match f x.c with
      | some true => if i < ρ.length then R.only (runH Φ x h (ρ.set i none) s) (ρ.set i none) else .no
      | some false => .ok (.ex x, ρ) s
      | none => .no
    | none => .no
  | .raiseA c es, ρ, s => match Φ.hx.xi c with
    | some fs => (runEs Φ es ρ s).st ρ fun ws s => match flatAll ws with
      | some xs => if xs.length = fs.length ∧ fs.length ≤ 9 then .ok (.ex ⟨c, (fs.zip xs).reverse⟩, ρ) s else .no
      | none => .no
    | none => .no
  | .pass, ρ, s => .ok (.nx, ρ) s
  | .brk, ρ, s => .ok (.brk, ρ) s
  | .ct, ρ, s => .ok (.ct, ρ) s
  | .no, _, _ => .no
def runB (Φ : Phi) (n : Nat) : List S → Env → List Cell → RS
  | [], ρ, s => .ok (.nx, ρ) s
  | c :: cs, ρ, s => R.sq (runS Φ n c ρ s) (runB Φ n cs)
end
/-! ### the end of a def's body -/
def startE (n : Nat) (ws : List W) : Env := ws.map some ++ List.replicate (n - ws.length) none
def finP (w : W) (s : List Cell) : Option Ro := match w with
  | .h i => match s[i]? with
    | some (.lst l) => some (.fresh l)
    | some (.fzl l) => some (.ret (.d (.list l)))
    | _ => none
  | w => some (.ret w)
def endP (r : RS) : Option Ro := match r with
  | .ok (.ret w, _) s => finP w s
  | .ok (.nx, _) _ => some (.ret (.d .none))
  | .ok (.ex x, _) _ => some (.ex x)
  | _ => none
def closedW (k : Nat) : W → Bool
  | .h i => decide (i < k)
  | _ => true
def closedC (k : Nat) : Cell → Bool
  | .ins _ fs => fs.all fun p => closedW k p.2
  | _ => true
def closedS (k : Nat) (s : List Cell) : Bool := s.all (closedC k)
def finM (k : Nat) (w : W) (s : List Cell) : R Rv := if closedS k (s.take k) && decide (k ≤ s.length) then match w with
    | .h i => if i < k then .ok (.w (.h i)) (s.take k) else match s[i]? with
      | some (.lst l) => .ok (.l l) (s.take k)
      | some (.fzl l) => .ok (.w (.d (.list l))) (s.take k)
      | _ => .no
    | w => .ok (.w w) (s.take k)
  else .no
def endM (k : Nat) (r : RS) : R Rv := match r with
  | .ok (.ret w, _) s => finM k w s
  | .ok (.nx, _) s => finM k (.d .none) s
  | .ok (.ex x, _) s => if closedS k (s.take k) && decide (k ≤ s.length) then .ex x (s.take k) else .no
  | _ => .no
/-- the end of an __init__: the fields of the instance that stands first in the store -/
def fldsD (s : List Cell) : List (Nat × W) → Option (List (Nat × PyData))
  | [] => some []
  | (f, w) :: r => match see s w, fldsD s r with
    | some x, some l => some ((f, x) :: l)
    | _, _ => none
def endI (c : Nat) (r : RS) : Option (Except Xc (List (Nat × PyData))) := match r with
  | .ok (.nx, _) s => match (s[0]? : Option Cell) with
    | some (Cell.ins c' fs) => if c' = c then (fldsD s fs).map Except.ok else none
    | _ => none
  | .ok (.ex x, _) _ => some (.error x)
  | _ => none
end DM

set_option maxRecDepth 100000
/-! DM2: how the machine's store lies in the abstract heap. -/
namespace DM
open PySem PySem.Spec PyProof.Rows L2

/-- the names by number; the classes' addresses -/
structure Tab where
  P : Program
  w : World
  K : PySem.W.Frag
  fn : Nat → Str
  nf : Nat
  mn : Nat → Str
  gn : Nat → Str
  cn : Nat → Str
  cls : Nat → Option Addr
  has : Nat → Nat → Bool

/-- fields that are data -/
abbrev FsD (T : Tab) (c : Nat) (G : Hp) : List (Str × V) → List (Nat × PyData) → Prop := Paired fun (p : Str × V) (q : Nat × PyData) => p.1 = T.fn q.1 ∧ T.has c q.1 = true ∧ Dp T.K G p.2 q.2
/-- fields of an exception -/
abbrev FsX (T : Tab) : List (Str × V) → List (Nat × PyData) → Prop := Paired fun (p : Str × V) (q : Nat × PyData) => p.1 = T.fn q.1 ∧ q.1 < T.nf ∧ ∀ G, Dp T.K G p.2 q.2
/-- a dict whose keys are tuples of ints and texts -/
def DctT (T : Tab) (G H : Hp) (a : Addr) (kvs : List (PyData × PyData)) : Prop :=
  ∃ ks : List (List Key × V), H a = some (.dT ks) ∧ Paired (fun (p : List Key × V) (q : PyData × PyData) => (∃ l, q.1 = .tuple l ∧ flatKs l = some p.1) ∧ Dp T.K G p.2 q.2) ks kvs
/-- a dict: each key known, each value known -/
def DR {P : Program} {w : World} {κ : Type} [DecidableEq κ] (kd : HeapKind P w κ) (ko : PyData → Option κ) (K : PySem.W.Frag) (G H : Hp) (a : Addr) (kvs : List (PyData × PyData)) : Prop :=
  ∃ xs : List (κ × Addr × V), GdIs kd H a xs ∧ Paired (fun (x : κ × Addr × V) (q : PyData × PyData) => ko q.1 = some x.1 ∧ Dp K G (.ref x.2.1) q.1 ∧ Dp K G x.2.2 q.2) xs kvs
def DctR (T : Tab) (nd : Bool) (G H : Hp) (a : Addr) (kvs : List (PyData × PyData)) : Prop :=
  if nd then DR (pairKind (mixKind T.P T.w)) pkO T.K G H a kvs else DR (tupleKind (mixKind T.P T.w)) fkO T.K G H a kvs
def RW (T : Tab) (G : Hp) (α : List Addr) : W → V → Prop
  | .d x, v => Dp T.K G v x
  | .h i, v => ∃ a, α[i]? = some a ∧ v = .ref a
  | .o c fs, v => ∃ a C dx fvs, v = .ref a ∧ G a = some (.ins C dx fvs) ∧ T.cls c = some C ∧ FsD T c G fvs fs
  | .dc kvs, v => ∃ a, v = .ref a ∧ DctT T G G a kvs
abbrev RWs (T : Tab) (G : Hp) (α : List Addr) : List W → List V → Prop := Paired (RW T G α)
abbrev FsW (T : Tab) (c : Nat) (G : Hp) (α : List Addr) : List (Str × V) → List (Nat × W) → Prop := Paired fun (p : Str × V) (q : Nat × W) => p.1 = T.fn q.1 ∧ T.has c q.1 = true ∧ RW T G α q.2 p.2
def CellR (T : Tab) (B G H : Hp) (α : List Addr) (a : Addr) : Cell → Prop
  | .lst l => G a = none ∧ B a = none ∧ ∃ vs, H a = some (.lst vs) ∧ DpAll T.K G vs l
  | .dct nd kvs => G a = none ∧ B a = none ∧ DctR T nd G H a kvs
  | .lck nd kvs => G a = none ∧ DctR T nd G H a kvs
  | .ins c fs => G a = none ∧ B a = none ∧ ∃ C dx fvs, H a = some (.ins C dx fvs) ∧ T.cls c = some C ∧ FsW T c G α fvs fs
  | .fzl l => ∃ vs, G a = some (.lst vs) ∧ DpAll T.K G vs l
  | .gone => B a = none ∧ ∃ o, H a = some o
/-- the store lies in H: B is kept as it is, G is what is known for good -/
structure StM (T : Tab) (B G H : Hp) (α : List Addr) (s : List Cell) : Prop where
  gh : Same G H
  bh : Same B H
  len : α.length = s.length
  nd : α.Nodup
  cell : ∀ (i : Nat) (a : Addr) (c : Cell), α[i]? = some a → s[i]? = some c → CellR T B G H α a c
/-- more is known, more cells -/
structure Ext (B G : Hp) (α : List Addr) (G' : Hp) (α' : List Addr) : Prop where
  g : Same G G'
  a : ∃ t, α' = α ++ t
  b : ∀ b, B b ≠ none → G b = none → G' b = none
def EnvR (T : Tab) (G : Hp) (α : List Addr) (ρ : Env) (σ : L2.St) : Prop := ρ.length = σ.length ∧ ∀ (i : Nat) (w : W), ρ[i]? = some (some w) → ∃ v, σ[i]? = some (some v) ∧ RW T G α w v
/-- an exception's dict: beside all that is known of the cells -/
def XD (T : Tab) (B : Hp) (α : List Addr) (H : Hp) (fs : List (Nat × PyData)) : Option Addr → Prop
  | none => fs = []
  | some d => B d = none ∧ d ∉ α ∧ ∃ fvs, H d = some (.xd fvs) ∧ FsX T fvs fs
/-- an exception -/
def XR (T : Tab) (B : Hp) (α : List Addr) (H : Hp) (x : Xc) (cls : Value) (dx : Option Addr) : Prop :=
  ∃ C, T.cls x.c = some C ∧ cls = .ref C ∧ XD T B α H x.fs dx
theorem XR.wk {T : Tab} {B B' : Hp} {α α' : List Addr} {H : Hp} {x : Xc} {cls : Value} {dx : Option Addr} (h : XR T B α H x cls dx) (hb : ∀ d, B d = none → B' d = none) (ha : ∀ d, B d = none → d ∉ α → d ∉ α') : XR T B' α' H x cls dx := by
  obtain ⟨C, h1, h2, h3⟩ := h
  refine ⟨C, h1, h2, ?_⟩
  cases dx with
  | none => exact h3
  | some d => exact ⟨hb d h3.1, ha d h3.1 h3.2.1, h3.2.2⟩
theorem XR.unhold {T : Tab} {B : Hp} {a : Addr} {o : HO} {α : List Addr} {H : Hp} {x : Xc} {cls : Value} {dx : Option Addr} (h : XR T (upd B a o) α H x cls dx) : XR T B α H x cls dx :=
  h.wk (fun d e => by
    by_cases hd : d = a
    · subst hd; rw [upd_same] at e; cases e
    · rw [upd_ne hd] at e; exact e) fun _ _ h => h

/-! ### monotony -/
theorem Same.seqT {K : PySem.W.Frag} {H H' : Hp} {a : Addr} {xs : List V} (e : Same H H') (h : SqT K H a xs) : SqT K H' a xs := by
  rcases h with (h | ⟨o, h⟩) | h
  · exact .inl (.inl (e _ _ h))
  · exact .inl (.inr ⟨o, e _ _ h⟩)
  · exact .inr h
mutual
theorem Dp.mono {K : PySem.W.Frag} {G G' : Hp} (e : Same G G') : ∀ (x : PyData) (v : V), Dp K G v x → Dp K G' v x
  | .none, _, h => by cases h; exact .non
  | .bool b, _, h => by cases h; exact .bl b
  | .int i, _, h => by cases h; exact .int i
  | .str x, _, h => by cases h; exact .str x
  | .list l, _, h => by
    cases h with
    | lst hs ha => exact .lst (e.seq hs) (DpAll.mono e l _ ha)
  | .tuple l, _, h => by
    cases h with
    | tup hs ha => exact .tup (Same.seqT e hs) (DpAll.mono e l _ ha)
  | .dict _, _, h => by cases h
theorem DpAll.mono {K : PySem.W.Frag} {G G' : Hp} (e : Same G G') : ∀ (l : List PyData) (vs : List V), DpAll K G vs l → DpAll K G' vs l
  | [], _, h => by cases h; exact .nil
  | x :: l, _, h => by
    cases h with
    | cons h1 h2 => exact .cons (Dp.mono e x _ h1) (DpAll.mono e l _ h2)
end
theorem Paired.imp2 {α β : Type} {F G : α → β → Prop} (f : ∀ a b, F a b → G a b) : ∀ {l₁ : List α} {l₂ : List β}, Paired F l₁ l₂ → Paired G l₁ l₂
  | _, _, .nil => .nil
  | _, _, .cons r t => .cons (f _ _ r) (Paired.imp2 f t)
theorem FsD.mono {T : Tab} {c : Nat} {G G' : Hp} (e : Same G G') {fvs : List (Str × V)} {fs : List (Nat × PyData)} (h : FsD T c G fvs fs) : FsD T c G' fvs fs :=
  Paired.imp2 (fun _ _ ⟨a, b, c⟩ => ⟨a, b, Dp.mono e _ _ c⟩) h
theorem DctT.mono {T : Tab} {G G' H H' : Hp} (e : Same G G') {a : Addr} (eh : ∀ o, H a = some o → H' a = some o) {kvs : List (PyData × PyData)} (h : DctT T G H a kvs) : DctT T G' H' a kvs := by
  obtain ⟨ks, h1, h2⟩ := h
  exact ⟨ks, eh _ h1, Paired.imp2 (fun _ _ ⟨p, q⟩ => ⟨p, Dp.mono e _ _ q⟩) h2⟩
theorem DR.mono {P : Program} {w : World} {κ : Type} [DecidableEq κ] {kd : HeapKind P w κ} {ko : PyData → Option κ} {K : PySem.W.Frag} {G G' H H' : Hp} (e : Same G G') {a : Addr} (eh : ∀ o, H a = some o → H' a = some o) {kvs : List (PyData × PyData)} (h : DR kd ko K G H a kvs) : DR kd ko K G' H' a kvs := by
  obtain ⟨xs, ⟨φ, h1, h3⟩, h2⟩ := h
  exact ⟨xs, ⟨φ, eh _ h1, h3⟩, Paired.imp2 (fun _ _ ⟨p, q, r⟩ => ⟨p, Dp.mono e _ _ q, Dp.mono e _ _ r⟩) h2⟩
theorem DctR.mono {T : Tab} {nd : Bool} {G G' H H' : Hp} (e : Same G G') {a : Addr} (eh : ∀ o, H a = some o → H' a = some o) {kvs : List (PyData × PyData)} (h : DctR T nd G H a kvs) : DctR T nd G' H' a kvs := by
  cases nd with
  | true => exact DR.mono e eh h
  | false => exact DR.mono e eh h
theorem DctR.there {T : Tab} {nd : Bool} {G H : Hp} {a : Addr} {kvs : List (PyData × PyData)} (h : DctR T nd G H a kvs) : ∃ o, H a = some o := by
  cases nd with
  | true => obtain ⟨_, ⟨_, h, _⟩, _⟩ := h; exact ⟨_, h⟩
  | false => obtain ⟨_, ⟨_, h, _⟩, _⟩ := h; exact ⟨_, h⟩
theorem RW.mono {T : Tab} {G G' : Hp} {α α' : List Addr} (e : Same G G') (ea : ∃ t, α' = α ++ t) : ∀ {w : W} {v : V}, RW T G α w v → RW T G' α' w v
  | .d x, v, h => Dp.mono e x v h
  | .h i, v, ⟨a, h1, h2⟩ => by
    obtain ⟨t, rfl⟩ := ea
    refine ⟨a, ?_, h2⟩
    rw [List.getElem?_append_left (List.getElem?_eq_some_iff.mp h1).1]
    exact h1
  | .o c fs, v, ⟨a, C, dx, fvs, h1, h2, h3, h4⟩ => ⟨a, C, dx, fvs, h1, e _ _ h2, h3, FsD.mono e h4⟩
  | .dc kvs, v, ⟨a, h1, h2⟩ => ⟨a, h1, DctT.mono e (fun o => e a o) h2⟩
theorem RWs.mono {T : Tab} {G G' : Hp} {α α' : List Addr} (e : Same G G') (ea : ∃ t, α' = α ++ t) {ws : List W} {vs : List V} (h : RWs T G α ws vs) : RWs T G' α' ws vs :=
  Paired.imp2 (fun _ _ r => RW.mono e ea r) h
theorem FsW.mono {T : Tab} {G G' : Hp} {α α' : List Addr} (e : Same G G') (ea : ∃ t, α' = α ++ t) {fvs : List (Str × V)} {fs : List (Nat × W)} (h : FsW T c G α fvs fs) : FsW T c G' α' fvs fs :=
  Paired.imp2 (fun _ _ ⟨a, b, c⟩ => ⟨a, b, RW.mono e ea c⟩) h
theorem Ext.refl (B G : Hp) (α : List Addr) : Ext B G α G α := ⟨Same.refl G, ⟨[], (by simp)⟩, fun _ _ h => h⟩
theorem Ext.refl' {B G : Hp} {α : List Addr} : Ext B G α G α := Ext.refl B G α
theorem Ext.trans {B G G1 G2 : Hp} {α α1 α2 : List Addr} (a : Ext B G α G1 α1) (b : Ext B G1 α1 G2 α2) : Ext B G α G2 α2 := by
  obtain ⟨t1, e1⟩ := a.a
  obtain ⟨t2, e2⟩ := b.a
  exact ⟨a.g.trans b.g, ⟨t1 ++ t2, by rw [e2, e1, List.append_assoc]⟩, fun c h1 h2 => b.b c h1 (a.b c h1 h2)⟩
theorem Ext.rw {T : Tab} {B G G' : Hp} {α α' : List Addr} (x : Ext B G α G' α') {w : W} {v : V} (h : RW T G α w v) : RW T G' α' w v := RW.mono x.g x.a h
theorem Ext.rws {T : Tab} {B G G' : Hp} {α α' : List Addr} (x : Ext B G α G' α') {ws : List W} {vs : List V} (h : RWs T G α ws vs) : RWs T G' α' ws vs := RWs.mono x.g x.a h
theorem EnvR.mono {T : Tab} {B G G' : Hp} {α α' : List Addr} {ρ : Env} {σ : L2.St} (x : Ext B G α G' α') (h : EnvR T G α ρ σ) : EnvR T G' α' ρ σ :=
  ⟨h.1, fun i w e => let ⟨v, h1, h2⟩ := h.2 i w e; ⟨v, h1, x.rw h2⟩⟩
theorem CellR.mono {T : Tab} {B G G' H H' : Hp} {α α' : List Addr} {a : Addr} (e : Same G G') (ea : ∃ t, α' = α ++ t) (ga : G a = none → G' a = none) (ha : ∀ o, H a = some o → H' a = some o) : ∀ {c : Cell}, CellR T B G H α a c → CellR T B G' H' α' a c
  | .lst l, ⟨h1, h2, vs, h3, h4⟩ => ⟨ga h1, h2, vs, ha _ h3, DpAll.mono e _ _ h4⟩
  | .dct nd kvs, ⟨h1, h2, h3⟩ => ⟨ga h1, h2, DctR.mono e ha h3⟩
  | .lck nd kvs, ⟨h1, h3⟩ => ⟨ga h1, DctR.mono e ha h3⟩
  | .ins c fs, ⟨h1, h2, C, dx, fvs, h3, h4, h5⟩ => ⟨ga h1, h2, C, dx, fvs, ha _ h3, h4, FsW.mono e ea h5⟩
  | .fzl l, ⟨vs, h1, h2⟩ => ⟨vs, e _ _ h1, DpAll.mono e _ _ h2⟩
  | .gone, ⟨b, o, h⟩ => ⟨b, o, ha o h⟩
theorem CellR.there {T : Tab} {B G H : Hp} {α : List Addr} {a : Addr} (gh : Same G H) : ∀ {c : Cell}, CellR T B G H α a c → ∃ o, H a = some o
  | .lst l, ⟨_, _, _, h, _⟩ => ⟨_, h⟩
  | .dct nd kvs, ⟨_, _, h⟩ => h.there
  | .lck nd kvs, ⟨_, h⟩ => h.there
  | .ins c fs, ⟨_, _, _, _, _, h, _⟩ => ⟨_, h⟩
  | .fzl l, ⟨_, h, _⟩ => ⟨_, gh _ _ h⟩
  | .gone, ⟨_, h⟩ => h
theorem CellR.bnone {T : Tab} {B G H : Hp} {α : List Addr} {a : Addr} {c : Cell} (h : CellR T B G H α a c) (hc : c ≠ .gone) (hf : ∀ l, c ≠ .fzl l) (hl : ∀ nd l, c ≠ .lck nd l) : G a = none ∧ B a = none := by
  cases c with
  | lst l => exact ⟨h.1, h.2.1⟩
  | dct nd l => exact ⟨h.1, h.2.1⟩
  | lck nd l => exact absurd rfl (hl nd l)
  | ins c l => exact ⟨h.1, h.2.1⟩
  | fzl l => exact absurd rfl (hf l)
  | gone => exact absurd rfl hc
theorem Same.upd {G : Hp} {p : Addr} {o : HO} (h : G p = none) : Same G (upd G p o) := fun b u e => by rw [upd_ne (ne_of_none e h)]; exact e
theorem same_none {G H : Hp} (e : Same G H) {p : Addr} (h : H p = none) : G p = none := e.free h
section
variable {T : Tab} {B G H : Hp} {α : List Addr} {s : List Cell}
theorem StM.at (S : StM T B G H α s) {i : Nat} {c : Cell} (h : s[i]? = some c) : ∃ a, α[i]? = some a ∧ CellR T B G H α a c := by
  have hi := (List.getElem?_eq_some_iff.mp h).1
  have hi' : i < α.length := by rw [S.len]; exact hi
  exact ⟨α[i], List.getElem?_eq_getElem hi', S.cell i _ c (List.getElem?_eq_getElem hi') h⟩
theorem StM.mem_there (S : StM T B G H α s) {a : Addr} (h : a ∈ α) : ∃ o, H a = some o := by
  obtain ⟨i, hi, e⟩ := List.getElem_of_mem h
  have hi' : i < s.length := by rw [← S.len]; exact hi
  exact (S.cell i a s[i] (by rw [List.getElem?_eq_getElem hi, e]) (List.getElem?_eq_getElem hi')).there S.gh
theorem StM.new_notin (S : StM T B G H α s) {p : Addr} (h : H p = none) : p ∉ α := fun hm => by
  obtain ⟨o, e⟩ := S.mem_there hm
  rw [h] at e; cases e
/-- a new object beside all -/
theorem StM.beside (S : StM T B G H α s) {p : Addr} {o : HO} (h : H p = none) : StM T B G (upd H p o) α s :=
  ⟨S.gh.trans (Same.upd h), S.bh.trans (Same.upd h), S.len, S.nd, fun i a c h1 h2 => (S.cell i a c h1 h2).mono (Same.refl G) ⟨[], by simp⟩ (fun x => x) fun u e => Same.upd h a u e⟩
theorem StM.same (S : StM T B G H α s) {H' : Hp} (h : Same H H') : StM T B G H' α s :=
  ⟨S.gh.trans h, S.bh.trans h, S.len, S.nd, fun i a c h1 h2 => (S.cell i a c h1 h2).mono (Same.refl G) ⟨[], by simp⟩ (fun x => x) fun u e => h a u e⟩
/-- more is known: what is new there is in H, no cell, not in B -/
theorem StM.know (S : StM T B G H α s) {G' : Hp} (g : Same G G') (gh : Same G' H) (ha : ∀ a ∈ α, G a = none → G' a = none) : StM T B G' H α s :=
  ⟨gh, S.bh, S.len, S.nd, fun i a c h1 h2 => (S.cell i a c h1 h2).mono g ⟨[], by simp⟩ (ha a (List.mem_of_getElem? h1)) fun u e => e⟩
/-- a new known object -/
theorem StM.pure (S : StM T B G H α s) {p : Addr} {o : HO} (h : H p = none) : StM T B (upd G p o) (upd H p o) α s := by
  have S1 := S.beside (o := o) h
  refine S1.know (Same.upd (same_none S.gh h)) (fun b u e => ?_) (fun a ha e => ?_)
  · by_cases hb : b = p
    · subst hb; rw [upd_same] at e ⊢; exact e
    · rw [upd_ne hb] at e ⊢; exact S.gh b u e
  · rw [upd_ne]
    · exact e
    · rintro rfl; exact S.new_notin h ha
theorem Ext.pure {p : Addr} {o : HO} (hg : G p = none) (hb : B p = none) : Ext B G α (upd G p o) α := by
  refine ⟨Same.upd hg, ⟨[], by simp⟩, fun b h1 h2 => ?_⟩
  rw [upd_ne]
  · exact h2
  · rintro rfl; exact h1 hb
/-- a new list cell -/
theorem StM.push (S : StM T B G H α s) {p : Addr} {c : Cell} (hp : p ∉ α) (hc : CellR T B G H (α ++ [p]) p c) : StM T B G H (α ++ [p]) (s ++ [c]) := by
  refine ⟨S.gh, S.bh, by simp [S.len], ?_, fun i a c' h1 h2 => ?_⟩
  · rw [List.nodup_append]
    exact ⟨S.nd, by simp, fun a ha b hb => by simp at hb; subst hb; rintro rfl; exact hp ha⟩
  · by_cases hi : i < α.length
    · rw [List.getElem?_append_left hi] at h1
      rw [List.getElem?_append_left (by rw [← S.len]; exact hi)] at h2
      exact (S.cell i a c' h1 h2).mono (Same.refl G) ⟨[p], rfl⟩ (fun x => x) fun u e => e
    · have hi' : i = α.length := by
        have := (List.getElem?_eq_some_iff.mp h1).1
        simp at this; omega
      subst hi'
      rw [List.getElem?_append_right (Nat.le_refl _)] at h1
      rw [S.len, List.getElem?_append_right (Nat.le_refl _)] at h2
      simp at h1 h2
      subst h1; subst h2
      exact hc
theorem Ext.push {p : Addr} : Ext B G α G (α ++ [p]) := ⟨Same.refl G, ⟨[p], rfl⟩, fun _ _ h => h⟩
/-- the cell i at a is changed -/
theorem StM.set (S : StM T B G H α s) {i : Nat} {a : Addr} {c : Cell} {o : HO} (ha : α[i]? = some a) (hg : G a = none) (hb : B a = none) (hc : CellR T B G (upd H a o) α a c) : StM T B G (upd H a o) α (s.set i c) := by
  have hne : ∀ b u, G b = some u → b ≠ a := fun b u e z => by rw [z, hg] at e; cases e
  have hne' : ∀ b u, B b = some u → b ≠ a := fun b u e z => by rw [z, hb] at e; cases e
  refine ⟨fun b u e => by rw [upd_ne (hne b u e)]; exact S.gh b u e, fun b u e => by rw [upd_ne (hne' b u e)]; exact S.bh b u e, by simp [S.len], S.nd, fun j b c' h1 h2 => ?_⟩
  by_cases hj : j = i
  · subst hj
    rw [ha] at h1; cases h1
    have hl : j < s.length := by rw [← S.len]; exact (List.getElem?_eq_some_iff.mp ha).1
    rw [List.getElem?_set_self hl] at h2
    cases h2
    exact hc
  · rw [List.getElem?_set_ne (Ne.symm hj)] at h2
    refine (S.cell j b c' h1 h2).mono (Same.refl G) ⟨[], by simp⟩ (fun x => x) fun u e => ?_
    rw [upd_ne]
    · exact e
    · rintro rfl
      obtain ⟨l1, e1⟩ := List.getElem?_eq_some_iff.mp h1
      obtain ⟨l2, e2⟩ := List.getElem?_eq_some_iff.mp ha
      exact hj ((List.getElem_inj S.nd).mp (e1.trans e2.symm))
/-- .. without the heap -/
theorem StM.setG (S : StM T B G H α s) {i : Nat} {a : Addr} {c : Cell} (ha : α[i]? = some a) (hc : CellR T B G H α a c) : StM T B G H α (s.set i c) := by
  refine ⟨S.gh, S.bh, by simp [S.len], S.nd, fun j b c' h1 h2 => ?_⟩
  by_cases hj : j = i
  · subst hj
    rw [ha] at h1; cases h1
    have hl : j < s.length := by rw [← S.len]; exact (List.getElem?_eq_some_iff.mp ha).1
    rw [List.getElem?_set_self hl] at h2
    cases h2
    exact hc
  · rw [List.getElem?_set_ne (Ne.symm hj)] at h2
    exact S.cell j b c' h1 h2
/-- .. known for good -/
theorem StM.freeze (S : StM T B G H α s) {i : Nat} {l : List PyData} (h : s[i]? = some (.lst l)) : ∃ a vs G', α[i]? = some a ∧ G' = upd G a (.lst vs) ∧ Ext B G α G' α ∧ StM T B G' H α (s.set i (.fzl l)) ∧ DpAll T.K G' vs l ∧ G' a = some (.lst vs) ∧ H a = some (.lst vs) := by
  obtain ⟨a, ha, hg, hb, vs, hH, hd⟩ := S.at h
  refine ⟨a, vs, _, ha, rfl, Ext.pure hg hb, ?_, DpAll.mono (Same.upd hg) _ _ hd, upd_same, hH⟩
  have g : Same G (upd G a (.lst vs)) := Same.upd hg
  have gH : Same (upd G a (.lst vs)) H := fun b u e => by
    by_cases hb : b = a
    · subst hb; rw [upd_same] at e; cases e; exact hH
    · rw [upd_ne hb] at e; exact S.gh b u e
  refine ⟨gH, S.bh, by simp [S.len], S.nd, fun j b c' h1 h2 => ?_⟩
  by_cases hj : j = i
  · subst hj
    rw [ha] at h1; cases h1
    have hl : j < s.length := by rw [← S.len]; exact (List.getElem?_eq_some_iff.mp ha).1
    rw [List.getElem?_set_self hl] at h2
    cases h2
    exact ⟨vs, upd_same, DpAll.mono g _ _ hd⟩
  · rw [List.getElem?_set_ne (Ne.symm hj)] at h2
    refine (S.cell j b c' h1 h2).mono g ⟨[], by simp⟩ (fun z => ?_) fun u e => e
    rw [upd_ne]
    · exact z
    · rintro rfl
      obtain ⟨l1, e1⟩ := List.getElem?_eq_some_iff.mp h1
      obtain ⟨l2, e2⟩ := List.getElem?_eq_some_iff.mp ha
      exact hj ((List.getElem_inj S.nd).mp (e1.trans e2.symm))
end

/-! ### values seen, frozen -/
section
variable {T : Tab} {B G H : Hp} {α : List Addr} {s : List Cell}
theorem _root_.L2.DpAll.len {K : PySem.W.Frag} {G : Hp} : ∀ {l : List PyData} {vs : List V}, DpAll K G vs l → vs.length = l.length
  | [], _, h => by cases h; rfl
  | _ :: l, _, h => by
    cases h with
    | cons _ h2 => simp [L2.DpAll.len h2]
/-- seen: as data in H -/
theorem see_ok (S : StM T B G H α s) {w : W} {x : PyData} {v : V} (h : see s w = some x) (r : RW T G α w v) : Dp T.K H v x := by
  cases w with
  | d y => cases h; exact Dp.mono S.gh _ _ r
  | h i =>
    obtain ⟨a, ha, rfl⟩ := r
    simp only [see] at h
    cases e : s[i]? with
    | none => rw [e] at h; cases h
    | some c =>
      rw [e] at h
      have hc := S.cell i a c ha e
      cases c with
      | lst l =>
        cases h
        obtain ⟨hg, hb, vs, hH, hd⟩ := hc
        exact .lst (SqL.of hH) (DpAll.mono S.gh _ _ hd)
      | fzl l =>
        cases h
        obtain ⟨vs, hG, hd⟩ := hc
        exact .lst (SqL.of (S.gh _ _ hG)) (DpAll.mono S.gh _ _ hd)
      | dct _ _ => cases h
      | lck _ _ => cases h
      | ins _ _ => cases h
      | gone => cases h
  | o c fs => cases h
  | dc k => cases h
theorem frz_ok (S : StM T B G H α s) {w : W} {x : PyData} {s' : List Cell} {v : V} (h : frz s w = some (x, s')) (r : RW T G α w v) : ∃ G', Ext B G α G' α ∧ StM T B G' H α s' ∧ Dp T.K G' v x := by
  cases w with
  | d y => cases h; exact ⟨G, Ext.refl', S, r⟩
  | h i =>
    obtain ⟨a, ha, rfl⟩ := r
    simp only [frz] at h
    cases e : s[i]? with
    | none => rw [e] at h; cases h
    | some c =>
      rw [e] at h
      cases c with
      | lst l =>
        cases h
        obtain ⟨a', vs, G', ha', _, ex, S', hd, hG', hH⟩ := S.freeze e
        rw [ha] at ha'; cases ha'
        exact ⟨G', ex, S', .lst (SqL.of hG') hd⟩
      | fzl l =>
        cases h
        obtain ⟨vs, hG, hd⟩ := S.cell i a _ ha e
        exact ⟨G, Ext.refl', S, .lst (SqL.of hG) hd⟩
      | dct _ _ => cases h
      | lck _ _ => cases h
      | ins _ _ => cases h
      | gone => cases h
  | o c fs => cases h
  | dc k => cases h
theorem frzAll_ok : ∀ {ws : List W} {G : Hp} {s s' : List Cell} {xs : List PyData} {vs : List V}, StM T B G H α s → frzAll s ws = some (xs, s') → RWs T G α ws vs → ∃ G', Ext B G α G' α ∧ StM T B G' H α s' ∧ DpAll T.K G' vs xs
  | [], G, s, s', xs, vs, S, h, r => by cases h; cases r; exact ⟨G, Ext.refl', S, .nil⟩
  | w :: ws, G, s, s', xs, vs, S, h, r => by
    simp only [frzAll] at h
    cases r with
    | cons r1 r2 =>
      cases e : frz s w with
      | none => rw [e] at h; cases h
      | some p =>
        obtain ⟨x, s1⟩ := p
        rw [e] at h
        simp only at h
        obtain ⟨G1, ex1, S1, d1⟩ := frz_ok S e r1
        cases e2 : frzAll s1 ws with
        | none => rw [e2] at h; cases h
        | some q =>
          obtain ⟨xs', s2⟩ := q
          rw [e2] at h
          cases h
          obtain ⟨G2, ex2, S2, d2⟩ := frzAll_ok S1 e2 (ex1.rws r2)
          exact ⟨G2, ex1.trans ex2, S2, .cons (Dp.mono ex2.g _ _ d1) d2⟩
theorem seeAll_ok (S : StM T B G H α s) : ∀ {ws : List W} {xs : List PyData} {vs : List V}, seeAll s ws = some xs → RWs T G α ws vs → DpAll T.K H vs xs
  | [], xs, vs, h, r => by cases h; cases r; exact .nil
  | w :: ws, xs, vs, h, r => by
    simp only [seeAll] at h
    cases r with
    | cons r1 r2 =>
      cases e : see s w with
      | none => rw [e] at h; cases h
      | some x =>
        cases e2 : seeAll s ws with
        | none => rw [e, e2] at h; cases h
        | some xs' =>
          rw [e, e2] at h
          cases h
          exact .cons (see_ok S e r1) (seeAll_ok S e2 r2)
end
end DM

set_option maxRecDepth 100000
/-! DM3: readings of the machine; expressions. -/
namespace DM
open PySem PySem.Spec PyProof.Rows L2

/-- how a result lies: G, H, the cells, the machine's result, the layer's -/
abbrev Rel (β γ : Type) := Hp → Hp → List Addr → Hp → β → γ → Prop
def Post {β γ : Type} (T : Tab) (Wx : WX) (rel : Rel β γ) (B G : Hp) (α : List Addr) (σ : L2.St) (r : R β) (Q : γ → Hp → Prop) : Prop := match r with
  | .ok b s' => ∀ (G' : Hp) (α' : List Addr) (H' : Hp) (c : γ), Ext B G α G' α' → StM T B G' H' α' s' → rel B G' α' H' b c → Q c H'
  | .ex x s' => ∀ (G' : Hp) (α' : List Addr) (H' : Hp) (cls : Value) (dx : Option Addr), Ext B G α G' α' → StM T B G' H' α' s' → XR T B α' H' x cls dx → Wx cls dx σ H'
  | .no => False
/-- a reading -/
def rd {β γ : Type} (T : Tab) (Wx : WX) (rel : Rel β γ) (f : Env → List Cell → R β) : L2.St → Hp → (γ → Hp → Prop) → Prop := fun σ H Q =>
  ∃ (B G : Hp) (α : List Addr) (ρ : Env) (s : List Cell), StM T B G H α s ∧ EnvR T G α ρ σ ∧ Post T Wx rel B G α σ (f ρ s) Q
def rW (T : Tab) : Rel W V := fun _ G α _ w v => RW T G α w v
def rWs (T : Tab) : Rel (List W) (List V) := fun _ G α _ w v => RWs T G α w v
def rB : Rel Bool Bool := fun _ _ _ _ b c => b = c
def rO : Rel (Option Int) (Option Int) := fun _ _ _ _ b c => b = c
/-- a new list -/
def rF (T : Tab) : Rel (List PyData) V := fun B G α H l v => ∃ a vs, v = .ref a ∧ H a = some (.lst vs) ∧ G a = none ∧ B a = none ∧ a ∉ α ∧ DpAll T.K G vs l
abbrev tE (T : Tab) (Wx : WX) (f : Env → List Cell → R W) : TE := rd T Wx (rW T) f
abbrev tF (T : Tab) (Wx : WX) (f : Env → List Cell → R (List PyData)) : TE := rd T Wx (rF T) f
abbrev tT (T : Tab) (Wx : WX) (f : Env → List Cell → R Bool) : TT := rd T Wx rB f
abbrev tA (T : Tab) (Wx : WX) (f : Env → List Cell → R (List W)) : TA := rd T Wx (rWs T) f
abbrev tO (T : Tab) (Wx : WX) (f : Env → List Cell → R (Option Int)) : TO := rd T Wx rO f

section
variable {T : Tab} {Wx : WX} {β γ δ ε : Type} {rel : Rel β γ} {rel' : Rel δ ε} {B G : Hp} {α : List Addr} {σ : L2.St} {H : Hp}
theorem Post.mono {r : R β} {Q Q' : γ → Hp → Prop} (h : Post T Wx rel B G α σ r Q) (k : ∀ c H, Q c H → Q' c H) : Post T Wx rel B G α σ r Q' := by
  cases r with
  | ok b s => exact fun G' α' H' c x S r => k _ _ (h G' α' H' c x S r)
  | ex x s => exact h
  | no => exact h
theorem Post.ext {G1 : Hp} {α1 : List Addr} {r : R β} {Q : γ → Hp → Prop} (h : Post T Wx rel B G α σ r Q) (x : Ext B G α G1 α1) : Post T Wx rel B G1 α1 σ r Q := by
  cases r with
  | ok b s => exact fun G' α' H' c y S r => h G' α' H' c (x.trans y) S r
  | ex z s => exact fun G' α' H' c d y S r => h G' α' H' c d (x.trans y) S r
  | no => exact h
theorem Post.bind {r : R β} {k : β → List Cell → R δ} {Q : ε → Hp → Prop} (h : Post T Wx rel' B G α σ (r.bind k) Q) :
    Post T Wx rel B G α σ r (fun c H1 => ∃ (b : β) (s1 : List Cell) (G1 : Hp) (α1 : List Addr), Ext B G α G1 α1 ∧ StM T B G1 H1 α1 s1 ∧ rel B G1 α1 H1 b c ∧ Post T Wx rel' B G1 α1 σ (k b s1) Q) := by
  cases r with
  | ok b s => exact fun G' α' H' c x S r => ⟨b, s, G', α', x, S, r, Post.ext h x⟩
  | ex z s => exact h
  | no => exact h
/-- the state between two steps -/
structure Mid (T : Tab) (Wx : WX) (rel' : Rel δ ε) (B G : Hp) (α : List Addr) (ρ : Env) (s : List Cell) (σ : L2.St) (H : Hp) (k : List Cell → R δ) (Q : ε → Hp → Prop) : Prop where
  S : StM T B G H α s
  E : EnvR T G α ρ σ
  P : Post T Wx rel' B G α σ (k s) Q
theorem rd_bind {f : Env → List Cell → R β} {k : Env → β → List Cell → R δ} {Q : ε → Hp → Prop} (h : rd T Wx rel' (fun ρ s => (f ρ s).bind (k ρ)) σ H Q) :
    rd T Wx rel f σ H (fun c H1 => ∃ (B G : Hp) (α : List Addr) (ρ : Env) (s : List Cell) (b : β), rel B G α H1 b c ∧ Mid T Wx rel' B G α ρ s σ H1 (k ρ b) Q) := by
  obtain ⟨B, G, α, ρ, s, S, E, P⟩ := h
  exact ⟨B, G, α, ρ, s, S, E, P.bind.mono fun c H1 ⟨b, s1, G1, α1, x, S1, r, P1⟩ => ⟨B, G1, α1, ρ, s1, b, r, S1, E.mono x, P1⟩⟩
/-- the second step -/
theorem Mid.step {f : Env → List Cell → R β} {k : β → List Cell → R δ} {Q : ε → Hp → Prop} {ρ : Env} {s : List Cell} (h : Mid T Wx rel' B G α ρ s σ H (fun s => (f ρ s).bind k) Q) :
    rd T Wx rel f σ H (fun c H1 => ∃ (G1 : Hp) (α1 : List Addr) (s1 : List Cell) (b : β), Ext B G α G1 α1 ∧ rel B G1 α1 H1 b c ∧ Mid T Wx rel' B G1 α1 ρ s1 σ H1 (k b) Q) :=
  ⟨B, G, α, ρ, s, h.S, h.E, h.P.bind.mono fun c H1 ⟨b, s1, G1, α1, x, S1, r, P1⟩ => ⟨G1, α1, s1, b, x, r, S1, h.E.mono x, P1⟩⟩
/-- a pure result, at once -/
theorem Post.now {b : β} {s : List Cell} {Q : γ → Hp → Prop} (h : Post T Wx rel B G α σ (.ok b s) Q) (S : StM T B G H α s) {c : γ} (r : rel B G α H b c) : Q c H := h G α H c Ext.refl' S r
theorem Post.at {b : β} {s : List Cell} {Q : γ → Hp → Prop} (h : Post T Wx rel B G α σ (.ok b s) Q) {G1 : Hp} {α1 : List Addr} {H1 : Hp} {c : γ} (x : Ext B G α G1 α1) (S : StM T B G1 H1 α1 s) (r : rel B G1 α1 H1 b c) : Q c H1 := h G1 α1 H1 c x S r
theorem Post.lift {o : Option β} {s : List Cell} {Q : γ → Hp → Prop} (h : Post T Wx rel B G α σ (lift o s) Q) : ∃ b, o = some b ∧ Post T Wx rel B G α σ (.ok b s) Q := by
  cases o with
  | none => exact h.elim
  | some b => exact ⟨b, rfl, h⟩
/-- a new tuple -/
theorem Post.tup {xs : List PyData} {vs : List V} {s : List Cell} {Q : VK} (h : Post T Wx (rW T) B G α σ (.ok (.d (.tuple xs)) s) Q) (S : StM T B G H α s) (d : DpAll T.K G vs xs) {p : Addr} (hp : H p = none) : Q (.ref p) (upd H p (.tup vs)) := by
  have hg := same_none S.gh hp
  exact h.at (Ext.pure hg (same_none S.bh hp)) (S.pure hp) (show Dp T.K _ _ _ from .tup (SqT.of upd_same) (DpAll.mono (Same.upd hg) _ _ d))
/-- a new list -/
theorem Post.lst {xs : List PyData} {vs : List V} {s : List Cell} {Q : VK} (h : Post T Wx (rF T) B G α σ (.ok xs s) Q) (S : StM T B G H α s) (d : DpAll T.K G vs xs) {p : Addr} (hp : H p = none) : Q (.ref p) (upd H p (.lst vs)) :=
  h.at Ext.refl' (S.beside hp) ⟨p, vs, rfl, upd_same, same_none S.gh hp, same_none S.bh hp, S.new_notin hp, d⟩
end

/-- a new list, known for good -/
theorem Post.lstD {T : Tab} {Wx : WX} {B G : Hp} {α : List Addr} {σ : L2.St} {H : Hp} {xs : List PyData} {vs : List V} {s : List Cell} {Q : VK} (h : Post T Wx (rW T) B G α σ (.ok (.d (.list xs)) s) Q) (S : StM T B G H α s) (d : DpAll T.K G vs xs) {p : Addr} (hp : H p = none) : Q (.ref p) (upd H p (.lst vs)) := by
  have hg := same_none S.gh hp
  exact h.at (Ext.pure hg (same_none S.bh hp)) (S.pure hp) (show Dp T.K _ _ _ from .lst (SqL.of upd_same) (DpAll.mono (Same.upd hg) _ _ d))
theorem PE_imp {X : Cx} {e : Expr} {t t' : TE} (h : PE X e t) (i : ∀ σ H Q, t' σ H Q → t σ H Q) : PE X e t' := ⟨fun pins s σ H Q I q => h.run pins s σ H Q I (i σ H Q q)⟩
theorem PT_imp {X : Cx} {e : Expr} {t t' : TT} (h : PT X e t) (i : ∀ σ H Q, t' σ H Q → t σ H Q) : PT X e t' := ⟨fun pins s σ H Q I q => h.run pins s σ H Q I (i σ H Q q)⟩
theorem PA_imp {X : Cx} {e : List Expr} {t t' : TA} (h : PA X e t) (i : ∀ σ H Q, t' σ H Q → t σ H Q) : PA X e t' := ⟨fun pos pins s σ H Q I q => h.run pos pins s σ H Q I (i σ H Q q)⟩
theorem PO_imp {X : Cx} {e : Option Expr} {t t' : TO} (h : PO X e t) (i : ∀ σ H Q, t' σ H Q → t σ H Q) : PO X e t' := ⟨fun pins s σ H Q I q => h.run pins s σ H Q I (i σ H Q q)⟩

/-! ### data of a form -/
section
variable {K : PySem.W.Frag} {G : Hp} {v : V}
theorem _root_.L2.Dp.int_inv {i : Int} (h : Dp K G v (.int i)) : v = .int i := by cases h; rfl
theorem _root_.L2.Dp.bl_inv {i : Bool} (h : Dp K G v (.bool i)) : v = .bl i := by cases h; rfl
theorem _root_.L2.Dp.str_inv {i : Str} (h : Dp K G v (.str i)) : v = .str i := by cases h; rfl
theorem _root_.L2.Dp.non_inv (h : Dp K G v .none) : v = .non := by cases h; rfl
theorem _root_.L2.Dp.tup_inv {l : List PyData} (h : Dp K G v (.tuple l)) : ∃ a vs, v = .ref a ∧ SqT K G a vs ∧ DpAll K G vs l := by cases h with | tup h1 h2 => exact ⟨_, _, rfl, h1, h2⟩
theorem _root_.L2.Dp.lst_inv {l : List PyData} (h : Dp K G v (.list l)) : ∃ a vs, v = .ref a ∧ SqL K G a vs ∧ DpAll K G vs l := by cases h with | lst h1 h2 => exact ⟨_, _, rfl, h1, h2⟩
theorem _root_.L2.DpAll.append {l m : List PyData} {vs us : List V} (h : DpAll K G vs l) (h' : DpAll K G us m) : DpAll K G (vs ++ us) (l ++ m) := by
  induction l generalizing vs with
  | nil => cases h; exact h'
  | cons x l ih => cases h with | cons h1 h2 => exact .cons h1 (ih h2)
theorem _root_.L2.DpAll.get {l : List PyData} {vs : List V} {i : Nat} {x : PyData} (h : DpAll K G vs l) (e : l[i]? = some x) : ∃ v, vs[i]? = some v ∧ Dp K G v x := by
  induction l generalizing vs i with
  | nil => simp at e
  | cons y l ih =>
    cases h with
    | cons h1 h2 =>
      cases i with
      | zero => simp at e; subst e; exact ⟨_, by simp, h1⟩
      | succ i => simp at e; obtain ⟨v, e1, e2⟩ := ih h2 e; exact ⟨v, by simpa using e1, e2⟩
theorem _root_.L2.DpAll.take {l : List PyData} {vs : List V} (n : Nat) (h : DpAll K G vs l) : DpAll K G (vs.take n) (l.take n) := by
  induction l generalizing vs n with
  | nil => cases h; simp; exact .nil
  | cons y l ih =>
    cases h with
    | cons h1 h2 =>
      cases n with
      | zero => simp; exact .nil
      | succ n => simp; exact .cons h1 (ih n h2)
theorem _root_.L2.DpAll.drop {l : List PyData} {vs : List V} (n : Nat) (h : DpAll K G vs l) : DpAll K G (vs.drop n) (l.drop n) := by
  induction l generalizing vs n with
  | nil => cases h; simp; exact .nil
  | cons y l ih =>
    cases h with
    | cons h1 h2 =>
      cases n with
      | zero => simp; exact .cons h1 h2
      | succ n => simp; exact ih n h2
theorem _root_.L2.DpAll.set {l : List PyData} {vs : List V} {x : PyData} {v : V} (n : Nat) (h : DpAll K G vs l) (hx : Dp K G v x) : DpAll K G (vs.set n v) (l.set n x) := by
  induction l generalizing vs n with
  | nil => cases h; simp; exact .nil
  | cons y l ih =>
    cases h with
    | cons h1 h2 =>
      cases n with
      | zero => simp; exact .cons hx h2
      | succ n => simp; exact .cons h1 (ih n h2)
theorem sIx_eq (n d : Nat) (o : Option Int) : sIx n d o = HT.sIx n d o := by cases o <;> rfl
theorem _root_.L2.DpAll.cut {l : List PyData} {vs : List V} (lo hi : Option Int) (h : DpAll K G vs l) : DpAll K G (cutV vs lo hi) (cut l lo hi) := by
  unfold cutV DM.cut
  rw [sIx_eq, sIx_eq, h.len]
  exact (h.drop _).take _
theorem ixD_eq (n : Nat) (i : Int) : ixD n i = ixN n i := rfl
theorem _root_.L2.DpAll.atI {l : List PyData} {vs : List V} {i : Int} {x : PyData} (h : DpAll K G vs l) (e : atD l i = some x) : ∃ v, atI vs i = some v ∧ Dp K G v x := by
  unfold atD at e
  unfold L2.atI
  rw [ixD_eq] at e
  rw [h.len]
  cases q : ixN l.length i with
  | none => rw [q] at e; cases e
  | some j => rw [q] at e; exact h.get e
end
theorem _root_.L2.DpAll.flatOf {K : PySem.W.Frag} {G : Hp} {vs : List V} {l : List PyData} (k : Nat) (h : DpAll K G vs l) : DpAll K G (List.replicate k vs).flatten (List.replicate k l).flatten := by
  induction k with
  | zero => simp; exact .nil
  | succ k ih => rw [List.replicate_succ, List.replicate_succ, List.flatten_cons, List.flatten_cons]; exact h.append ih

/-! ### the context -/
structure Cold (X : Cx) (T : Tab) (k : Nat) (Wx : WX) : Prop where
  hP : X.prog = T.P
  hw : X.w = T.w
  hK : X.K = T.K
  calm : X.calm = true
  room : Room k X.A
  tk : L2N.Takes X Wx
  hN : X.N.Nodup
theorem Cold.hu {X : Cx} {T : Tab} {k : Nat} {Wx : WX} (c : Cold X T k Wx) : X.A.units + 64 < cLine := c.room.units
theorem Cold.hu5 {X : Cx} {T : Tab} {k : Nat} {Wx : WX} (c : Cold X T k Wx) : X.A.units + 65 < cLine := by have := c.room.un; omega
/-- the table fits the written part -/
structure TabOk (T : Tab) : Prop where
  inj : ∀ i j, i < T.nf → j < T.nf → T.fn i = T.fn j → i = j
  lt : ∀ c f, T.has c f = true → f < T.nf
  na : ∀ c C f, T.cls c = some C → T.has c f = true → NoAttr T.K C (T.fn f)
  cl : ∀ c C f, T.cls c = some C → T.has c f = true → Cls T.K C
  mt : ∀ f m, f < T.nf → T.fn f ≠ T.mn m

/-! ### expressions -/
section
variable {X : Cx} {T : Tab} {k : Nat} {Wx : WX} {a b c : Expr} {pos : Pos} {fa fb fc : Env → List Cell → R W}
theorem d_var {i : Nat} {x : Str} (hN : X.N[i]? = some x) (hv : Vis X.env.scope x) (hd : (x == ("__debug__" : Str)) = false) (hcd : (x == ("__classdict__" : Str)) = false) :
    PE X (.Name x pos) (tE T Wx fun ρ s => match ρ[i]? with | some (some w) => .ok w s | _ => .no) :=
  PE_imp (pe_var hN hv hd hcd) fun σ H Q ⟨B, G, α, ρ, s, S, E, P⟩ => by
    simp only at P
    cases e : ρ[i]? with
    | none => rw [e] at P; exact P.elim
    | some o =>
      cases o with
      | none => rw [e] at P; exact P.elim
      | some w =>
        rw [e] at P
        obtain ⟨v, h1, h2⟩ := E.2 i w e
        exact ⟨v, h1, P.now S h2⟩
theorem d_cst {e : Expr} {x : PyData} {v : V} (h : PE X e (tC v)) (d : ∀ G, Dp T.K G v x) : PE X e (tE T Wx fun _ s => .ok (.d x) s) :=
  PE_imp h fun σ H Q ⟨B, G, α, ρ, s, S, E, P⟩ => P.now S (d G)

theorem see_tup {s : List Cell} {w : W} {l : List PyData} (h : see s w = some (.tuple l)) : w = .d (.tuple l) := by
  cases w with
  | d x => simpa [see] using h
  | h i =>
    simp only [see] at h
    split at h <;> cases h
  | o c fs => cases h
  | dc k => cases h
theorem see_tupR {B G H : Hp} {α : List Addr} {s : List Cell} (S : StM T B G H α s) {w : W} {x : PyData} {v : V} (h : see s w = some x) (r : RW T G α w v) : ∀ l, x = .tuple l → Dp T.K G v x := fun l e => by
  subst e
  rw [see_tup h] at r
  exact r
/-- the items of a list that is seen are known -/
theorem see_lst {B G H : Hp} {α : List Addr} {s : List Cell} (S : StM T B G H α s) {w : W} {l : List PyData} {v : V} (h : see s w = some (.list l)) (r : RW T G α w v) : ∃ a vs, v = .ref a ∧ SqL T.K H a vs ∧ DpAll T.K G vs l := by
  cases w with
  | d y =>
    cases h
    obtain ⟨a, vs, rfl, h1, h2⟩ := (show Dp T.K G v (.list l) from r).lst_inv
    exact ⟨a, vs, rfl, S.gh.seq h1, h2⟩
  | h i =>
    obtain ⟨a, ha, rfl⟩ := r
    simp only [see] at h
    cases e : s[i]? with
    | none => rw [e] at h; cases h
    | some c =>
      rw [e] at h
      have hc := S.cell i a c ha e
      cases c with
      | lst m =>
        cases h
        obtain ⟨hg, hb, vs, hH, hd⟩ := hc
        exact ⟨a, vs, rfl, SqL.of hH, hd⟩
      | fzl m =>
        cases h
        obtain ⟨vs, hG, hd⟩ := hc
        exact ⟨a, vs, rfl, SqL.of (S.gh _ _ hG), hd⟩
      | dct _ _ => cases h
      | lck _ _ => cases h
      | ins _ _ => cases h
      | gone => cases h
  | o c fs => cases h
  | dc k => cases h
/-- two expressions, by values seen -/
theorem two_see {f : PyData → PyData → Option PyData} {σ : L2.St} {H : Hp} {Q : VK}
    (h : tE T Wx (fun ρ s => (fa ρ s).bind fun x s => (fb ρ s).bind fun y s => match see s x, see s y with | some x, some y => lift ((f x y).map .d) s | _, _ => .no) σ H Q) :
    tE T Wx fa σ H fun u H1 => tE T Wx fb σ H1 fun v H2 => ∃ (B G : Hp) (α : List Addr) (s : List Cell) (x y z : PyData), StM T B G H2 α s ∧ Dp T.K H2 u x ∧ Dp T.K H2 v y ∧ (∀ l, x = .tuple l → Dp T.K G u x) ∧ (∀ l, y = .tuple l → Dp T.K G v y) ∧ (∀ l, x = .list l → ∃ a vs, u = .ref a ∧ SqL T.K H2 a vs ∧ DpAll T.K G vs l) ∧ (∀ l, y = .list l → ∃ a vs, v = .ref a ∧ SqL T.K H2 a vs ∧ DpAll T.K G vs l) ∧ f x y = some z ∧ Post T Wx (rW T) B G α σ (.ok (.d z) s) Q := by
  obtain ⟨B, G, α, ρ, s, S, E, P⟩ := rd_bind (rel := rW T) (f := fa) (k := fun (ρ : Env) (x : W) s => (fb ρ s).bind fun (y : W) s => match see s x, see s y with | some x, some y => lift ((f x y).map W.d) s | _, _ => R.no) h
  refine ⟨B, G, α, ρ, s, S, E, P.mono fun u H1 ⟨B1, G1, α1, ρ1, s1, w1, r1, M⟩ => ?_⟩
  obtain ⟨B2, G2, α2, ρ2, s2, S2, E2, P2⟩ := M.step (rel := rW T) (f := fb)
  refine ⟨B2, G2, α2, ρ2, s2, S2, E2, P2.mono fun v H2 ⟨G3, α3, s3, w3, x3, r3, M3⟩ => ?_⟩
  have P3 := M3.P
  cases e1 : see s3 w1 with
  | none => rw [e1] at P3; exact P3.elim
  | some x =>
    cases e2 : see s3 w3 with
    | none => rw [e1, e2] at P3; exact P3.elim
    | some y =>
      rw [e1, e2] at P3
      obtain ⟨z, hz, P4⟩ := P3.lift
      cases e3 : f x y with
      | none => rw [e3] at hz; cases hz
      | some z' =>
        rw [e3] at hz
        cases hz
        exact ⟨B1, G3, α3, s3, x, y, z', M3.S, see_ok M3.S e1 (x3.rw r1), see_ok M3.S e2 r3, see_tupR M3.S e1 (x3.rw r1), see_tupR M3.S e2 r3, fun l e => see_lst M3.S (by rw [e1, e]) (x3.rw r1), fun l e => see_lst M3.S (by rw [e2, e]) r3, e3, P4⟩
theorem divOk_ok {i j : Int} (h : divOk j = true) : CDivW i j := by
  simp only [divOk, Bool.and_eq_true, decide_eq_true_eq] at h
  exact wide_div (b := 63) h.1 (by omega) (by decide) (by decide)
theorem mulOk_ok {i j : Int} (h : mulOk i j = true) : CMul i j := by
  simpa [mulOk, CMul, Bool.or_eq_true, Bool.and_eq_true] using h
theorem powOk_ok {i j : Int} (h : powOk i j = true) : CPow i j := by
  simp only [powOk, Bool.and_eq_true, decide_eq_true_eq] at h
  exact ⟨h.1.1, h.1.2, h.2⟩
def rCatS (K : PySem.W.Frag) : R2 := fun x y H Q => ∃ l b xs zs, x = .ref l ∧ y = .ref b ∧ SqL K H l xs ∧ SqL K H b zs ∧ xs.length + zs.length ≤ sizeLine ∧ ∀ p, H p = none → Q (.ref p) (upd H p (.lst (xs ++ zs)))
theorem op_catS : OpR X (binaryOp .Add) (rCatS X.K) := by
  intro pins s σ H x y v u Q I rx ry h
  obtain ⟨l, b', xs, zs, rfl, rfl, hH, hB, hz, q⟩ := h
  have rx' : v = Value.ref l := rx
  have ry' : u = Value.ref b' := ry
  rw [rx', ry']
  obtain ⟨its, r, pl, z⟩ := I.list hH
  obtain ⟨its2, r2, pl2, z2⟩ := I.list hB
  have hl := r.length
  have hl2 := r2.length
  obtain ⟨⟨cls, dd, data, sl⟩, ho, hc, n, hd⟩ := pl.isList
  obtain ⟨⟨cls2, dd2, data2, sl2⟩, ho2, hc2, n2, hd2⟩ := pl2.isList
  simp only at hc hd hc2 hd2
  subst hc hd hc2 hd2
  have e : its.toArray ++ its2.toArray = (its ++ its2).toArray := by simp
  refine concat_meets ⟨_, ho, rfl⟩ ⟨_, ho2, rfl⟩ noFill_list_add seq_list_add PySem.F.slot_list_add PySem.F.entry_list_add (PySem.F.args_list_add_2 _ _) (PyProof.Rows.list_addW l b' its.toArray its2.toArray n n2 dd dd2 sl sl2 (by simp; omega)) ⟨ho, ho2, ?_⟩
  rw [e]
  exact ⟨.ref _, _, I.lnew (t' := s.toks) (r.append r2) (by rw [List.length_append]; omega), rfl, q _ I.fresh⟩
def opOf : BinK → Operator
  | .add => .Add
  | .sub => .Sub
  | .mul => .Mult
  | .fdiv => .FloorDiv
  | .mod => .Mod
  | .pow => .Pow
def rBin (K : PySem.W.Frag) : BinK → R2
  | .add => fun x y H Q => rI0 (fun i j => .int (i + j)) x y H Q ∨ rCatA K x y H Q ∨ rCatS K x y H Q
  | .sub => rI0 fun i j => .int (i - j)
  | .mul => fun x y H Q => rI CMul (fun i j => .int (i * j)) x y H Q ∨ rRepT K x y H Q ∨ rRepS K x y H Q
  | .fdiv => rI CDivW fun i j => .int (i / j)
  | .mod => rI (fun _ j => 0 < j) fun i j => .int (i % j)
  | .pow => rI CPow fun i j => .int (i ^ j.toNat)
theorem op_bin (op : BinK) : OpR X (binaryOp (opOf op)) (rBin X.K op) := by
  cases op with
  | add => exact op_add.or (op_catA.or op_catS)
  | sub => exact op_sub
  | mul => exact op_mul.or (op_repT.or op_repS)
  | fdiv => exact op_fdivW
  | mod => exact op_mod
  | pow => exact op_pow
theorem bin_fin {op : BinK} {B G H : Hp} {α : List Addr} {s : List Cell} {σ : L2.St} {u v : V} {x y z : PyData} {Q : VK} (S : StM T B G H α s) (hx : Dp T.K H u x) (hy : Dp T.K H v y) (h : binD op x y = some z)
    (gx : ∀ l, x = .tuple l → Dp T.K G u x) (gy : ∀ l, y = .tuple l → Dp T.K G v y)
    (lx : ∀ l, x = .list l → ∃ a vs, u = .ref a ∧ SqL T.K H a vs ∧ DpAll T.K G vs l) (ly : ∀ l, y = .list l → ∃ a vs, v = .ref a ∧ SqL T.K H a vs ∧ DpAll T.K G vs l)
    (P : Post T Wx (rW T) B G α σ (.ok (.d z) s) Q) : rBin T.K op u v H Q := by
  cases op with
  | add =>
    cases x with
    | int i =>
      cases y with
      | int j =>
        cases h
        obtain rfl := hx.int_inv
        obtain rfl := hy.int_inv
        exact .inl ⟨i, j, rfl, rfl, P.now S (.int _)⟩
      | _ => cases h
    | tuple l =>
      cases y with
      | tuple m =>
        simp only [binD] at h
        split at h
        · rename_i hz
          cases h
          have gx := gx _ rfl
          have gy := gy _ rfl
          obtain ⟨a1, vs, rfl, h1, d1⟩ := gx.tup_inv
          obtain ⟨a2, us, rfl, h2, d2⟩ := gy.tup_inv
          refine .inr (.inl ⟨a1, a2, vs, us, rfl, rfl, Same.seqT S.gh h1, Same.seqT S.gh h2, by rw [d1.len, d2.len]; exact hz, fun e => ?_, fun _ e => ?_, fun _ _ p hp => ?_⟩)
          · subst e
            cases d1
            exact P.now S (show Dp T.K G _ _ by simpa using gy)
          · subst e
            cases d2
            exact P.now S (show Dp T.K G _ _ by simpa using gx)
          · exact P.tup S (d1.append d2) hp
        · cases h
      | _ => cases h
    | list l =>
      cases y with
      | list m =>
        simp only [binD] at h
        split at h
        · rename_i hz
          cases h
          obtain ⟨a1, vs, rfl, h1, d1⟩ := lx _ rfl
          obtain ⟨a2, us, rfl, h2, d2⟩ := ly _ rfl
          exact .inr (.inr ⟨a1, a2, vs, us, rfl, rfl, h1, h2, by rw [d1.len, d2.len]; exact hz, fun p hp => P.lstD S (d1.append d2) hp⟩)
        · cases h
      | _ => cases h
    | _ => cases h
  | sub =>
    cases x with
    | int i =>
      cases y with
      | int j =>
        cases h
        obtain rfl := hx.int_inv
        obtain rfl := hy.int_inv
        exact ⟨i, j, rfl, rfl, P.now S (.int _)⟩
      | _ => cases h
    | _ => cases h
  | mul =>
    cases x with
    | int i =>
      cases y with
      | int j =>
        simp only [binD] at h
        split at h
        · rename_i hz
          cases h
          obtain rfl := hx.int_inv
          obtain rfl := hy.int_inv
          exact .inl ⟨i, j, rfl, rfl, mulOk_ok hz, P.now S (.int _)⟩
        · cases h
      | _ => cases h
    | tuple l =>
      cases y with
      | int k =>
        simp only [binD] at h
        split at h
        · rename_i hz
          cases h
          simp only [Bool.and_eq_true, decide_eq_true_eq, Bool.not_eq_true'] at hz
          obtain ⟨⟨⟨h1, h2⟩, h3⟩, h4⟩ := hz
          have gx := gx _ rfl
          obtain ⟨a1, vs, rfl, g1, d1⟩ := gx.tup_inv
          obtain rfl := hy.int_inv
          have hne : vs ≠ [] := fun e => by
            have := d1.len
            rw [e] at this
            cases l with
            | nil => cases h4
            | cons x l => simp at this
          exact .inr (.inl ⟨a1, k, vs, rfl, rfl, Same.seqT S.gh g1, hne, h1, h2, by rw [d1.len]; exact h3, fun p hp => P.tup S (d1.flatOf _) hp⟩)
        · cases h
      | _ => cases h
    | list l =>
      cases y with
      | int k =>
        simp only [binD] at h
        split at h
        · rename_i hz
          cases h
          simp only [Bool.and_eq_true, decide_eq_true_eq] at hz
          obtain ⟨a1, vs, rfl, g1, d1⟩ := lx _ rfl
          obtain rfl := hy.int_inv
          exact .inr (.inr ⟨a1, k, vs, rfl, rfl, g1, hz.1.1, hz.1.2, by rw [d1.len]; exact hz.2, fun p hp => P.lstD S (d1.flatOf _) hp⟩)
        · cases h
      | _ => cases h
    | _ => cases h
  | fdiv =>
    cases x with
    | int i =>
      cases y with
      | int j =>
        simp only [binD] at h
        split at h
        · rename_i hz
          cases h
          obtain rfl := hx.int_inv
          obtain rfl := hy.int_inv
          exact ⟨i, j, rfl, rfl, divOk_ok hz, P.now S (.int _)⟩
        · cases h
      | _ => cases h
    | _ => cases h
  | mod =>
    cases x with
    | int i =>
      cases y with
      | int j =>
        simp only [binD] at h
        split at h
        · rename_i hz
          cases h
          obtain rfl := hx.int_inv
          obtain rfl := hy.int_inv
          exact ⟨i, j, rfl, rfl, of_decide_eq_true hz, P.now S (.int _)⟩
        · cases h
      | _ => cases h
    | _ => cases h
  | pow =>
    cases x with
    | int i =>
      cases y with
      | int j =>
        simp only [binD] at h
        split at h
        · rename_i hz
          cases h
          obtain rfl := hx.int_inv
          obtain rfl := hy.int_inv
          exact ⟨i, j, rfl, rfl, powOk_ok hz, P.now S (.int _)⟩
        · cases h
      | _ => cases h
    | _ => cases h
theorem d_bin (hK : X.K = T.K) (op : BinK) (ha : PE X a (tE T Wx fa)) (hb : PE X b (tE T Wx fb)) :
    PE X (.BinOp a (opOf op) b pos) (tE T Wx fun ρ s => (fa ρ s).bind fun x s => (fb ρ s).bind fun y s => match see s x, see s y with | some x, some y => lift ((binD op x y).map .d) s | _, _ => .no) :=
  PE_imp (pe_op (hK ▸ op_bin op) ha hb) fun σ H Q h => by
    obtain ⟨B, G, α, ρ, s, S, E, P⟩ := two_see (f := binD op) h
    refine ⟨B, G, α, ρ, s, S, E, P.mono fun u H1 ⟨B, G, α, ρ, s, S, E, P⟩ => ⟨B, G, α, ρ, s, S, E, P.mono fun v H2 ⟨B, G, α, s, x, y, z, S, hx, hy, gx, gy, lx, ly, e, P⟩ => ?_⟩⟩
    exact bin_fin S hx hy e gx gy lx ly P
/-! ### comparisons -/
def cmpOf : CmpK → CmpOp
  | .eq => .Eq
  | .ne => .NotEq
  | .lt => .Lt
  | .le => .LtE
  | .gt => .Gt
  | .ge => .GtE
  | .isN => .Is
  | .notN => .IsNot
  | .in_ => .In
  | .notIn => .NotIn
theorem intsOf_map : ∀ {l : List PyData} {ns : List Int}, intsOf l = some ns → l = ns.map .int
  | [], ns, h => by cases h; rfl
  | x :: r, ns, h => by
    cases x with
    | int i =>
      simp only [intsOf] at h
      cases e : intsOf r with
      | none => rw [e] at h; cases h
      | some ms => rw [e] at h; cases h; rw [intsOf_map e]; rfl
    | _ => cases h
theorem ints_vs {K : PySem.W.Frag} {G : Hp} : ∀ {ns : List Int} {vs : List V}, DpAll K G vs (ns.map .int) → vs = ns.map V.int
  | [], vs, h => by cases h; rfl
  | n :: ns, vs, h => by
    cases h with
    | cons h1 h2 => rw [h1.int_inv, ints_vs h2]; rfl
def rCmp (K : PySem.W.Frag) : CmpK → R2
  | .eq => rEqD K
  | .ne => rNeD K
  | .lt => fun x y H Q => rI0 (fun i j => .bl (decide (i < j))) x y H Q ∨ rLtT K x y H Q
  | .le => rI0 fun i j => .bl (decide (i ≤ j))
  | .gt => rI0 fun i j => .bl (decide (j < i))
  | .ge => rI0 fun i j => .bl (decide (j ≤ i))
  | .isN => fun x y H Q => y = .non ∧ Q (.bl (decide (x = .non))) H
  | .notN => fun x y H Q => y = .non ∧ Q (.bl (!decide (x = .non))) H
  | .in_ => fun x y H Q => rInD K x y H Q ∨ rIn K false x y H Q
  | .notIn => fun x y H Q => rNotInD K x y H Q ∨ rIn K true x y H Q
theorem op_cmp (hu : X.A.units + 65 < cLine) (op : CmpK) : OpR X (compareOp (cmpOf op)) (rCmp X.K op) := by
  cases op with
  | eq => exact op_eqD (by omega)
  | ne => exact op_neD (by omega)
  | lt => exact OpR.or op_lt (op_ltT (by omega))
  | le => exact op_le
  | gt => exact op_gt
  | ge => exact op_ge
  | isN => exact op_isN
  | notN => exact op_notN
  | in_ => exact OpR.or (op_inD hu) op_in_seq
  | notIn => exact OpR.or (op_notInD hu) op_notIn_seq
theorem isNone_ok {K : PySem.W.Frag} {G : Hp} {v : V} {x : PyData} (h : Dp K G v x) : decide (v = .non) = isNone x := by
  cases h <;> simp [isNone]
theorem shaped_int (i : Int) : SeqAt.shaped (.int i) = true := by simp [SeqAt.shaped, PyData.canLay0, PyData.depth]
theorem flat_ints (ns : List Int) : (ns.map V.int).all flatV = true := by
  rw [List.all_eq_true]
  intro v hv
  obtain ⟨i, _, rfl⟩ := List.mem_map.mp hv
  rfl
theorem inV_ints (i : Int) (ns : List Int) : inV (.int i) (ns.map V.int) = ns.any fun j => decide (j = i) := by
  unfold inV
  rw [List.any_map]
  congr 1
/-- what a comparison's reading asks -/
theorem cmp_fin {op : CmpK} {H : Hp} {u v : V} {x y : PyData} {z : Bool} {Q : VK} (hx : Dp T.K H u x) (hy : Dp T.K H v y) (h : cmpD op x y = some z) (q : Q (.bl z) H) : rCmp T.K op u v H Q := by
  have gen : ∀ {op}, (op = .eq ∨ op = .ne) → cmpD op x y = some z → okD x = true ∧ okD y = true ∧ z = (if op = .eq then x.eqv y else !x.eqv y) := by
    intro op ho h
    have e1 : ∀ i j, x = .int i → y = .int j → okD x = true ∧ okD y = true ∧ z = (if op = .eq then x.eqv y else !x.eqv y) := by
      rintro i j rfl rfl
      refine ⟨shaped_int i, shaped_int j, ?_⟩
      rcases ho with rfl | rfl <;> (simp only [cmpD, Option.some.injEq] at h; rw [← h]; simp [PyData.eqv, Bool.beq_eq_decide_eq])
    rcases ho with rfl | rfl
    · cases x <;> cases y <;> first
        | exact e1 _ _ rfl rfl
        | (simp only [cmpD] at h
           split at h
           · rename_i hz
             rw [Bool.and_eq_true] at hz
             cases h
             exact ⟨hz.1, hz.2, rfl⟩
           · cases h)
    · cases x <;> cases y <;> first
        | exact e1 _ _ rfl rfl
        | (simp only [cmpD] at h
           split at h
           · rename_i hz
             rw [Bool.and_eq_true] at hz
             cases h
             exact ⟨hz.1, hz.2, rfl⟩
           · cases h)
  cases op with
  | eq =>
    obtain ⟨h1, h2, h3⟩ := gen (.inl rfl) h
    exact ⟨x, y, hx, hy, h1, h2, by rw [h3] at q; exact q⟩
  | ne =>
    obtain ⟨h1, h2, h3⟩ := gen (.inr rfl) h
    exact ⟨x, y, hx, hy, h1, h2, by rw [h3] at q; exact q⟩
  | lt =>
    cases x <;> cases y <;> first
      | (cases h; obtain rfl := hx.int_inv; obtain rfl := hy.int_inv; exact .inl ⟨_, _, rfl, rfl, q⟩)
      | (simp only [cmpD] at h
         split at h
         · rename_i a b ns ms e1 e2
           cases h
           obtain ⟨u', us, rfl, h1, h2⟩ := hx.tup_inv
           obtain ⟨v', vs, rfl, g1, g2⟩ := hy.tup_inv
           rw [intsOf_map e1] at h2
           rw [intsOf_map e2] at g2
           rw [ints_vs h2] at h1
           rw [ints_vs g2] at g1
           exact .inr ⟨u', v', ns, ms, rfl, rfl, h1, g1, q⟩
         · cases h)
      | cases h
  | le =>
    cases x <;> cases y <;> first
      | (cases h; obtain rfl := hx.int_inv; obtain rfl := hy.int_inv; exact ⟨_, _, rfl, rfl, q⟩)
      | cases h
  | gt =>
    cases x <;> cases y <;> first
      | (cases h; obtain rfl := hx.int_inv; obtain rfl := hy.int_inv; exact ⟨_, _, rfl, rfl, q⟩)
      | cases h
  | ge =>
    cases x <;> cases y <;> first
      | (cases h; obtain rfl := hx.int_inv; obtain rfl := hy.int_inv; exact ⟨_, _, rfl, rfl, q⟩)
      | cases h
  | isN =>
    cases y with
    | none =>
      obtain rfl := hy.non_inv
      refine ⟨rfl, ?_⟩
      rw [isNone_ok hx]
      simp only [cmpD, Option.some.injEq] at h
      rw [h]
      exact q
    | _ => cases x <;> cases h
  | notN =>
    cases y with
    | none =>
      obtain rfl := hy.non_inv
      refine ⟨rfl, ?_⟩
      rw [isNone_ok hx]
      simp only [cmpD, Option.some.injEq] at h
      rw [h]
      exact q
    | _ => cases x <;> cases h
  | in_ =>
    cases y with
    | list l =>
      have h : (if okD x && okD (.list l) then some (l.any fun w => w.eqv x) else none) = some z := by cases x <;> exact h
      split at h
      · rename_i hz
        rw [Bool.and_eq_true] at hz
        cases h
        exact .inl ⟨x, l, hx, hy, hz.1, hz.2, q⟩
      · cases h
    | tuple l =>
      cases x <;> first | (cases h; done) | skip
      rename_i i
      simp only [cmpD] at h
      cases e : intsOf l with
      | none => rw [e] at h; cases h
      | some ns =>
        rw [e] at h
        cases h
        obtain rfl := hx.int_inv
        obtain ⟨a, vs, rfl, g1, g2⟩ := hy.tup_inv
        rw [intsOf_map e] at g2
        rw [ints_vs g2] at g1
        refine .inr ⟨a, _, rfl, .inr g1, rfl, flat_ints ns, ?_⟩
        rw [inV_ints]
        exact q
    | _ => cases x <;> cases h
  | notIn =>
    cases y with
    | list l =>
      have h : (if okD x && okD (.list l) then some (!l.any fun w => w.eqv x) else none) = some z := by cases x <;> exact h
      split at h
      · rename_i hz
        rw [Bool.and_eq_true] at hz
        cases h
        exact .inl ⟨x, l, hx, hy, hz.1, hz.2, q⟩
      · cases h
    | tuple l =>
      cases x <;> first | (cases h; done) | skip
      rename_i i
      simp only [cmpD] at h
      cases e : intsOf l with
      | none => rw [e] at h; cases h
      | some ns =>
        rw [e] at h
        cases h
        obtain rfl := hx.int_inv
        obtain ⟨a, vs, rfl, g1, g2⟩ := hy.tup_inv
        rw [intsOf_map e] at g2
        rw [ints_vs g2] at g1
        refine .inr ⟨a, _, rfl, .inr g1, rfl, flat_ints ns, ?_⟩
        rw [inV_ints]
        exact q
    | _ => cases x <;> cases h
/-- a comparison's function -/
def fCmp (op : CmpK) (fa fb : Env → List Cell → R W) : Env → List Cell → R W := fun ρ s => (fa ρ s).bind fun x s => (fb ρ s).bind fun y s => match see s x, see s y with
  | some x, some y => lift ((cmpD op x y).map fun b => .d (.bool b)) s
  | _, _ => .no
theorem cmp_read {op : CmpK} {σ : L2.St} {H : Hp} {Q : VK} (h : tE T Wx (fCmp op fa fb) σ H Q) : tOp (rCmp T.K op) (tE T Wx fa) (tE T Wx fb) σ H fun x H1 => ∃ k, x = .bl k ∧ Q (.bl k) H1 := by
  have h' : tE T Wx (fun ρ s => (fa ρ s).bind fun x s => (fb ρ s).bind fun y s => match see s x, see s y with | some x, some y => lift (((cmpD op x y).map PyData.bool).map W.d) s | _, _ => .no) σ H Q := by
    obtain ⟨B, G, α, ρ, s, S, E, P⟩ := h
    refine ⟨B, G, α, ρ, s, S, E, ?_⟩
    simp only [fCmp] at P
    simpa only [Option.map_map, Function.comp_def] using P
  obtain ⟨B, G, α, ρ, s, S, E, P⟩ := two_see (f := fun x y => (cmpD op x y).map PyData.bool) h'
  refine ⟨B, G, α, ρ, s, S, E, P.mono fun u H1 ⟨B, G, α, ρ, s, S, E, P⟩ => ⟨B, G, α, ρ, s, S, E, P.mono fun v H2 ⟨B, G, α, s, x, y, z, S, hx, hy, gx, gy, lx, ly, e, P⟩ => ?_⟩⟩
  cases e1 : cmpD op x y with
  | none => rw [e1] at e; cases e
  | some k =>
    rw [e1] at e
    cases e
    exact cmp_fin hx hy e1 ⟨k, rfl, P.now S (show Dp T.K _ _ _ from .bl k)⟩
theorem rCmp_mono {K : PySem.W.Frag} {op : CmpK} {x y : V} {H : Hp} {Q Q' : VK} (h : rCmp K op x y H Q) (i : ∀ v H, Q v H → Q' v H) : rCmp K op x y H Q' := by
  cases op with
  | eq => obtain ⟨d, e, h1, h2, h3, h4, q⟩ := h; exact ⟨d, e, h1, h2, h3, h4, i _ _ q⟩
  | ne => obtain ⟨d, e, h1, h2, h3, h4, q⟩ := h; exact ⟨d, e, h1, h2, h3, h4, i _ _ q⟩
  | lt =>
    rcases h with ⟨d, e, h1, h2, q⟩ | ⟨a, b, ns, ms, h1, h2, h3, h4, q⟩
    · exact .inl ⟨d, e, h1, h2, i _ _ q⟩
    · exact .inr ⟨a, b, ns, ms, h1, h2, h3, h4, i _ _ q⟩
  | le => obtain ⟨d, e, h1, h2, q⟩ := h; exact ⟨d, e, h1, h2, i _ _ q⟩
  | gt => obtain ⟨d, e, h1, h2, q⟩ := h; exact ⟨d, e, h1, h2, i _ _ q⟩
  | ge => obtain ⟨d, e, h1, h2, q⟩ := h; exact ⟨d, e, h1, h2, i _ _ q⟩
  | isN => exact ⟨h.1, i _ _ h.2⟩
  | notN => exact ⟨h.1, i _ _ h.2⟩
  | in_ =>
    rcases h with ⟨d, e, h1, h2, h3, h4, q⟩ | ⟨p, xs, h1, h2, h3, h4, q⟩
    · exact .inl ⟨d, e, h1, h2, h3, h4, i _ _ q⟩
    · exact .inr ⟨p, xs, h1, h2, h3, h4, i _ _ q⟩
  | notIn =>
    rcases h with ⟨d, e, h1, h2, h3, h4, q⟩ | ⟨p, xs, h1, h2, h3, h4, q⟩
    · exact .inl ⟨d, e, h1, h2, h3, h4, i _ _ q⟩
    · exact .inr ⟨p, xs, h1, h2, h3, h4, i _ _ q⟩
theorem tE_mono {f : Env → List Cell → R W} {σ : L2.St} {H : Hp} {Q Q' : VK} (h : tE T Wx f σ H Q) (i : ∀ v H, Q v H → Q' v H) : tE T Wx f σ H Q' := by
  obtain ⟨B, G, α, ρ, s, S, E, P⟩ := h
  exact ⟨B, G, α, ρ, s, S, E, P.mono i⟩
theorem d_cmp (hK : X.K = T.K) (hu : X.A.units + 65 < cLine) (op : CmpK) (ha : PE X a (tE T Wx fa)) (hb : PE X b (tE T Wx fb)) (hm : behindInMarks (cmpOf op) b = false) : PE X (.Compare a [cmpOf op] [b] pos) (tE T Wx (fCmp op fa fb)) :=
  PE_imp (pe_cmpR (hK ▸ op_cmp hu op) ha hb hm) fun σ H Q h => by
    have q := cmp_read h
    exact tE_mono q fun u H1 q => tE_mono q fun v H2 q => rCmp_mono q fun w H3 ⟨k, e, q⟩ => by rw [e]; exact q
/-- as a test -/
def fT (f : Env → List Cell → R W) : Env → List Cell → R Bool := fun ρ s => (f ρ s).bind tt
theorem tT_of {f : Env → List Cell → R W} {σ : L2.St} {H : Hp} {Q : Bool → Hp → Prop} (h : tT T Wx (fT f) σ H Q) : tE T Wx f σ H fun x H1 => ∃ k, x = .bl k ∧ Q k H1 := by
  obtain ⟨B, G, α, ρ, s, S, E, P⟩ := h
  refine ⟨B, G, α, ρ, s, S, E, ?_⟩
  simp only [fT] at P
  cases e : f ρ s with
  | ok w s1 =>
    rw [e] at P
    intro G1 α1 H1 v x S1 r
    simp only [R.bind_ok] at P
    cases w with
    | d y =>
      cases y with
      | bool k =>
        obtain rfl := (show Dp T.K _ _ _ from r).bl_inv
        exact ⟨k, rfl, P G1 α1 H1 k x S1 rfl⟩
      | _ => exact P.elim
    | _ => exact P.elim
  | ex z s1 => rw [e] at P; exact P
  | no => rw [e] at P; exact P
theorem d_cmpT (hK : X.K = T.K) (hu : X.A.units + 65 < cLine) (op : CmpK) (ha : PE X a (tE T Wx fa)) (hb : PE X b (tE T Wx fb)) (hm : behindInMarks (cmpOf op) b = false) : PT X (.Compare a [cmpOf op] [b] pos) (tT T Wx (fT (fCmp op fa fb))) :=
  PT_imp (pt_cmpR (hK ▸ op_cmp hu op) ha hb hm) fun σ H Q h => by
    have q := cmp_read (tT_of h)
    show tE T Wx fa σ H _
    exact tE_mono q fun u H1 q => tE_mono q fun v H2 q => rCmp_mono q fun w H3 ⟨k, e, k', e', q⟩ => by
      cases e'
      exact ⟨k, e, q⟩
/-- another expression that gives True or False, as a test -/
theorem d_val {e : Expr} {f : Env → List Cell → R W} (h : PE X e (tE T Wx f)) (he : ∀ whole, isTrue e X.env whole = (do let v ← whole; standAt e.pos; holding [v] (truthy v))) : PT X e (tT T Wx (fT f)) :=
  PT_imp (pt_val h he) fun σ H Q q => tT_of q
end
end DM

set_option maxRecDepth 100000
/-! DM4: tests, displays, places, fields. -/
namespace DM
open PySem PySem.Spec PyProof.Rows L2
section
variable {X : Cx} {T : Tab} {k : Nat} {Wx : WX} {a b c : Expr} {pos : Pos} {fa fb fc : Env → List Cell → R W}
theorem R.bind_assoc {β γ δ : Type} (r : R β) (f : β → List Cell → R γ) (g : γ → List Cell → R δ) : (r.bind f).bind g = r.bind fun b s => (f b s).bind g := by cases r <;> rfl
theorem rd_congr {β γ : Type} {rel : Rel β γ} {f g : Env → List Cell → R β} {σ : L2.St} {H : Hp} {Q : γ → Hp → Prop} (h : rd T Wx rel f σ H Q) (e : ∀ ρ s, f ρ s = g ρ s) : rd T Wx rel g σ H Q := by
  obtain ⟨B, G, α, ρ, s, S, E, P⟩ := h
  exact ⟨B, G, α, ρ, s, S, E, by rw [← e]; exact P⟩
theorem rd_mono {β γ : Type} {rel : Rel β γ} {f : Env → List Cell → R β} {σ : L2.St} {H : Hp} {Q Q' : γ → Hp → Prop} (h : rd T Wx rel f σ H Q) (i : ∀ v H, Q v H → Q' v H) : rd T Wx rel f σ H Q' := by
  obtain ⟨B, G, α, ρ, s, S, E, P⟩ := h
  exact ⟨B, G, α, ρ, s, S, E, P.mono i⟩
theorem rd_of {β γ : Type} {rel : Rel β γ} {B G : Hp} {α : List Addr} {ρ : Env} {s : List Cell} {σ : L2.St} {H : Hp} {f : Env → List Cell → R β} {Q : γ → Hp → Prop} (M : Mid T Wx rel B G α ρ s σ H (f ρ) Q) : rd T Wx rel f σ H Q := ⟨B, G, α, ρ, s, M.S, M.E, M.P⟩
/-! ### and, or, not -/
def fAnd (fa fb : Env → List Cell → R W) : Env → List Cell → R W := fun ρ s => (fa ρ s).bind fun x s => (tt x s).bind fun c s => if c then fb ρ s else .ok (.d (.bool false)) s
def fOr (fa fb : Env → List Cell → R W) : Env → List Cell → R W := fun ρ s => (fa ρ s).bind fun x s => (tt x s).bind fun c s => if c then .ok (.d (.bool true)) s else fb ρ s
def fNot (fa : Env → List Cell → R W) : Env → List Cell → R W := fun ρ s => (fa ρ s).bind fun x s => (tt x s).bind fun c s => .ok (.d (.bool (!c))) s
def fIte (fc fa fb : Env → List Cell → R W) : Env → List Cell → R W := fun ρ s => (fc ρ s).bind fun x s => (tt x s).bind fun c s => if c then fa ρ s else fb ρ s
theorem tt_bool (k : Bool) (s : List Cell) : tt (.d (.bool k)) s = .ok k s := rfl
theorem fT_and (ρ : Env) (s : List Cell) : fT (fAnd fa fb) ρ s = (fT fa ρ s).bind fun c s => if c then fT fb ρ s else .ok false s := by
  simp only [fT, fAnd, R.bind_assoc]
  congr; funext x s; congr; funext c s
  cases c <;> simp [tt_bool]
theorem fT_or (ρ : Env) (s : List Cell) : fT (fOr fa fb) ρ s = (fT fa ρ s).bind fun c s => if c then .ok true s else fT fb ρ s := by
  simp only [fT, fOr, R.bind_assoc]
  congr; funext x s; congr; funext c s
  cases c <;> simp [tt_bool]
theorem fT_not (ρ : Env) (s : List Cell) : fT (fNot fa) ρ s = (fT fa ρ s).bind fun c s => .ok (!c) s := by
  simp only [fT, fNot, R.bind_assoc]
  congr
theorem fAnd_eq (ρ : Env) (s : List Cell) : fAnd fa fb ρ s = (fT fa ρ s).bind fun c s => if c then fb ρ s else .ok (.d (.bool false)) s := by
  simp only [fT, fAnd, R.bind_assoc]
theorem fOr_eq (ρ : Env) (s : List Cell) : fOr fa fb ρ s = (fT fa ρ s).bind fun c s => if c then .ok (.d (.bool true)) s else fb ρ s := by
  simp only [fT, fOr, R.bind_assoc]
theorem fNot_eq (ρ : Env) (s : List Cell) : fNot fa ρ s = (fT fa ρ s).bind fun c s => .ok (.d (.bool (!c))) s := by
  simp only [fT, fNot, R.bind_assoc]
theorem fIte_eq (ρ : Env) (s : List Cell) : fIte fc fa fb ρ s = (fT fc ρ s).bind fun c s => if c then fa ρ s else fb ρ s := by
  simp only [fT, fIte, R.bind_assoc]
/-- a test, then the rest -/
theorem test_bind {δ ε : Type} {rel' : Rel δ ε} {f : Env → List Cell → R Bool} {k : Env → Bool → List Cell → R δ} {σ : L2.St} {H : Hp} {Q : ε → Hp → Prop} (h : rd T Wx rel' (fun ρ s => (f ρ s).bind (k ρ)) σ H Q) :
    tT T Wx f σ H fun c H1 => rd T Wx rel' (fun ρ s => k ρ c s) σ H1 Q := by
  refine rd_mono (rd_bind (rel := rB) h) fun c H1 ⟨B, G, α, ρ, s, b, r, M⟩ => ?_
  obtain rfl : b = c := r
  exact ⟨B, G, α, ρ, s, M.S, M.E, M.P⟩
theorem d_andT {rest : List Expr} {q : Expr} (ha : PT X a (tT T Wx (fT fa))) (hb : PW X (.BoolOp .And (b :: rest) pos) (tT T Wx (fT fb))) : PW X (.BoolOp .And (a :: b :: rest) pos) (tT T Wx (fT (fAnd fa fb))) := by
  have h := pw_and ha hb
  refine ⟨fun wh pins s σ H Q I q => h.run wh pins s σ H Q I ?_⟩
  have q2 := test_bind (f := fT fa) (k := fun ρ c s => if c then fT fb ρ s else .ok false s) (rd_congr q fT_and)
  refine rd_mono q2 fun c H1 q3 => ?_
  cases c with
  | true => exact iteT (rd_congr q3 fun _ _ => by simp)
  | false =>
    obtain ⟨B, G, α, ρ, s, S, E, P⟩ := q3
    exact iteF (P.now S rfl)
theorem d_orT {rest : List Expr} (ha : PT X a (tT T Wx (fT fa))) (hb : PW X (.BoolOp .Or (b :: rest) pos) (tT T Wx (fT fb))) : PW X (.BoolOp .Or (a :: b :: rest) pos) (tT T Wx (fT (fOr fa fb))) := by
  have h := pw_or ha hb
  refine ⟨fun wh pins s σ H Q I q => h.run wh pins s σ H Q I ?_⟩
  have q2 := test_bind (f := fT fa) (k := fun ρ c s => if c then .ok true s else fT fb ρ s) (rd_congr q fT_or)
  refine rd_mono q2 fun c H1 q3 => ?_
  cases c with
  | false => exact iteF (rd_congr q3 fun _ _ => by simp)
  | true =>
    obtain ⟨B, G, α, ρ, s, S, E, P⟩ := q3
    exact iteT (P.now S rfl)
theorem d_notT (ha : PT X a (tT T Wx (fT fa))) : PT X (.UnaryOp .Not a pos) (tT T Wx (fT (fNot fa))) :=
  PT_imp (pt_not ha) fun σ H Q q => by
    have q2 := test_bind (f := fT fa) (k := fun ρ c s => .ok (!c) s) (rd_congr q fT_not)
    exact rd_mono q2 fun c H1 ⟨B, G, α, ρ, s, S, E, P⟩ => P.now S rfl
theorem tE_bl {f : Env → List Cell → R W} {σ : L2.St} {H : Hp} {Q : Bool → Hp → Prop} (h : tT T Wx (fT f) σ H Q) : tE T Wx f σ H fun x H1 => ∃ c, x = .bl c ∧ Q c H1 := tT_of h
theorem d_and {rest : List Expr} (ha : PE X a (tE T Wx fa)) (hb : PE X (.BoolOp .And (b :: rest) pos) (tE T Wx fb)) : PE X (.BoolOp .And (a :: b :: rest) pos) (tE T Wx (fAnd fa fb)) :=
  PE_imp (pe_and ha hb) fun σ H Q q => by
    have q2 := test_bind (f := fT fa) (k := fun ρ c s => if c then fb ρ s else .ok (.d (.bool false)) s) (rd_congr q fAnd_eq)
    refine tE_mono (tE_bl q2) fun x H1 ⟨c, e, q3⟩ => ⟨c, e, ?_⟩
    cases c with
    | true => exact iteT (rd_congr q3 fun _ _ => by simp)
    | false =>
      obtain ⟨B, G, α, ρ, s, S, E, P⟩ := q3
      exact iteF (P.now S (show Dp T.K _ _ _ from .bl _))
theorem d_or {rest : List Expr} (ha : PE X a (tE T Wx fa)) (hb : PE X (.BoolOp .Or (b :: rest) pos) (tE T Wx fb)) : PE X (.BoolOp .Or (a :: b :: rest) pos) (tE T Wx (fOr fa fb)) :=
  PE_imp (pe_or ha hb) fun σ H Q q => by
    have q2 := test_bind (f := fT fa) (k := fun ρ c s => if c then .ok (.d (.bool true)) s else fb ρ s) (rd_congr q fOr_eq)
    refine tE_mono (tE_bl q2) fun x H1 ⟨c, e, q3⟩ => ⟨c, e, ?_⟩
    cases c with
    | false => exact iteF (rd_congr q3 fun _ _ => by simp)
    | true =>
      obtain ⟨B, G, α, ρ, s, S, E, P⟩ := q3
      exact iteT (P.now S (show Dp T.K _ _ _ from .bl _))
theorem d_not (ha : PE X a (tE T Wx fa)) : PE X (.UnaryOp .Not a pos) (tE T Wx (fNot fa)) :=
  PE_imp (pe_not ha) fun σ H Q q => by
    have q2 := test_bind (f := fT fa) (k := fun ρ c s => .ok (.d (.bool (!c))) s) (rd_congr q fNot_eq)
    exact tE_mono (tE_bl q2) fun x H1 ⟨c, e, B, G, α, ρ, s, S, E, P⟩ => ⟨c, e, P.now S (show Dp T.K _ _ _ from .bl _)⟩
theorem d_ite (hc : PT X c (tT T Wx (fT fc))) (ha : PE X a (tE T Wx fa)) (hb : PE X b (tE T Wx fb)) : PE X (.IfExp c a b pos) (tE T Wx (fIte fc fa fb)) :=
  PE_imp (pe_ifExp hc ha hb) fun σ H Q q => by
    have q2 := test_bind (f := fT fc) (k := fun ρ c s => if c then fa ρ s else fb ρ s) (rd_congr q fIte_eq)
    refine rd_mono q2 fun c H1 q3 => ?_
    cases c with
    | true => exact iteT (rd_congr q3 fun _ _ => by simp)
    | false => exact iteF (rd_congr q3 fun _ _ => by simp)
/-! ### a < b < c -/
def fChain (op op' : CmpK) (fa fb fc : Env → List Cell → R W) : Env → List Cell → R W := fun ρ s => (fa ρ s).bind fun x s => (fb ρ s).bind fun y s => match see s x, see s y with
    | some x', some y' => match cmpD op x' y' with
      | some true => (fc ρ s).bind fun z s => match see s y, see s z with
        | some y, some z => lift ((cmpD op' y z).map fun b => .d (.bool b)) s
        | _, _ => .no
      | some false => .ok (.d (.bool false)) s
      | none => .no
    | _, _ => .no
theorem chain_read {op op' : CmpK} {σ : L2.St} {H : Hp} {Q : VK} (h : tE T Wx (fChain op op' fa fb fc) σ H Q) : tChain (rCmp T.K op) (rCmp T.K op') (tE T Wx fa) (tE T Wx fb) (tE T Wx fc) σ H fun x H1 => ∃ k, x = .bl k ∧ Q (.bl k) H1 := by
  refine rd_mono (rd_bind (rel := rW T) (f := fa) h) fun u H1 ⟨B, G, α, ρ, s, x, rx, M⟩ => ?_
  obtain ⟨B1, G1, α1, ρ1, s1, S, E, P⟩ := M.step (rel := rW T) (f := fb)
  refine ⟨B1, G1, α1, ρ1, s1, S, E, P.mono fun v H2 ⟨G2, α2, s2, y, x2, ry, M2⟩ => ?_⟩
  have rx2 := x2.rw rx
  have P2 := M2.P
  cases e1 : see s2 x with
  | none => rw [e1] at P2; exact P2.elim
  | some x' =>
    cases e2 : see s2 y with
    | none => rw [e1, e2] at P2; exact P2.elim
    | some y' =>
      rw [e1, e2] at P2
      simp only at P2
      cases e3 : cmpD op x' y' with
      | none => rw [e3] at P2; exact P2.elim
      | some kb =>
        rw [e3] at P2
        refine cmp_fin (see_ok M2.S e1 rx2) (see_ok M2.S e2 ry) e3 ⟨kb, rfl, ?_⟩
        cases kb with
        | false => exact iteF ⟨false, rfl, P2.now M2.S (show Dp T.K _ _ _ from .bl _)⟩
        | true =>
          refine iteT ?_
          have M3 : Mid T Wx (rW T) B G2 α2 ρ s2 σ H2 (fun s => (fc ρ s).bind fun z s => match see s y, see s z with | some y, some z => lift ((cmpD op' y z).map fun b => W.d (.bool b)) s | _, _ => R.no) Q := ⟨M2.S, M2.E, P2⟩
          obtain ⟨B3, G3, α3, ρ3, s3, S3, E3, P3⟩ := M3.step (rel := rW T) (f := fc)
          refine ⟨B3, G3, α3, ρ3, s3, S3, E3, P3.mono fun w H4 ⟨G4, α4, s4, z, x4, rz, M4⟩ => ?_⟩
          have ry4 := x4.rw ry
          have P4 := M4.P
          cases e4 : see s4 y with
          | none => rw [e4] at P4; exact P4.elim
          | some y4 =>
            cases e5 : see s4 z with
            | none => rw [e4, e5] at P4; exact P4.elim
            | some z4 =>
              rw [e4, e5] at P4
              obtain ⟨wv, hw, P5⟩ := P4.lift
              cases e6 : cmpD op' y4 z4 with
              | none => rw [e6] at hw; cases hw
              | some k2 =>
                rw [e6] at hw
                cases hw
                exact cmp_fin (see_ok M4.S e4 ry4) (see_ok M4.S e5 rz) e6 ⟨k2, rfl, P5.now M4.S (show Dp T.K _ _ _ from .bl _)⟩
theorem tChain_mono {op op' : CmpK} {K : PySem.W.Frag} {σ : L2.St} {H : Hp} {Q Q' : VK} (h : tChain (rCmp K op) (rCmp K op') (tE T Wx fa) (tE T Wx fb) (tE T Wx fc) σ H Q) (i : ∀ v H, Q v H → Q' v H) : tChain (rCmp K op) (rCmp K op') (tE T Wx fa) (tE T Wx fb) (tE T Wx fc) σ H Q' :=
  tE_mono h fun u H1 h => tE_mono h fun v H2 h => rCmp_mono h fun w H3 ⟨kb, e, h⟩ => ⟨kb, e, by
    cases kb with
    | false =>
      have h' := h
      rw [if_neg Bool.false_ne_true] at h'
      exact iteF (i _ _ h')
    | true =>
      have h' := h
      rw [if_pos rfl] at h'
      exact iteT (tE_mono h' fun v4 H4 h => rCmp_mono h i)⟩
theorem last_ok {op op' : CmpK} (hb : behindInMarks (cmpOf op') c = false) : lastMarks [cmpOf op, cmpOf op'] [b, c] = false := by
  show lastMarks [cmpOf op'] [c] = false
  exact hb
theorem d_chain (hK : X.K = T.K) (hu : X.A.units + 65 < cLine) (op op' : CmpK) (ha : PE X a (tE T Wx fa)) (hb : PE X b (tE T Wx fb)) (hc : PE X c (tE T Wx fc)) (hm : behindInMarks (cmpOf op') c = false) :
    PE X (.Compare a [cmpOf op, cmpOf op'] [b, c] pos) (tE T Wx (fChain op op' fa fb fc)) :=
  PE_imp (pe_chain (hK ▸ op_cmp hu op) (hK ▸ op_cmp hu op') ha hb hc (last_ok hm)) fun σ H Q h => tChain_mono (chain_read h) fun v H1 ⟨k, e, q⟩ => by rw [e]; exact q
theorem d_chainT (hK : X.K = T.K) (hu : X.A.units + 65 < cLine) (op op' : CmpK) (ha : PE X a (tE T Wx fa)) (hb : PE X b (tE T Wx fb)) (hc : PE X c (tE T Wx fc)) (hm : behindInMarks (cmpOf op') c = false) :
    PT X (.Compare a [cmpOf op, cmpOf op'] [b, c] pos) (tT T Wx (fT (fChain op op' fa fb fc))) :=
  PT_imp (pt_chain (hK ▸ op_cmp hu op) (hK ▸ op_cmp hu op') ha hb hc (last_ok hm)) fun σ H Q h => tChain_mono (chain_read (tT_of h)) fun v H1 ⟨k, e, k', e', q⟩ => by
    cases e'
    exact ⟨k, e, q⟩
/-! ### argument lists -/
theorem d_nil : PA X [] (tA T Wx fun _ s => .ok [] s) := PA_imp pa_nil fun σ H Q ⟨B, G, α, ρ, s, S, E, P⟩ => P.now S (show RWs T _ _ _ _ from .nil)
def fCons (fe : Env → List Cell → R W) (fes : Env → List Cell → R (List W)) : Env → List Cell → R (List W) := fun ρ s => (fe ρ s).bind fun w s => (fes ρ s).bind fun ws s => .ok (w :: ws) s
theorem d_cons {e : Expr} {es : List Expr} {fe : Env → List Cell → R W} {fes : Env → List Cell → R (List W)} (he : PE X e (tE T Wx fe)) (hes : PA X es (tA T Wx fes)) (hs : starEach (e :: es) X.env = (false, eval e X.env) :: starEach es X.env) :
    PA X (e :: es) (tA T Wx (fCons fe fes)) := PA_imp (pa_cons he hes hs) fun σ H Q h => by
  refine rd_mono (rd_bind (rel := rW T) (f := fe) h) fun u H1 ⟨B, G, α, ρ, s, x, rx, M⟩ => ?_
  obtain ⟨B, G1, α, ρ, s, S, E, P⟩ := M.step (rel := rWs T) (f := fes)
  refine ⟨B, G1, α, ρ, s, S, E, P.mono fun v H2 ⟨G2, α2, s2, y, x2, ry, M2⟩ => ?_⟩
  exact M2.P.now M2.S (show RWs T _ _ _ _ from .cons (x2.rw rx) ry)
theorem frzs_at {B G H : Hp} {α : List Addr} {s : List Cell} {ws : List W} {vs : List V} {σ : L2.St} {β γ : Type} {rel : Rel β γ} {k : List PyData → List Cell → R β} {Q : γ → Hp → Prop} (S : StM T B G H α s) (r : RWs T G α ws vs)
    (P : Post T Wx rel B G α σ ((frzsR ws s).bind k) Q) : ∃ G' s' xs, Ext B G α G' α ∧ StM T B G' H α s' ∧ DpAll T.K G' vs xs ∧ Post T Wx rel B G' α σ (k xs s') Q := by
  simp only [frzsR] at P
  cases e : frzAll s ws with
  | none => rw [e] at P; exact P.elim
  | some p =>
    obtain ⟨xs, s'⟩ := p
    rw [e] at P
    obtain ⟨G', x, S', d⟩ := frzAll_ok S e r
    exact ⟨G', s', xs, x, S', d, P.ext x⟩
theorem frz_at {B G H : Hp} {α : List Addr} {s : List Cell} {w : W} {v : V} {σ : L2.St} {β γ : Type} {rel : Rel β γ} {k : PyData → List Cell → R β} {Q : γ → Hp → Prop} (S : StM T B G H α s) (r : RW T G α w v)
    (P : Post T Wx rel B G α σ ((frzR w s).bind k) Q) : ∃ G' s' x, Ext B G α G' α ∧ StM T B G' H α s' ∧ Dp T.K G' v x ∧ Post T Wx rel B G' α σ (k x s') Q := by
  simp only [frzR] at P
  cases e : frz s w with
  | none => rw [e] at P; exact P.elim
  | some p =>
    obtain ⟨xs, s'⟩ := p
    rw [e] at P
    obtain ⟨G', x, S', d⟩ := frz_ok S e r
    exact ⟨G', s', xs, x, S', d, P.ext x⟩
def fTup (fes : Env → List Cell → R (List W)) : Env → List Cell → R W := fun ρ s => (fes ρ s).bind fun ws s => (frzsR ws s).bind fun xs s => if xs.length ≤ sizeLine then .ok (.d (.tuple xs)) s else .no
theorem d_tup {es : List Expr} {x1 : Nat} {fes : Env → List Cell → R (List W)} (h : PA X es (tA T Wx fes)) : PE X (.Tuple es x1 pos) (tE T Wx (fTup fes)) :=
  PE_imp (pe_tup h) fun σ H Q q => by
    refine rd_mono (rd_bind (rel := rWs T) (f := fes) q) fun us H1 ⟨B, G, α, ρ, s, ws, r, M⟩ => ?_
    obtain ⟨G', s', xs, x, S', d, P⟩ := frzs_at M.S r M.P
    by_cases hz : xs.length ≤ sizeLine
    · rw [if_pos hz] at P
      exact ⟨by rw [d.len]; exact hz, fun p hp => P.tup S' d hp⟩
    · rw [if_neg hz] at P
      exact P.elim
def fLst (fes : Env → List Cell → R (List W)) : Env → List Cell → R (List PyData) := fun ρ s => (fes ρ s).bind fun ws s => (frzsR ws s).bind fun xs s => if xs.length ≤ sizeLine then .ok xs s else .no
theorem d_lst {es : List Expr} {fes : Env → List Cell → R (List W)} (h : PA X es (tA T Wx fes)) : PE X (.List es pos) (tF T Wx (fLst fes)) :=
  PE_imp (pe_lst h) fun σ H Q q => by
    refine rd_mono (rd_bind (rel := rWs T) (f := fes) q) fun us H1 ⟨B, G, α, ρ, s, ws, r, M⟩ => ?_
    obtain ⟨G', s', xs, x, S', d, P⟩ := frzs_at M.S r M.P
    by_cases hz : xs.length ≤ sizeLine
    · rw [if_pos hz] at P
      exact ⟨by rw [d.len]; exact hz, fun p hp => P.lst S' d hp⟩
    · rw [if_neg hz] at P
      exact P.elim
/-! ### a new list: frozen, or a cell -/
theorem freezeF {B G H : Hp} {α : List Addr} {s : List Cell} {l : List PyData} {v : V} (S : StM T B G H α s) (r : rF T B G α H l v) : ∃ G', Ext B G α G' α ∧ StM T B G' H α s ∧ Dp T.K G' v (.list l) := by
  obtain ⟨a, vs, rfl, hH, hg, hb, ha, d⟩ := r
  refine ⟨upd G a (.lst vs), Ext.pure hg hb, S.know (Same.upd hg) (fun b u e => ?_) (fun b hb' e => ?_), .lst (SqL.of upd_same) (DpAll.mono (Same.upd hg) _ _ d)⟩
  · by_cases hb' : b = a
    · subst hb'; rw [upd_same] at e; cases e; exact hH
    · rw [upd_ne hb'] at e; exact S.gh b u e
  · rw [upd_ne]
    · exact e
    · rintro rfl; exact ha hb'
theorem pushF {B G H : Hp} {α : List Addr} {s : List Cell} {l : List PyData} {v : V} (S : StM T B G H α s) (r : rF T B G α H l v) : ∃ a, v = .ref a ∧ StM T B G H (α ++ [a]) (s ++ [.lst l]) := by
  obtain ⟨a, vs, rfl, hH, hg, hb, ha, d⟩ := r
  exact ⟨a, rfl, S.push ha ⟨hg, hb, vs, hH, d⟩⟩
theorem d_fr {e : Expr} {f : Env → List Cell → R (List PyData)} (h : PE X e (tF T Wx f)) : PE X e (tE T Wx fun ρ s => (f ρ s).bind fun l s => .ok (.d (.list l)) s) :=
  PE_imp h fun σ H Q q => by
    refine rd_mono (rd_bind (rel := rF T) (f := f) q) fun v H1 ⟨B, G, α, ρ, s, l, r, M⟩ => ?_
    obtain ⟨G', x, S', d⟩ := freezeF M.S r
    exact M.P.at x S' d
theorem d_frz {e : Expr} {f : Env → List Cell → R W} (h : PE X e (tE T Wx f)) : PE X e (tE T Wx fun ρ s => (f ρ s).bind fun w s => (frzR w s).bind fun x s => .ok (.d x) s) :=
  PE_imp h fun σ H Q q => by
    refine rd_mono (rd_bind (rel := rW T) (f := f) q) fun v H1 ⟨B, G, α, ρ, s, w, r, M⟩ => ?_
    obtain ⟨G', s', x, x1, S', d, P⟩ := frz_at M.S r M.P
    exact P.now S' (show RW T G' α (.d x) v from d)
theorem d_th {e : Expr} {f : Env → List Cell → R (List PyData)} (h : PE X e (tF T Wx f)) : PE X e (tE T Wx fun ρ s => (f ρ s).bind fun l s => .ok (.h s.length) (s ++ [.lst l])) :=
  PE_imp h fun σ H Q q => by
    refine rd_mono (rd_bind (rel := rF T) (f := f) q) fun v H1 ⟨B, G, α, ρ, s, l, r, M⟩ => ?_
    obtain ⟨a, rfl, S'⟩ := pushF M.S r
    exact M.P.at Ext.push S' ⟨a, by rw [← M.S.len]; simp, rfl⟩
/-! ### places, slices -/
def fIdx (fa fi : Env → List Cell → R W) : Env → List Cell → R W := fun ρ s => (fa ρ s).bind fun x s => (fi ρ s).bind fun y s => (ii y s).bind fun j s => match see s x with
    | some (.list l) => lift ((atD l j).map .d) s
    | some (.tuple l) => lift ((atD l j).map .d) s
    | _ => .no
theorem ii_inv {w : W} {s : List Cell} {β γ : Type} {rel : Rel β γ} {k : Int → List Cell → R β} {B G : Hp} {α : List Addr} {σ : L2.St} {Q : γ → Hp → Prop} (P : Post T Wx rel B G α σ ((ii w s).bind k) Q) : ∃ i, w = .d (.int i) ∧ Post T Wx rel B G α σ (k i s) Q := by
  cases w with
  | d x =>
    cases x with
    | int i => exact ⟨i, rfl, P⟩
    | _ => exact P.elim
  | _ => exact P.elim
theorem d_idx (hK : X.K = T.K) (ha : PE X a (tE T Wx fa)) (hb : PE X b (tE T Wx fb)) (hs : PlainIx b) : PE X (.Subscript a b pos) (tE T Wx (fIdx fa fb)) :=
  PE_imp (pe_ix (show IxR X (fun x y H Q => rIxL T.K x y H Q ∨ rIxT T.K x y H Q) from hK ▸ ix_list.or ix_tup) ha hb hs) fun σ H Q h => by
    refine rd_mono (rd_bind (rel := rW T) (f := fa) h) fun u H1 ⟨B, G, α, ρ, s, x, rx, M⟩ => ?_
    obtain ⟨B, G1, α, ρ, s, S, E, P⟩ := M.step (rel := rW T) (f := fb)
    refine ⟨B, G1, α, ρ, s, S, E, P.mono fun v H2 ⟨G2, α2, s2, y, x2, ry, M2⟩ => ?_⟩
    obtain ⟨j, rfl, P3⟩ := ii_inv M2.P
    obtain rfl := (show Dp T.K _ _ _ from ry).int_inv
    have rx2 := x2.rw rx
    cases e : see s2 x with
    | none => rw [e] at P3; exact P3.elim
    | some q =>
      rw [e] at P3
      cases q with
      | list l =>
        obtain ⟨w, hw, P4⟩ := P3.lift
        obtain ⟨a, vs, rfl, h1, d⟩ := see_lst M2.S e rx2
        cases e2 : atD l j with
        | none => rw [e2] at hw; cases hw
        | some z =>
          rw [e2] at hw
          cases hw
          obtain ⟨vz, h3, h4⟩ := d.atI e2
          exact .inl ⟨a, vs, j, vz, rfl, rfl, h1, h3, P4.now M2.S h4⟩
      | tuple l =>
        obtain ⟨w, hw, P4⟩ := P3.lift
        obtain ⟨a, vs, rfl, h1, d⟩ := (see_tupR M2.S e rx2 l rfl).tup_inv
        cases e2 : atD l j with
        | none => rw [e2] at hw; cases hw
        | some z =>
          rw [e2] at hw
          cases hw
          obtain ⟨vz, h3, h4⟩ := d.atI e2
          exact .inr ⟨a, vs, j, vz, rfl, rfl, Same.seqT M2.S.gh h1, h3, P4.now M2.S h4⟩
      | _ => exact P3.elim
theorem d_noPart : PO X none (tO T Wx fun _ s => .ok none s) := PO_imp po_none fun σ H Q ⟨B, G, α, ρ, s, S, E, P⟩ => P.now S rfl
def fPart (f : Env → List Cell → R W) : Env → List Cell → R (Option Int) := fun ρ s => (f ρ s).bind fun w s => (ii w s).bind fun i s => .ok (some i) s
theorem d_part {e : Expr} {f : Env → List Cell → R W} (h : PE X e (tE T Wx f)) : PO X (some e) (tO T Wx (fPart f)) := PO_imp (po_some h) fun σ H Q q => by
  refine rd_mono (rd_bind (rel := rW T) (f := f) q) fun u H1 ⟨B, G, α, ρ, s, x, rx, M⟩ => ?_
  obtain ⟨j, rfl, P3⟩ := ii_inv M.P
  exact ⟨j, (show Dp T.K _ _ _ from rx).int_inv, P3.now M.S rfl⟩
def fSlc (fa : Env → List Cell → R W) (fl fh : Env → List Cell → R (Option Int)) : Env → List Cell → R W := fun ρ s => (fa ρ s).bind fun x s => (fl ρ s).bind fun l s => (fh ρ s).bind fun h s => match see s x with
    | some (.tuple xs) => .ok (.d (.tuple (cut xs l h))) s
    | some (.list xs) => .ok (.d (.list (cut xs l h))) s
    | _ => .no
def fNeg (fa : Env → List Cell → R W) : Env → List Cell → R W := fun ρ s => (fa ρ s).bind fun x s => (ii x s).bind fun i s => .ok (.d (.int (-i))) s
theorem d_neg (ha : PE X a (tE T Wx fa)) : PE X (.UnaryOp .USub a pos) (tE T Wx (fNeg fa)) :=
  PE_imp (pe_un un_neg ha) fun σ H Q q => by
    refine rd_mono (rd_bind (rel := rW T) (f := fa) q) fun u H1 ⟨B, G, α, ρ, s, x, rx, M⟩ => ?_
    obtain ⟨j, rfl, P3⟩ := ii_inv M.P
    exact ⟨j, (show Dp T.K _ _ _ from rx).int_inv, P3.now M.S (show Dp T.K _ _ _ from .int _)⟩
def fSll (fa : Env → List Cell → R W) (fl fh : Env → List Cell → R (Option Int)) : Env → List Cell → R (List PyData) := fun ρ s => (fa ρ s).bind fun x s => (fl ρ s).bind fun l s => (fh ρ s).bind fun h s => match see s x with
    | some (.list xs) => .ok (cut xs l h) s
    | _ => .no
variable {lo hi : Option Expr} {fl fh : Env → List Cell → R (Option Int)} {p2 : Pos}
theorem cut_whole {xs : List PyData} {lo hi : Option Int} (h : HT.sIx xs.length 0 lo = 0 ∧ HT.sIx xs.length xs.length hi = xs.length) : cut xs lo hi = xs := by
  unfold cut
  rw [sIx_eq, sIx_eq, h.1, h.2]
  simp
theorem d_slc (hK : X.K = T.K) (ha : PE X a (tE T Wx fa)) (hl : PO X lo (tO T Wx fl)) (hh : PO X hi (tO T Wx fh)) : PE X (.Subscript a (.Slice lo hi none p2) pos) (tE T Wx (fSlc fa fl fh)) :=
  PE_imp (pe_slice (show SlR X (fun x lo hi H Q => rSlA T.K x lo hi H Q ∨ rSlL T.K x lo hi H Q) from hK ▸ sl_tupA.or sl_list) ha hl hh) fun σ H Q q => by
    refine rd_mono (rd_bind (rel := rW T) (f := fa) q) fun u H1 ⟨B, G, α, ρ, s, x, rx, M⟩ => ?_
    obtain ⟨B, G1, α, ρ, s, S, E, P⟩ := M.step (rel := rO) (f := fl)
    refine ⟨B, G1, α, ρ, s, S, E, P.mono fun l H2 ⟨G2, α2, s2, l', x2, rl, M2⟩ => ?_⟩
    obtain rfl : l' = l := rl
    obtain ⟨B, G3, α3, ρ3, s3, S3, E3, P3⟩ := M2.step (rel := rO) (f := fh)
    refine ⟨B, G3, α3, ρ3, s3, S3, E3, P3.mono fun h H3 ⟨G4, α4, s4, h', x4, rh, M4⟩ => ?_⟩
    obtain rfl : h' = h := rh
    have rx4 := x4.rw (x2.rw rx)
    have P4 := M4.P
    cases e : see s4 x with
    | none => rw [e] at P4; exact P4.elim
    | some y =>
      rw [e] at P4
      cases y with
      | tuple xs =>
        have P4 : Post T Wx (rW T) _ _ _ σ (.ok (.d (.tuple (cut xs l' h'))) s4) Q := P4
        have g := see_tupR M4.S e rx4 xs rfl
        obtain ⟨a, vs, rfl, h1, d⟩ := g.tup_inv
        refine .inl ⟨a, vs, rfl, Same.seqT M4.S.gh h1, fun e => ?_, fun _ p hp => P4.tup M4.S (d.cut _ _) hp⟩
        rw [d.len] at e
        rw [cut_whole e] at P4
        exact P4.now M4.S g
      | list xs =>
        obtain ⟨a, vs, rfl, h1, d⟩ := see_lst M4.S e rx4
        exact .inr ⟨a, vs, rfl, h1, fun p hp => Post.lstD P4 M4.S (d.cut _ _) hp⟩
      | _ => exact P4.elim
theorem d_sll (hK : X.K = T.K) (ha : PE X a (tE T Wx fa)) (hl : PO X lo (tO T Wx fl)) (hh : PO X hi (tO T Wx fh)) : PE X (.Subscript a (.Slice lo hi none p2) pos) (tF T Wx (fSll fa fl fh)) :=
  PE_imp (pe_slice (show SlR X (rSlL T.K) from hK ▸ sl_list) ha hl hh) fun σ H Q q => by
    refine rd_mono (rd_bind (rel := rW T) (f := fa) q) fun u H1 ⟨B, G, α, ρ, s, x, rx, M⟩ => ?_
    obtain ⟨B, G1, α, ρ, s, S, E, P⟩ := M.step (rel := rO) (f := fl)
    refine ⟨B, G1, α, ρ, s, S, E, P.mono fun l H2 ⟨G2, α2, s2, l', x2, rl, M2⟩ => ?_⟩
    obtain rfl : l' = l := rl
    obtain ⟨B, G3, α3, ρ3, s3, S3, E3, P3⟩ := M2.step (rel := rO) (f := fh)
    refine ⟨B, G3, α3, ρ3, s3, S3, E3, P3.mono fun h H3 ⟨G4, α4, s4, h', x4, rh, M4⟩ => ?_⟩
    obtain rfl : h' = h := rh
    have rx4 := x4.rw (x2.rw rx)
    have P4 := M4.P
    cases e : see s4 x with
    | none => rw [e] at P4; exact P4.elim
    | some y =>
      rw [e] at P4
      cases y with
      | list xs =>
        obtain ⟨a, vs, rfl, h1, d⟩ := see_lst M4.S e rx4
        exact ⟨a, vs, rfl, h1, fun p hp => Post.lst P4 M4.S (d.cut _ _) hp⟩
      | _ => exact P4.elim
/-! ### fields -/
def fFld (fa : Env → List Cell → R W) (f : Nat) : Env → List Cell → R W := fun ρ s => (fa ρ s).bind fun x s => lift (fldW s f x) s
theorem getN_rel {β : Type} {c f : Nat} {R' : β → V → Prop} (ok : TabOk T) {fvs : List (Str × V)} {fs : List (Nat × β)} (h : Paired (fun (p : Str × V) (q : Nat × β) => p.1 = T.fn q.1 ∧ T.has c q.1 = true ∧ R' q.2 p.2) fvs fs) {w : β} (e : getN f fs = some w) :
    T.has c f = true ∧ ∃ v, fvs.lookup (T.fn f) = some v ∧ R' w v := by
  induction fs generalizing fvs with
  | nil => cases e
  | cons q fs ih =>
    cases h with
    | @cons p _ fvs _ r t =>
      simp only [getN] at e
      obtain ⟨h1, h2, h3⟩ := r
      obtain ⟨pn, pv⟩ := p
      simp only at h1 h3
      by_cases hf : f = q.1
      · rw [if_pos hf] at e
        cases e
        refine ⟨by rw [hf]; exact h2, pv, ?_, h3⟩
        rw [hf, h1, List.lookup_cons]
        simp
      · rw [if_neg hf] at e
        obtain ⟨g1, v, g2, g3⟩ := ih t e
        refine ⟨g1, v, ?_, g3⟩
        rw [List.lookup_cons]
        have hne : (T.fn f == pn) = false := by
          rw [beq_eq_false_iff_ne]
          intro z
          rw [h1] at z
          exact hf (ok.inj _ _ (ok.lt _ _ g1) (ok.lt _ _ h2) z)
        rw [hne]
        exact g2
theorem d_fld (hK : X.K = T.K) (ok : TabOk T) {f : Nat} (ha : PE X a (tE T Wx fa)) (hb : attributeBase a (T.fn f) X.env (eval a X.env) = eval a X.env) : PE X (.Attribute a (T.fn f) pos) (tE T Wx (fFld fa f)) :=
  PE_imp (pe_fld ha hb) fun σ H Q q => by
    rw [hK]
    refine rd_mono (rd_bind (rel := rW T) (f := fa) q) fun u H1 ⟨B, G, α, ρ, s, x, rx, M⟩ => ?_
    obtain ⟨w, hw, P⟩ := M.P.lift
    cases x with
    | o c fs =>
      obtain ⟨a, C, dx, fvs, rfl, h1, h2, h3⟩ := rx
      simp only [fldW] at hw
      cases e : getN f fs with
      | none => rw [e] at hw; cases hw
      | some y =>
        rw [e] at hw
        cases hw
        obtain ⟨g1, v, g2, g3⟩ := getN_rel (R' := fun x v => Dp T.K G v x) ok h3 e
        exact ⟨a, C, dx, fvs, v, rfl, M.S.gh _ _ h1, ok.cl _ _ _ h2 g1, ok.na _ _ _ h2 g1, g2, P.now M.S g3⟩
    | h i =>
      obtain ⟨a, ha, rfl⟩ := rx
      simp only [fldW] at hw
      cases e : s[i]? with
      | none => rw [e] at hw; cases hw
      | some cc =>
        rw [e] at hw
        have hc := M.S.cell i a cc ha e
        cases cc with
        | ins c fs =>
          obtain ⟨_, _, C, dx, fvs, h1, h2, h3⟩ := hc
          obtain ⟨g1, v, g2, g3⟩ := getN_rel (R' := fun x v => RW T G α x v) ok h3 hw
          exact ⟨a, C, dx, fvs, v, rfl, h1, ok.cl _ _ _ h2 g1, ok.na _ _ _ h2 g1, g2, P.now M.S g3⟩
        | _ => cases hw
    | d y => cases hw
    | dc y => cases hw
end
end DM

set_option maxRecDepth 100000
/-! DM5: built-ins, lists, comprehensions. -/
namespace DM
open PySem PySem.Spec PyProof.Rows L2
section
variable {X : Cx} {T : Tab} {k : Nat} {Wx : WX} {a b c e : Expr} {es : List Expr} {p pos apos cpos : Pos} {fa fb fc : Env → List Cell → R W} {fes : Env → List Cell → R (List W)}

/-! ### built-in functions -/
def fBi (b : BiK) (fes : Env → List Cell → R (List W)) : Env → List Cell → R W := fun ρ s => (fes ρ s).bind fun ws s => match seeAll s ws with
    | some xs => lift ((biD b xs).map .d) s
    | none => .no
theorem bi_read {bk : BiK} {σ : L2.St} {H : Hp} {Q : VK} (h : tE T Wx (fBi bk fes) σ H Q) : tA T Wx fes σ H fun vs H1 => ∃ xs y, DpAll T.K H1 vs xs ∧ biD bk xs = some y ∧ ∀ v, (∀ G, Dp T.K G v y) → Q v H1 := by
  refine rd_mono (rd_bind (rel := rWs T) (f := fes) h) fun us H1 ⟨B, G, α, ρ, s, ws, r, M⟩ => ?_
  have P := M.P
  cases e : seeAll s ws with
  | none => rw [e] at P; exact P.elim
  | some xs =>
    rw [e] at P
    obtain ⟨w, hw, P⟩ := P.lift
    cases e2 : biD bk xs with
    | none => rw [e2] at hw; cases hw
    | some y =>
      rw [e2] at hw
      cases hw
      exact ⟨xs, y, seeAll_ok M.S e r, e2, fun v d => P.now M.S (d G)⟩
theorem DpAll.one {K : PySem.W.Frag} {G : Hp} {vs : List V} {x : PyData} (h : DpAll K G vs [x]) : ∃ v, vs = [v] ∧ Dp K G v x := by
  cases h with | cons h1 h2 => cases h2; exact ⟨_, rfl, h1⟩
theorem DpAll.two {K : PySem.W.Frag} {G : Hp} {vs : List V} {x y : PyData} (h : DpAll K G vs [x, y]) : ∃ v u, vs = [v, u] ∧ Dp K G v x ∧ Dp K G u y := by
  cases h with | cons h1 h2 => cases h2 with | cons h2 h3 => cases h3; exact ⟨_, _, rfl, h1, h2⟩
theorem d_len (hK : X.K = T.K) (hg : Gl X "len") (hm : X.mg "len" = none) (ha : PA X (e :: es) (tA T Wx fes)) (he : starEach (e :: es) X.env = (false, eval e X.env) :: starEach es X.env) (hpl : (backTo pos (starEach es X.env)).any (·.1) = false) :
    PE X (.Call (.Name "len" p) (e :: es) [] pos) (tE T Wx (fBi .len fes)) :=
  PE_imp (pe_callB call_len_seq hg hm PySem.boot_len ha (by decide) (by decide) he hpl) fun σ H Q h => by
    refine rd_mono (bi_read h) fun vs H1 ⟨xs, y, d, e, q⟩ => ?_
    rw [hK]
    match xs, e with
    | [.list l], e =>
      cases e
      obtain ⟨v, rfl, dv⟩ := DpAll.one d
      obtain ⟨a, us, rfl, h1, h2⟩ := dv.lst_inv
      exact ⟨a, us, rfl, .inl h1, q _ fun G => by rw [h2.len]; exact .int _⟩
    | [.tuple l], e =>
      cases e
      obtain ⟨v, rfl, dv⟩ := DpAll.one d
      obtain ⟨a, us, rfl, h1, h2⟩ := dv.tup_inv
      exact ⟨a, us, rfl, .inr h1, q _ fun G => by rw [h2.len]; exact .int _⟩
theorem boot_intT : bootBuiltins ("int" : Str) = some (.type "int") := by decide +kernel
theorem d_int (hg : Gl X "int") (hm : X.mg "int" = none) (ha : PA X (e :: es) (tA T Wx fes)) (he : starEach (e :: es) X.env = (false, eval e X.env) :: starEach es X.env) (hpl : (backTo pos (starEach es X.env)).any (·.1) = false) :
    PE X (.Call (.Name "int" p) (e :: es) [] pos) (tE T Wx (fBi .int fes)) :=
  PE_imp (pe_callTy call_int1 hg hm boot_intT ha (by decide) (by decide) he hpl) fun σ H Q h => by
    refine rd_mono (bi_read h) fun vs H1 ⟨xs, y, d, e, q⟩ => ?_
    match xs, e with
    | [.int i], e =>
      cases e
      obtain ⟨v, rfl, dv⟩ := DpAll.one d
      obtain rfl := dv.int_inv
      exact .inl ⟨i, rfl, q _ fun G => .int i⟩
    | [.bool i], e =>
      cases e
      obtain ⟨v, rfl, dv⟩ := DpAll.one d
      obtain rfl := dv.bl_inv
      exact .inr ⟨i, rfl, q _ fun G => .int _⟩
theorem boot_maxB : bootBuiltins ("max" : Str) = some (.builtin "max") := by decide +kernel
theorem boot_minB : bootBuiltins ("min" : Str) = some (.builtin "min") := by decide +kernel
theorem d_max2 (hc : X.calm = true) (hg : Gl X "max") (hm : X.mg "max" = none) (ha : PA X (e :: es) (tA T Wx fes)) (he : starEach (e :: es) X.env = (false, eval e X.env) :: starEach es X.env) (hpl : (backTo pos (starEach es X.env)).any (·.1) = false) :
    PE X (.Call (.Name "max" p) (e :: es) [] pos) (tE T Wx (fBi .max2 fes)) :=
  PE_imp (pe_callB (call_max2 hc) hg hm boot_maxB ha (by decide) (by decide) he hpl) fun σ H Q h => by
    refine rd_mono (bi_read h) fun vs H1 ⟨xs, y, d, e, q⟩ => ?_
    match xs, e with
    | [.int i, .int j], e =>
      cases e
      obtain ⟨v, u, rfl, dv, du⟩ := DpAll.two d
      obtain rfl := dv.int_inv
      obtain rfl := du.int_inv
      exact ⟨i, j, rfl, q _ fun G => .int _⟩
theorem d_min2 (hc : X.calm = true) (hg : Gl X "min") (hm : X.mg "min" = none) (ha : PA X (e :: es) (tA T Wx fes)) (he : starEach (e :: es) X.env = (false, eval e X.env) :: starEach es X.env) (hpl : (backTo pos (starEach es X.env)).any (·.1) = false) :
    PE X (.Call (.Name "min" p) (e :: es) [] pos) (tE T Wx (fBi .min2 fes)) :=
  PE_imp (pe_callB (call_min2 hc) hg hm boot_minB ha (by decide) (by decide) he hpl) fun σ H Q h => by
    refine rd_mono (bi_read h) fun vs H1 ⟨xs, y, d, e, q⟩ => ?_
    match xs, e with
    | [.int i, .int j], e =>
      cases e
      obtain ⟨v, u, rfl, dv, du⟩ := DpAll.two d
      obtain rfl := dv.int_inv
      obtain rfl := du.int_inv
      exact ⟨i, j, rfl, q _ fun G => .int _⟩
/-! ### isinstance -/
def tyS : TyK → String
  | .str => "str"
  | .int => "int"
  | .bool => "bool"
  | .tuple => "tuple"
  | .list => "list"
  | .dict => "dict"
def tyD : PyData → String
  | .none => "NoneType"
  | .bool _ => "bool"
  | .int _ => "int"
  | .str _ => "str"
  | .list _ => "list"
  | .tuple _ => "tuple"
  | .dict _ => "dict"
theorem tyX_of {K : PySem.W.Frag} {H : Hp} {v : V} {x : PyData} (h : Dp K H v x) : TyX K H v (.type (tyD x)) := by
  cases h with
  | non => exact .base .non
  | bl b => exact .base (.bl b)
  | int i => exact .base (.int i)
  | str x => exact .base (.str x)
  | lst h1 h2 =>
    rcases h1 with (h1 | ⟨o, h1⟩) | ⟨o, its, n, h1, h2, _⟩
    · exact .base (.lst h1)
    · exact .base (.frz h1)
    · exact .kList h1 h2
  | tup h1 h2 =>
    rcases h1 with (h1 | ⟨o, h1⟩) | ⟨o, its, n, h1, h2, _⟩
    · exact .base (.tup h1)
    · exact .fTuple h1
    · exact .kTuple h1 h2
theorem kit_isi (K : PySem.W.Frag) (t : TyK) (x : PyData) (hd : ∀ kvs, x ≠ .dict kvs) : PySem.W.kitOne K (.type (tyD x)) (.type (tyS t)) = some (isiD t x) := by
  cases t
  · cases x
    · exact kit_ty (show kitB "NoneType" "str" = some false by decide +kernel)
    · exact kit_ty (show kitB "bool" "str" = some false by decide +kernel)
    · exact kit_ty (show kitB "int" "str" = some false by decide +kernel)
    · exact kit_ty (show kitB "str" "str" = some true by decide +kernel)
    · exact kit_ty (show kitB "list" "str" = some false by decide +kernel)
    · exact kit_ty (show kitB "tuple" "str" = some false by decide +kernel)
    · exact absurd rfl (hd _)
  · cases x
    · exact kit_ty (show kitB "NoneType" "int" = some false by decide +kernel)
    · exact kit_ty (show kitB "bool" "int" = some true by decide +kernel)
    · exact kit_ty (show kitB "int" "int" = some true by decide +kernel)
    · exact kit_ty (show kitB "str" "int" = some false by decide +kernel)
    · exact kit_ty (show kitB "list" "int" = some false by decide +kernel)
    · exact kit_ty (show kitB "tuple" "int" = some false by decide +kernel)
    · exact absurd rfl (hd _)
  · cases x
    · exact kit_ty (show kitB "NoneType" "bool" = some false by decide +kernel)
    · exact kit_ty (show kitB "bool" "bool" = some true by decide +kernel)
    · exact kit_ty (show kitB "int" "bool" = some false by decide +kernel)
    · exact kit_ty (show kitB "str" "bool" = some false by decide +kernel)
    · exact kit_ty (show kitB "list" "bool" = some false by decide +kernel)
    · exact kit_ty (show kitB "tuple" "bool" = some false by decide +kernel)
    · exact absurd rfl (hd _)
  · cases x
    · exact kit_ty (show kitB "NoneType" "tuple" = some false by decide +kernel)
    · exact kit_ty (show kitB "bool" "tuple" = some false by decide +kernel)
    · exact kit_ty (show kitB "int" "tuple" = some false by decide +kernel)
    · exact kit_ty (show kitB "str" "tuple" = some false by decide +kernel)
    · exact kit_ty (show kitB "list" "tuple" = some false by decide +kernel)
    · exact kit_ty (show kitB "tuple" "tuple" = some true by decide +kernel)
    · exact absurd rfl (hd _)
  · cases x
    · exact kit_ty (show kitB "NoneType" "list" = some false by decide +kernel)
    · exact kit_ty (show kitB "bool" "list" = some false by decide +kernel)
    · exact kit_ty (show kitB "int" "list" = some false by decide +kernel)
    · exact kit_ty (show kitB "str" "list" = some false by decide +kernel)
    · exact kit_ty (show kitB "list" "list" = some true by decide +kernel)
    · exact kit_ty (show kitB "tuple" "list" = some false by decide +kernel)
    · exact absurd rfl (hd _)
  · cases x
    · exact kit_ty (show kitB "NoneType" "dict" = some false by decide +kernel)
    · exact kit_ty (show kitB "bool" "dict" = some false by decide +kernel)
    · exact kit_ty (show kitB "int" "dict" = some false by decide +kernel)
    · exact kit_ty (show kitB "str" "dict" = some false by decide +kernel)
    · exact kit_ty (show kitB "list" "dict" = some false by decide +kernel)
    · exact kit_ty (show kitB "tuple" "dict" = some false by decide +kernel)
    · exact absurd rfl (hd _)
def fIsi (t : TyK) (fa : Env → List Cell → R W) : Env → List Cell → R W := fun ρ s => (fa ρ s).bind fun w s => match see s w with
    | some x => .ok (.d (.bool (isiD t x))) s
    | none => .no
theorem boot_isi : bootBuiltins ("isinstance" : Str) = some (.builtin "isinstance") := by decide +kernel
theorem boot_ty (t : TyK) : bootBuiltins (Str.ofString (tyS t)) = some (.type (tyS t)) := by cases t <;> decide +kernel
theorem Dp.nodict {K : PySem.W.Frag} {H : Hp} {v : V} {x : PyData} (h : Dp K H v x) : ∀ kvs, x ≠ .dict kvs := fun kvs e => by subst e; cases h
theorem d_isi (hK : X.K = T.K) (t : TyK) {ty : Expr} (hg : Gl X "isinstance") (hm : X.mg "isinstance" = none) (ha : PE X a (tE T Wx fa)) (ht : PE X ty (tC (.ty (tyS t)))) (he : starEach [a, ty] X.env = (false, eval a X.env) :: starEach [ty] X.env)
    (he2 : starEach [ty] X.env = (false, eval ty X.env) :: starEach [] X.env) (hpl : (backTo pos (starEach [ty] X.env)).any (·.1) = false) : PE X (.Call (.Name "isinstance" p) [a, ty] [] pos) (tE T Wx (fIsi t fa)) :=
  PE_imp (pe_callB (r := rIsi T.K) (hK ▸ call_isi) hg hm boot_isi (pa_cons ha (pa_cons ht pa_nil he2) he) (by decide) (by decide) he hpl) fun σ H Q h => by
    refine rd_mono (rd_bind (rel := rW T) (f := fa) h) fun u H1 ⟨B, G, α, ρ, s, w, r, M⟩ => ?_
    have P := M.P
    cases e : see s w with
    | none => rw [e] at P; exact P.elim
    | some x =>
      rw [e] at P
      have d := see_ok M.S e r
      exact ⟨u, .ty (tyS t), .type (tyD x), .type (tyS t), isiD t x, rfl, .ty _, tyX_of d, kit_isi T.K t x (Dp.nodict d), P.now M.S (show Dp T.K _ _ _ from .bl _)⟩
/-! ### tuple(x), list(x) -/
def fTupOf (fa : Env → List Cell → R W) : Env → List Cell → R W := fun ρ s => (fa ρ s).bind fun w s => match see s w with
    | some (.list l) => .ok (.d (.tuple l)) s
    | some (.tuple l) => .ok (.d (.tuple l)) s
    | _ => .no
theorem boot_tupT : bootBuiltins ("tuple" : Str) = some (.type "tuple") := by decide +kernel
theorem boot_lstT : bootBuiltins ("list" : Str) = some (.type "list") := by decide +kernel
theorem d_tupOf (hK : X.K = T.K) (hg : Gl X "tuple") (hm : X.mg "tuple" = none) (ha : PE X a (tE T Wx fa)) (he : starEach [a] X.env = (false, eval a X.env) :: starEach [] X.env) : PE X (.Call (.Name "tuple" p) [a] [] pos) (tE T Wx (fTupOf fa)) :=
  PE_imp (pe_callTy call_tuple_of hg hm boot_tupT (pa_cons ha pa_nil he) (by decide) (by decide) he (by rfl)) fun σ H Q h => by
    rw [hK]
    refine rd_mono (rd_bind (rel := rW T) (f := fa) h) fun u H1 ⟨B, G, α, ρ, s, w, r, M⟩ => ?_
    have P := M.P
    cases e : see s w with
    | none => rw [e] at P; exact P.elim
    | some x =>
      rw [e] at P
      cases x with
      | list l =>
        obtain ⟨a, vs, rfl, h1, d⟩ := see_lst M.S e r
        exact ⟨a, vs, rfl, .inl ⟨h1, fun p hp => Post.tup P M.S d hp⟩⟩
      | tuple l =>
        have g := see_tupR M.S e r l rfl
        obtain ⟨a, vs, rfl, h1, d⟩ := g.tup_inv
        exact ⟨a, vs, rfl, .inr ⟨Same.seqT M.S.gh h1, Post.now P M.S g⟩⟩
      | _ => exact P.elim
def fList (fa : Env → List Cell → R W) : Env → List Cell → R (List PyData) := fun ρ s => (fa ρ s).bind fun w s => match see s w with
    | some x => lift (seqOf x) s
    | none => .no
theorem d_list (hK : X.K = T.K) (hg : Gl X "list") (hm : X.mg "list" = none) (ha : PE X a (tE T Wx fa)) (he : starEach [a] X.env = (false, eval a X.env) :: starEach [] X.env) : PE X (.Call (.Name "list" p) [a] [] pos) (tF T Wx (fList fa)) :=
  PE_imp (pe_callTy call_list_of hg hm boot_lstT (pa_cons ha pa_nil he) (by decide) (by decide) he (by rfl)) fun σ H Q h => by
    rw [hK]
    refine rd_mono (rd_bind (rel := rW T) (f := fa) h) fun u H1 ⟨B, G, α, ρ, s, w, r, M⟩ => ?_
    have P := M.P
    cases e : see s w with
    | none => rw [e] at P; exact P.elim
    | some x =>
      rw [e] at P
      obtain ⟨xs, hx, P⟩ := P.lift
      cases x with
      | list l =>
        cases hx
        obtain ⟨a, vs, rfl, h1, d⟩ := see_lst M.S e r
        exact ⟨a, vs, rfl, .inl h1, fun p hp => P.lst M.S d hp⟩
      | tuple l =>
        cases hx
        obtain ⟨a, vs, rfl, h1, d⟩ := (see_tupR M.S e r _ rfl).tup_inv
        exact ⟨a, vs, rfl, .inr (Same.seqT M.S.gh h1), fun p hp => P.lst M.S d hp⟩
      | _ => cases hx
/-! ### list + list, list * int -/
def fAdd (fa fb : Env → List Cell → R W) : Env → List Cell → R (List PyData) := fun ρ s => (fa ρ s).bind fun x s => (fb ρ s).bind fun y s => match see s x, see s y with
    | some (.list xs), some (.list ys) => if xs.length + ys.length ≤ sizeLine then .ok (xs ++ ys) s else .no
    | _, _ => .no
theorem d_addL (hK : X.K = T.K) (ha : PE X a (tE T Wx fa)) (hb : PE X b (tE T Wx fb)) : PE X (.BinOp a .Add b pos) (tF T Wx (fAdd fa fb)) :=
  PE_imp (pe_op (r := rCatS T.K) (hK ▸ op_catS) ha hb) fun σ H Q h => by
    refine rd_mono (rd_bind (rel := rW T) (f := fa) h) fun u H1 ⟨B, G, α, ρ, s, x, rx, M⟩ => ?_
    obtain ⟨B1, G1, α1, ρ1, s1, S, E, P⟩ := M.step (rel := rW T) (f := fb)
    refine ⟨B1, G1, α1, ρ1, s1, S, E, P.mono fun v H2 ⟨G2, α2, s2, y, x2, ry, M2⟩ => ?_⟩
    have rx2 := x2.rw rx
    have P2 := M2.P
    cases e1 : see s2 x with
    | none => rw [e1] at P2; exact P2.elim
    | some xd =>
      cases e2 : see s2 y with
      | none => rw [e1, e2] at P2; cases xd <;> exact P2.elim
      | some yd =>
        rw [e1, e2] at P2
        cases xd with
        | list xs =>
          cases yd with
          | list ys =>
            simp only at P2
            by_cases hz : xs.length + ys.length ≤ sizeLine
            · rw [if_pos hz] at P2
              obtain ⟨a1, vs, rfl, h1, d1⟩ := see_lst M2.S e1 rx2
              obtain ⟨a2, us, rfl, h2, d2⟩ := see_lst M2.S e2 ry
              exact ⟨a1, a2, vs, us, rfl, rfl, h1, h2, by rw [d1.len, d2.len]; exact hz, fun p hp => P2.lst M2.S (d1.append d2) hp⟩
            · rw [if_neg hz] at P2
              exact P2.elim
          | _ => exact P2.elim
        | _ => cases yd <;> exact P2.elim
def fMul (fl : Env → List Cell → R (List PyData)) (fb : Env → List Cell → R W) : Env → List Cell → R (List PyData) := fun ρ s => (fl ρ s).bind fun xs s => (fb ρ s).bind fun y s => (ii y s).bind fun k s =>
    if decide (-(2 ^ 63) ≤ k) && decide (k < 2 ^ 63) && decide (xs.length * k.toNat ≤ sizeLine) then .ok (List.replicate k.toNat xs).flatten s else .no
theorem rF_keep {B G H : Hp} {α : List Addr} {l : List PyData} {v : V} {s : List Cell} (S : StM T B G H α s) (r : rF T B G α H l v) : ∃ (G' : Hp) (a : Addr) (vs : List V), v = .ref a ∧ Ext B G α G' α ∧ StM T B G' H α s ∧ G' a = some (.lst vs) ∧ DpAll T.K G' vs l := by
  obtain ⟨a, vs, rfl, hH, hg, hb, ha, d⟩ := r
  refine ⟨upd G a (.lst vs), a, vs, rfl, Ext.pure hg hb, S.know (Same.upd hg) (fun b u e => ?_) (fun b hb' e => ?_), upd_same, DpAll.mono (Same.upd hg) _ _ d⟩
  · by_cases hb' : b = a
    · subst hb'; rw [upd_same] at e; cases e; exact hH
    · rw [upd_ne hb'] at e; exact S.gh b u e
  · rw [upd_ne]
    · exact e
    · rintro rfl; exact ha hb'
theorem d_mulL {fl : Env → List Cell → R (List PyData)} (ha : PE X a (tF T Wx fl)) (hb : PE X b (tE T Wx fb)) : PE X (.BinOp a .Mult b pos) (tF T Wx (fMul fl fb)) :=
  PE_imp (pe_op op_rep ha hb) fun σ H Q h => by
    refine rd_mono (rd_bind (rel := rF T) (f := fl) h) fun u H1 ⟨B, G, α, ρ, s, xs, rx, M⟩ => ?_
    obtain ⟨G0, a0, vs, rfl, x0, S0, hg0, d0⟩ := rF_keep M.S rx
    have M0 : Mid T Wx (rF T) B G0 α ρ s σ H1 (fun s => (fb ρ s).bind fun y s => (ii y s).bind fun k s => if decide (-(2 ^ 63) ≤ k) && decide (k < 2 ^ 63) && decide (xs.length * k.toNat ≤ sizeLine) then R.ok (List.replicate k.toNat xs).flatten s else R.no) Q := ⟨S0, M.E.mono x0, M.P.ext x0⟩
    obtain ⟨B1, G1, α1, ρ1, s1, S, E, P⟩ := M0.step (rel := rW T) (f := fb)
    refine ⟨B1, G1, α1, ρ1, s1, S, E, P.mono fun v H2 ⟨G2, α2, s2, y, x2, ry, M2⟩ => ?_⟩
    obtain ⟨j, rfl, P3⟩ := ii_inv M2.P
    obtain rfl := (show Dp T.K _ _ _ from ry).int_inv
    by_cases hz : (decide (-(2 ^ 63) ≤ j) && decide (j < 2 ^ 63) && decide (xs.length * j.toNat ≤ sizeLine)) = true
    · rw [if_pos hz] at P3
      simp only [Bool.and_eq_true, decide_eq_true_eq] at hz
      have d2 : DpAll T.K G2 vs xs := DpAll.mono x2.g _ _ d0
      exact ⟨a0, j, vs, rfl, rfl, M2.S.gh _ _ (x2.g _ _ hg0), hz.1.1, hz.1.2, by rw [d2.len]; exact hz.2, fun p hp => P3.lst M2.S (d2.flatOf _) hp⟩
    · rw [if_neg hz] at P3
      exact P3.elim
/-! ### xs.append(e) -/
/-- is a list, whichever -/
theorem tyV_list {K : PySem.W.Frag} {H : Hp} {a : Addr} {xs : List V} (h : SqL K H a xs) : tyV K "list" (.ref a) H := .inl ⟨rfl, xs, h⟩
theorem cell_list {B G H : Hp} {α : List Addr} {s : List Cell} (S : StM T B G H α s) {i : Nat} {l : List PyData} {v : V} (e : s[i]? = some (.lst l)) (r : RW T G α (.h i) v) : ∃ a vs, v = .ref a ∧ α[i]? = some a ∧ G a = none ∧ B a = none ∧ H a = some (.lst vs) ∧ DpAll T.K G vs l := by
  obtain ⟨a, ha, rfl⟩ := r
  obtain ⟨h1, h2, vs, h3, h4⟩ := S.cell i a _ ha e
  exact ⟨a, vs, rfl, ha, h1, h2, h3, h4⟩
def fAppC (fo fe : Env → List Cell → R W) : Env → List Cell → R W := fun ρ s => (fo ρ s).bind fun w s => if isL w s then (fe ρ s).bind fun v s => (frzR v s).bind fun x s => appW w x s else .no
theorem isL_ty {B G H : Hp} {α : List Addr} {s : List Cell} (S : StM T B G H α s) {w : W} {v : V} (h : isL w s = true) (r : RW T G α w v) : tyV T.K "list" v H := by
  unfold isL at h
  cases e : see s w with
  | none => rw [e] at h; cases h
  | some x =>
    rw [e] at h
    cases x with
    | list l =>
      obtain ⟨a, vs, rfl, h1, _⟩ := see_lst S e r
      exact tyV_list h1
    | _ => cases h
theorem d_app (hK : X.K = T.K) (ha : PE X a (tE T Wx fa)) (hb : PE X b (tE T Wx fb)) (hbase : attributeBase a "append" X.env (eval a X.env) = eval a X.env) (hline : (apos.endLine == cpos.line) = true) (he : starEach [b] X.env = (false, eval b X.env) :: starEach [] X.env) :
    PE X (.Call (.Attribute a "append" apos) [b] [] cpos) (tE T Wx (fAppC fa fb)) :=
  PE_imp (pe_bm PySem.F.plainAttrs_list PySem.F.slot_list_append PySem.F.type_list_append mt_append ha (pa_cons hb pa_nil he) hbase (by rw [he]; rfl) hline he (by rfl)) fun σ H Q h => by
    rw [hK]
    refine rd_mono (rd_bind (rel := rW T) (f := fa) h) fun u H1 ⟨B, G, α, ρ, s, x, rx, M⟩ => ?_
    have M0 := M.P
    by_cases hl : isL x s = true
    · rw [if_pos hl] at M0
      refine ⟨isL_ty M.S hl rx, ?_⟩
      have M' : Mid T Wx (rW T) B G α ρ s σ H1 (fun s => (fb ρ s).bind fun v s => (frzR v s).bind fun z s => appW x z s) Q := ⟨M.S, M.E, M0⟩
      obtain ⟨B1, G1, α1, ρ1, s1, S, E, P⟩ := M'.step (rel := rW T) (f := fb)
      refine ⟨B1, G1, α1, ρ1, s1, S, E, P.mono fun v H2 ⟨G2, α2, s2, y, x2, ry, M2⟩ => ?_⟩
      obtain ⟨G3, s3, z, x3, S3, dz, P3⟩ := frz_at M2.S ry M2.P
      have rx3 := x3.rw (x2.rw rx)
      cases x with
      | h i =>
        simp only [appW] at P3
        cases e : s3[i]? with
        | none => rw [e] at P3; exact P3.elim
        | some c =>
          rw [e] at P3
          cases c with
          | lst l =>
            simp only at P3
            by_cases hz : l.length < sizeLine
            · rw [if_pos hz] at P3
              obtain ⟨a, vs, rfl, ha, h1, h2, h3, h4⟩ := cell_list S3 e rx3
              refine ⟨a, vs, v, rfl, rfl, h3, by rw [h4.len]; exact hz, ?_⟩
              exact P3.at Ext.refl' (S3.set ha h1 h2 ⟨h1, h2, _, upd_same, h4.append (.cons dz .nil)⟩) (show Dp T.K _ _ _ from .non)
            · rw [if_neg hz] at P3; exact P3.elim
          | _ => exact P3.elim
      | _ => exact P3.elim
    · rw [if_neg hl] at M0
      exact M0.elim
end
end DM

set_option maxRecDepth 100000
set_option maxHeartbeats 2000000
/-! HT1: where an exception is handled: a list walked by a comprehension (after HandS.Comp and HandS.HotCalls). -/
namespace DH
open PySem PySem.Spec PyProof.Rows L2 L2H HotX
abbrev St := L2.St
section
variable {prog : Program} {w : World} {A : Around} {E : Value → Shared → Prop} {s : Shared}
theorem pyNext_list_end_hot {it l x1 : Addr} {i : Nat} {items : Array Value} {Q : Option Value → Shared → Prop} (hot : HotAt A x1 s.heap) (hit : s.heap.IsListIter it l i) (hl : s.heap.IsList l items) (hx : items[i]? = none)
    (hQ : ∀ h', Heap.ExtBut it s.heap h' → Q none { s with heap := h' }) : wpAny (model prog w) A (pyNext (.ref it)) Q E s := by
  obtain ⟨hh, o1, vs1, h1, d1, c1⟩ := hot
  obtain ⟨o, ho, hc, hd⟩ := id hit
  obtain ⟨ol, hol, _, nl, hdl⟩ := hl
  have ne : x1 ≠ it := fun z => by
    rw [z, ho] at h1
    cases h1
    rw [hd] at d1
    cases d1
    simp at c1
  unfold pyNext
  refine wpAny_bind (wpAny_attempt (wpAny_callSpecial?_slot (name := Str.ofString "__next__") hit.typeIs slot_listiter_next
    (wpAny_call_entry slot_listiter_next hit.typeIs entry_listiter_next ?_ (args_listiter_next _))))
  show wpAny _ _ (field (.ref it) 0 >>= _) _ _ s
  refine wpAny_bind (wpAny_field ho hd (x := .ref l) rfl ?_)
  show wpAny _ _ (if (Value.ref l == Value.none) = true then _ else _) _ _ s
  rw [if_neg (show ¬ ((Value.ref l == Value.none) = true) from Bool.false_ne_true)]
  show wpAny _ _ (field (.ref it) 1 >>= _) _ _ s
  refine wpAny_bind (wpAny_field ho hd (x := .int i 0) rfl ?_)
  show wpAny _ _ (seqItems? (.ref l) >>= _) _ _ s
  refine wpAny_bind (wpAny_seqItems hol hdl ?_)
  simp only [Int.toNat_natCast, hx]
  refine wpAny_bind (wpAny_rule (wpAny_bind (wpAny_setField ho hd (by simp) ?_)))
  have h1' : (s.heap.update it (Obj.mapFields (·.setIfInBounds 0 .none))).get? x1 = some o1 := (Heap.get?_update_other _ _ (Ne.symm ne)).trans h1
  show wpAny _ _ (newExc (.type "StopIteration") [] >>= _) _ _ _
  refine wpAny_bind ?_
  simp only [newExc, newTuple]
  refine wpAny_bind (wpAny_newObj_type ?_ (by size_fits))
  refine wpAny_bind (m := firstArgMember _ _) (wpAny_of_eq (a := Value.none) (by first | rfl | (simp only [firstArgMember]; rfl)) ?_)
  refine wpAny_newObj_type ?_ (by size_fits)
  refine raiseNew_hot ⟨hh, o1, vs1, Heap.get?_push_of_some _ (Heap.get?_push_of_some _ h1'), d1, c1⟩ (Nat.ne_of_lt (Heap.lt_size (Heap.get?_push_of_some _ h1'))) (Heap.get?_push_size _ rfl) rfl (by first | (simp; done) | (simp; omega) | (simp only [Array.size_append]; simp; omega)) ?_
  refine wpAny_bind (wpAny_isInstance (T := "StopIteration") (b := true) ⟨_, Heap.get?_update_self _ (Heap.get?_push_size _ rfl) rfl, rfl⟩ isSubtype_stop ?_)
  refine wpAny_pure (hQ _ fun b ob hb e => ?_)
  have e1 : (s.heap.update it (Obj.mapFields (·.setIfInBounds 0 .none))).get? b = some ob := (Heap.get?_update_other _ _ (Ne.symm hb)).trans e
  rw [Heap.get?_update_other _ _ (Nat.ne_of_gt (Heap.lt_size (Heap.get?_push_of_some _ e1)))]
  exact Heap.get?_push_of_some _ (Heap.get?_push_of_some _ e1)
end
/-- the pin is hot and stands -/
def HotP (A : Around) (p : Addr × Obj) : Prop := Hot1 A p
theorem hotAt {A : Around} {p : Addr × Obj} {h : Heap} (c : Hot1 A p) (g : h.get? p.1 = some p.2) : HotAt A p.1 h := by
  obtain ⟨hh, v1, e1, c1⟩ := c
  exact ⟨hh, p.2, v1, g, e1, c1⟩
/-- a list walked there -/
structure TurnP (P : Program) (w : World) (K : PySem.W.Frag) (tg : Expr) (J : It) (fp : List Addr) (it : Addr) (tn : Nat → Heap → Prop) : Prop where
  obj : ∀ i h, tn i h → ∀ b ∈ fp, ∃ o, h.get? b = some o ∧ ∀ v, o.data ≠ .cell v
  keep : ∀ i h h', tn i h → (∀ b ∈ fp, ∀ o, h.get? b = some o → h'.get? b = some o) → tn i h'
  item : ∀ (X : Cx), X.prog = P → X.w = w → X.K = K → ∀ (i : Nat) (pins : List (Addr × Obj)) (s : Shared) (σ : St) (H : Hp) (E : Value → Shared → Prop), Inv X pins σ H s → (∀ b ∈ fp, FpOk X pins H b) → tn i s.heap → J.go i H →
    wpAny (model P w) X.A (pyNext (.ref it)) (fun r s1 => ∃ u, r = some u ∧
      wpAny (model P w) X.A (letOwnedTupleGo tg (.ref it) u) (fun _ s2 => ∃ x H', Inv X pins σ H' s2 ∧ RelV x u ∧ J.yld i H x H' ∧ tn (i + 1) s2.heap ∧ ∀ b ∈ fp, H' b = none) E s1) E s
  done : ∀ (X : Cx), X.prog = P → X.w = w → X.K = K → ∀ (x1 : Addr) (i : Nat) (pins : List (Addr × Obj)) (s : Shared) (σ : St) (H : Hp) (E : Value → Shared → Prop), HotAt X.A x1 s.heap → Inv X pins σ H s → (∀ b ∈ fp, FpOk X pins H b) → tn i s.heap → J.stop i H →
    wpAny (model P w) X.A (pyNext (.ref it)) (fun r s1 => r = none ∧ Inv X pins σ H s1) E s
  self : ∀ (A : Around) (i : Nat) (s : Shared) (Q : Value → Shared → Prop) (E : Value → Shared → Prop), tn i s.heap → Q (.ref it) s → wpAny (model P w) A (pyIter (.ref it)) Q E s
theorem turn_listP {P : Program} {w : World} {K : PySem.W.Frag} {tg : Expr} (a it : Addr) : TurnP P w K tg (Itl K a) [it] it (fun i h => h.IsListIter it a i) where
  obj := fun i h st b hb => by
    have e : b = it := by simpa using hb
    subst e
    obtain ⟨o, e, c, d⟩ := st
    exact ⟨o, e, fun v z => by rw [d] at z; cases z⟩
  keep := fun i h h' st k => st.at fun o e => k it (by simp) o e
  item := by
    intro X hP hw hK i pins s σ H E I hf st hg
    subst hP hw hK
    obtain ⟨xs, x, hq, hx⟩ := hg
    obtain ⟨its, rv, p, hz⟩ := I.list hq
    obtain ⟨u, hu, ru⟩ := rv.get hx
    obtain ⟨f0, f1, f2, f3, f4, f5⟩ := hf it (by simp)
    refine wpAny_pyNext_list_item st p.isList (x := u) (by simpa using hu) fun h' st' sb => ?_
    have I1 : Inv X pins σ H { s with heap := h' } := I.turned (t' := s.toks) (fun b o hb e => (sb.2 b hb).trans e) f0 f1 f3 f4 f5
    obtain ⟨o, e, c, d⟩ := id st'
    exact ⟨u, rfl, go_of (s := { s with heap := h' }) e c d (by decide) ⟨x, H, I1, ru, ⟨rfl, fun ys hy => by rw [I.list_inj hy hq]; exact hx⟩, st', fun b hb => (hf b hb).1⟩⟩
  done := by
    intro X hP hw hK x1 i pins s σ H E hot I hf st hg
    subst hP hw hK
    obtain ⟨xs, hq, hx⟩ := hg
    obtain ⟨its, rv, p, hz⟩ := I.list hq
    obtain ⟨f0, f1, f2, f3, f4, f5⟩ := hf it (by simp)
    have hl := rv.length
    exact pyNext_list_end_hot hot st p.isList (by simp; omega) fun h' eb => ⟨rfl, I.turned (t' := s.toks) (fun b o hb e => eb b o hb e) f0 f1 f3 f4 f5⟩
  self := fun _ _ _ _ _ st h => wpAny_pyIter_listiter st h
def PIEP (X : Cx) (pins : List (Addr × Obj)) (σ : St) (tg : Expr) (R : It → Hp → Prop) (itv : Value) (s2 : Shared) : Prop :=
  ∃ (it : Addr) (fp : List Addr) (tn : Nat → Heap → Prop) (J : It) (H' : Hp), itv = .ref it ∧ Inv X pins σ H' s2 ∧ TurnP X.prog X.w X.K tg J fp it tn ∧ tn 0 s2.heap ∧ (∀ b ∈ fp, FpOk X pins H' b) ∧ R J H'
structure PIP (X : Cx) (tg iter : Expr) (wi : TI) : Prop where
  run : ∀ (pins : List (Addr × Obj)) (s : Shared) (σ : St) (H : Hp) (R : It → Hp → Prop), Inv X pins σ H s → wi σ H R →
    wpAny (model X.prog X.w) X.A (eval iter X.env) (fun v s1 => wpAny (model X.prog X.w) X.A (pyIter v) (PIEP X pins σ tg R) X.xe s1) X.xe s
section
variable {X : Cx} {tg : Expr}
theorem pi_listP {l : Expr} {tl : TE} (hl : PE X l tl) : PIP X tg l (iList X.K tl) := by
  refine ⟨fun pins s σ H R I h => ?_⟩
  refine thn (hl.run pins s σ H _ I h) fun v s1 ⟨x, H1, I1, r1, q1⟩ => ?_
  obtain ⟨a, e, ⟨xs, hq⟩, q⟩ := q1
  subst e
  cases r1
  obtain ⟨its, rv, p, hz⟩ := I1.list hq
  refine wpAny_pyIter_list p.isList ?_
  refine ⟨s1.heap.objs.size, [s1.heap.objs.size], _, _, H1, rfl, I1.kept (t' := s1.toks) fun b o e => Heap.get?_push_of_some _ e, turn_listP a _, ⟨_, Heap.get?_push_size _ rfl, rfl, rfl⟩, fun b hb => ?_, q⟩
  have e : b = s1.heap.objs.size := by simpa using hb
  subst e
  exact I1.fpOk (Nat.le_refl _) (I1.hok.fresh (Nat.le_refl _))
theorem lc_coreP {pins : List (Addr × Obj)} {s : Shared} {σ : St} {H : Hp} {Q : VK} {elt iter : Expr} {ifs : List Expr} {scope : Scope} {own : List (Str × Nat)} {pos pos' : Pos} {wi : TI} {g : TG} {tt : TT} {te : TE} {use : Option (Value → Sem Unit)} {Qf : Value → Shared → Prop}
    {pe1 : Addr × Obj} (hot : Hot1 X.A pe1) (hmem : pe1 ∈ X.pn) (hN : X.N.Nodup) (I : Inv X pins σ H s) (hi : PIP X tg iter wi) (ok : BlkOk X.N X.env.scope scope own)
    (hg : ∀ (s : Shared) (H : Hp) (C : Addr) (cl : List (Str × Addr)) (fp : List Addr), PG (X.blk s H scope (compEnvC scope cl C X.env) fp) tg g) (ht : ∀ (s : Shared) (H : Hp) (C : Addr) (cl : List (Str × Addr)) (fp : List Addr), PTs (X.blk s H scope (compEnvC scope cl C X.env) fp) ifs tt)
    (he : ∀ (s : Shared) (H : Hp) (C : Addr) (cl : List (Str × Addr)) (fp : List Addr), PE (X.blk s H scope (compEnvC scope cl C X.env) fp) elt te) (hs : ∀ x, foldedSetIterable iter X.env x = pure x)
    (h : tLc wi g tt te (own.map (·.2)) σ H Q)
    (hRR : ∀ D C s' m H', Inv X pins σ H' s' → Q (.ref D) H' → s'.heap.Ns C m → FpOk X pins H' C → compPost (model X.prog X.w) X.A X.xe use Qf (.ref D) C (.ok .next) s') :
    wpAny (model X.prog X.w) X.A (comprehension (.ListComp elt [⟨tg, iter, ifs, 0⟩] scope pos) scope X.env pos' (newList []) false (eval iter X.env) use) Qf X.xe s := by
  have hfree : ∀ y ∈ scope.names, y.2 = .free → ∃ c, X.env.cells.lookup y.1 = some c := fun y hy e => by
    rcases ok.free y hy e with k | k
    · exact I.ok.has _ (.inl k)
    · exact I.ok.has _ (.inr k)
  refine wpAny_comprehension_free (use := use) rfl hs (closure_ok hfree) ok.kind (fun y hy e => by rw [ok.uniq y hy, e])
    (thn (hi.run pins s σ H _ I h) fun xv s1 hx => thn hx fun itv s2 h2 => ?_)
  obtain ⟨it, fp, tn, J, H2, e, I2, T, st2, f2, q⟩ := h2
  subst e
  refine wpAny_newObj_type (newEnv_comp ?_) (by show 0 ≤ sizeLine; decide)
  generalize hD : s2.heap.objs.size = D
  have hDn : H2 D = none := I2.hok.fresh (Nat.le_of_eq hD)
  obtain ⟨W, ⟨m0, w0⟩, turn⟩ := q D hDn
  generalize hs3 : ({ s2 with heap := s2.heap.push { cls := .type "list", data := .seq ([] : List Value).toArray } } : Shared) = s3
  have I3 : Inv X pins σ (upd H2 D (.lst [])) s3 := by
    rw [← hs3]
    refine I2.laid (t' := s2.toks) (fun b o e => Heap.get?_push_of_some _ e) (Nat.le_of_eq hD) ⟨Nat.zero_le _, [], 0, .nil, ?_⟩
    rw [← hD]
    exact Heap.get?_push_size _ rfl
  have h3 : s3.heap = s2.heap.push { cls := .type "list", data := .seq ([] : List Value).toArray } := by rw [← hs3]
  have sz : ∀ b ∈ fp, b < s2.heap.objs.size := fun b hb => by
    obtain ⟨o, e, _⟩ := T.obj _ _ st2 b hb
    exact Heap.lt_size e
  have f3 : ∀ b ∈ fp, FpOk X pins (upd H2 D (.lst [])) b ∧ b < s3.heap.objs.size := fun b hb => by
    have hlt := sz b hb
    refine ⟨⟨?_, (f2 b hb).2⟩, by rw [h3, Heap.size_push]; exact Nat.lt_succ_of_lt hlt⟩
    rw [upd_ne (by rw [← hD]; exact Nat.ne_of_lt hlt)]
    exact (f2 b hb).1
  have st3 : tn 0 s3.heap := T.keep _ _ _ st2 fun b _ o e => by rw [h3]; exact Heap.get?_push_of_some _ e
  have I4 := block_start I3 ok hN f3
  have P3 := I3.pin pe1 (List.mem_append_left _ hmem)
  have pg := hg s3 (upd H2 D (.lst [])) s3.heap.objs.size (cellsFrom (s3.heap.objs.size + 1) scope.names (cloFrom X.env.cells scope.names [])) fp
  have pt := ht s3 (upd H2 D (.lst [])) s3.heap.objs.size (cellsFrom (s3.heap.objs.size + 1) scope.names (cloFrom X.env.cells scope.names [])) fp
  have pe := he s3 (upd H2 D (.lst [])) s3.heap.objs.size (cellsFrom (s3.heap.objs.size + 1) scope.names (cloFrom X.env.cells scope.names [])) fp
  show codeAny _ _ (.compStart (.ListComp elt [⟨tg, iter, ifs, 0⟩] scope pos) 0 (.ref it) (.ref D) (compEnvC scope (cellsFrom (s3.heap.objs.size + 1) scope.names (cloFrom X.env.cells scope.names [])) s3.heap.objs.size X.env)) (compPost (model X.prog X.w) X.A X.xe use Qf (.ref D) s3.heap.objs.size) { s3 with heap := pushCells (s3.heap.push { cls := .type "dict", data := .dict #[] }) scope.names }
  have nfp : ∀ b ∈ fp, (upd H2 D (.lst [])) b = none := fun b hb => (f3 b hb).1.1
  have lt3 : pe1.1 < s3.heap.objs.size := Heap.lt_size P3.1
  generalize hce : compEnvC scope (cellsFrom (s3.heap.objs.size + 1) scope.names (cloFrom X.env.cells scope.names [])) s3.heap.objs.size X.env = ce at I4 pg pt pe ⊢
  have cL : ce.locals = s3.heap.objs.size := by subst hce; rfl
  generalize hH3 : upd H2 D (.lst []) = H3 at I3 I4 P3 pg pt pe w0 nfp f3
  generalize hs4 : ({ s3 with heap := pushCells (s3.heap.push { cls := .type "dict", data := .dict #[] }) scope.names } : Shared) = s4 at I4 ⊢
  have st4 : tn 0 s4.heap := T.keep _ _ _ st3 fun b _ o e => by rw [← hs4]; exact pushCells_keeps _ _ _ _ (Heap.get?_push_of_some _ e)
  have I4' : Inv (X.blk s3 H3 scope ce fp) [pe1] (wipe σ (own.map (·.2))) H3 s4 := I4.pins_of fun p hp => by
    have e : p = pe1 := by simpa using hp
    subst e
    refine ⟨?_, P3.2.1, ?_, fun hm => (List.mem_cons.mp (I3.stkSub p.1 hm)).elim P3.2.2.1 P3.2.2.2.1, P3.2.2.2.2⟩
    · rw [← hs4]; exact pushCells_keeps _ _ _ _ (Heap.get?_push_of_some _ P3.1)
    · show p.1 ≠ ce.locals
      rw [cL]
      exact Nat.ne_of_lt lt3
  have stat : ∀ {σ' : St} {H' : Hp} {s' : Shared}, Inv (X.blk s3 H3 scope ce fp) [pe1] σ' H' s' → (∀ b ∈ fp, H' b = none) → ∀ b ∈ fp, FpOk (X.blk s3 H3 scope ce fp) [pe1] H' b := fun {σ' H' s'} I' hn b hb =>
    ⟨hn b hb, (I'.ok.exf b hb).1, I'.ok.exfs b hb, .inl hb, fun x c e => (I'.ok.exf b hb).2 x c e, fun p hp => by
      have e : p = pe1 := by simpa using (show p ∈ ([] : List (Addr × Obj)) ++ [pe1] from hp)
      subst e
      exact (f3 b hb).1.2.2.2.2.2 p (List.mem_append_left _ hmem)⟩
  have hotB : ∀ {σ' : St} {H' : Hp} {s' : Shared}, Inv (X.blk s3 H3 scope ce fp) [pe1] σ' H' s' → HotAt (X.blk s3 H3 scope ce fp).A pe1.1 s'.heap := fun {σ' H' s'} I' => hotAt hot (I'.pin pe1 (List.mem_append_right _ List.mem_cons_self)).1
  have loop : codeAny (model X.prog X.w) X.A (.compLoop (.ListComp elt [⟨tg, iter, ifs, 0⟩] scope pos) 0 (.ref it) (.ref D) ce) (compPost (model X.prog X.w) X.A X.xe use Qf (.ref D) s3.heap.objs.size) s4 := by
    refine compLoop_any (fun n s' => ∃ i H', Inv (X.blk s3 H3 scope ce fp) [pe1] (wipe σ (own.map (·.2))) H' s' ∧ tn i s'.heap ∧ (∀ b ∈ fp, H' b = none) ∧ W i n H') ?_ m0 ⟨0, H3, I4', st4, nfp, w0⟩
    rintro n s5 ⟨i, H5, I5, st5, n5, w5⟩
    rcases turn i n H5 w5 with ⟨stop, qq⟩ | ⟨go, Nx, hNx, step⟩
    · have td := T.done (X.blk s3 H3 scope ce fp) rfl rfl rfl pe1.1 i [pe1] s5 _ H5 (fun _ _ => False) (hotB I5) I5 (stat I5 n5) st5 stop
      refine thnF td fun r s6 ⟨hr, I6⟩ => ?_
      subst hr
      have I7 : Inv X pins σ H5 s6 := I3.call' (ch := fp) I6.os I6.base I6.hok I6.bare fun b hb => ⟨(f3 b hb).1.2.2.2.1, (f3 b hb).1.2.1, (f3 b hb).1.2.2.2.2.1, (f3 b hb).1.2.2.2.2.2⟩
      have nC : H5 s3.heap.objs.size = none := by
        have z : H5 ce.locals = none := I6.free
        rw [cL] at z
        exact z
      obtain ⟨m, hn, _⟩ := I6.loc
      have hn : s6.heap.Ns ce.locals m := hn
      rw [cL] at hn
      exact hRR D s3.heap.objs.size s6 m H5 I7 qq hn (I3.fpOk (Nat.le_refl _) nC)
    · have ti := T.item (X.blk s3 H3 scope ce fp) rfl rfl rfl i [pe1] s5 _ H5 (fun _ _ => False) I5 (stat I5 n5) st5 go
      refine thnF ti fun r s6 ⟨u, hr, h6⟩ => ?_
      subst hr
      refine thnF h6 fun _ s7 ⟨x, H7, I7, r7, y7, st7, n7⟩ => ?_
      have I7' := I7.pinned (stat I7 n7) (T.obj _ _ st7)
      refine thnF (pg.run _ s7 _ H7 x u _ I7' r7 (step x H7 y7)) fun _ s8 ⟨σ8, H8, I8, hw8, q8⟩ => ?_
      refine thnF (pt.run _ s8 σ8 H8 _ I8 q8) fun b s9 ⟨H9, I9, q9⟩ => ?_
      have fin : ∀ {s' : Shared} {H' : Hp}, Inv (X.blk s3 H3 scope ce fp) ([pe1] ++ pinsAt fp s7.heap) σ8 H' s' → Nx H' → ∃ m, m < n ∧ ∃ i H', Inv (X.blk s3 H3 scope ce fp) [pe1] (wipe σ (own.map (·.2))) H' s' ∧ tn i s'.heap ∧ (∀ b ∈ fp, H' b = none) ∧ W i m H' := fun {s' H'} I' nx => by
        obtain ⟨m', hm, w'⟩ := hNx H' nx
        have pin' : ∀ b ∈ fp, ∀ o, s7.heap.get? b = some o → s'.heap.get? b = some o ∧ H' b = none := fun b hb o e =>
          let z := I'.pin (b, o) (List.mem_append_right _ (List.mem_append_right _ (mem_pinsAt hb e)))
          ⟨z.1, z.2.1⟩
        have hl : (wipe σ (own.map (·.2))).length = σ8.length := by rw [← hw8, wipe_length]
        refine ⟨m', hm, i + 1, H', (I'.unpinned (pins := [pe1])).weak hl (fun j v e => ?_), T.keep _ _ _ st7 fun b hb o e => (pin' b hb o e).1, fun b hb => ?_, w'⟩
        · rw [← hw8] at e
          exact (wipe_some e).1
        · obtain ⟨o, e, _⟩ := T.obj _ _ st7 b hb
          exact (pin' b hb o e).2
      cases b with
      | false =>
        simp only [Bool.false_eq_true, if_false] at q9 ⊢
        exact fin I9 q9
      | true =>
        simp only [if_true] at q9 ⊢
        refine thnF (pe.run _ s9 σ8 H9 _ I9 q9) fun z s10 ⟨yv, H10, I10, r10, acc, hD10, hz10, nx⟩ => ?_
        exact app_ok (X := X.blk s3 H3 scope ce fp) I10 hD10 hz10 r10 fun s11 I11 => fin I11 nx
  exact codeAny_compStart_list loop (T.self X.A 0 _ _ _ st4 loop)
/-- as a value -/
theorem pe_lcP {elt iter : Expr} {ifs : List Expr} {scope : Scope} {own : List (Str × Nat)} {pos : Pos} {wi : TI} {g : TG} {tt : TT} {te : TE} {pe1 : Addr × Obj} (hot : Hot1 X.A pe1) (hmem : pe1 ∈ X.pn) (hN : X.N.Nodup) (hi : PIP X tg iter wi) (ok : BlkOk X.N X.env.scope scope own)
    (hg : ∀ (s : Shared) (H : Hp) (C : Addr) (cl : List (Str × Addr)) (fp : List Addr), PG (X.blk s H scope (compEnvC scope cl C X.env) fp) tg g) (ht : ∀ (s : Shared) (H : Hp) (C : Addr) (cl : List (Str × Addr)) (fp : List Addr), PTs (X.blk s H scope (compEnvC scope cl C X.env) fp) ifs tt)
    (he : ∀ (s : Shared) (H : Hp) (C : Addr) (cl : List (Str × Addr)) (fp : List Addr), PE (X.blk s H scope (compEnvC scope cl C X.env) fp) elt te) (hs : ∀ x, foldedSetIterable iter X.env x = pure x := by intro _; rfl) :
    PE X (.ListComp elt [⟨tg, iter, ifs, 0⟩] scope pos) (tLc wi g tt te (own.map (·.2))) := by
  refine ⟨fun pins s σ H Q I h => ?_⟩
  rw [eval_ListComp]
  refine lc_coreP hot hmem hN I hi ok hg ht he hs h fun D C s' m H' I' q hn f => ⟨m, hn, fun h'' sb => ?_⟩
  obtain ⟨f0, f1, f2, f3, f4, f5⟩ := f
  exact ⟨.ref D, H', I'.turned (t' := s'.toks) (fun b o hb e => (sb.2 b hb).trans e) f0 f1 f3 f4 f5, rfl, q⟩
end
end DH

set_option maxRecDepth 100000
set_option maxHeartbeats 2000000
/-! HT2: isinstance of the exception that is handled, with or without a dict of its own (after HandS.ExcIs). -/
namespace PySem.W
open PySem PySem.Spec PySem.Calls PyProof.Rows
section
variable {prog : Program} {w : World} {A : Around} {E : Value → Shared → Prop} {s : Shared} {K : Frag} {x D : Addr} {ox : Obj} {od : Option Obj}
theorem dh_findData {C : Addr} {name : Str} {a g : Value} (hc : (clsIn K C).isSome = true) (ha : findIn K (.ref C) name = some (some a)) (hg : specialIn K a "__get__" = some (some g)) (ht : takesIn K a = some true) : findObj K C od name = some (.bind g a) := by
  obtain ⟨cd, hc⟩ := Option.isSome_iff_exists.mp hc
  unfold findObj
  rw [hc, Option.bind_some, ha, Option.bind_some]
  simp [hg, ht]
theorem dh_classE {Q : Option Value → Shared → Prop} (hga : findIn K (.ref D) "__getattribute__" = some (some (.builtin "BaseException.__getattribute__"))) (hgt : findIn K (.ref D) "__getattr__" = some none) (hsub : subIn K (.ref D) (.type "BaseException") = some true)
    (hdct : hasDictIn K D = true) (ha : findIn K (.ref D) "__class__" = some (some (.builtin "object.__class__")))
    (hn : specialIn K (.builtin "object.__class__") "__get__" = some (some (.builtin "getset_descriptor.__get__"))) (htk : takesIn K (.builtin "object.__class__") = some true) (hm : mroIn K D (.type "object") = some true)
    (X : K.In s.heap) (I : InstAt s.heap x ox D od) (h : Q (some (.ref D)) { s with toks := s.toks + 1 }) : wpAny (model prog w) A (getAttr? (.ref x) "__class__") Q E s := by
  have hf : findObj K D od "__class__" = some (.bind (.builtin "getset_descriptor.__get__") (.builtin "object.__class__")) := dh_findData (by obtain ⟨cd, hc, _⟩ := any_some hdct; rw [hc]; rfl) ha hn htk
  obtain ⟨hp, g, d, t, os⟩ := s
  have L0 := I.type (M := model prog w)
  have L1 := looks_findIn (M := model prog w) X hga
  have L2 := looks_findIn (M := model prog w) X hgt
  have L3 := looks_find (M := model prog w) X I hf
  have sub : Looks (model prog w) hp (isInstance (.ref x) (.type "BaseException")) true := L0.andThen (looks_subIn X hsub)
  have hx0 : (false && onTheHeap (Value.builtin "BaseException.__getattribute__")) = false := rfl
  have hx2 : (Value.builtin "BaseException.__getattribute__" == Value.builtin "object.__getattribute__") = false := by decide +kernel
  have hx1 : (onTheHeap (Value.ref D) && Value.builtin "BaseException.__getattribute__" == Value.builtin "object.__getattribute__") = false := by rw [hx2]; rfl
  unfold getAttr? getAttrBy? getAttrBy
  refine wpAny_bind (wpAny_mkText (wpAny_bind (wpAny_attempt (wpAny_holding (wpAny_bind (L0.at (wpAny_bind (L1.at ?_))))))))
  show wpAny _ _ (if (onTheHeap (Value.ref D) && Value.builtin "BaseException.__getattribute__" == Value.builtin "object.__getattribute__") = true then _ else _) _ _ _
  rw [hx1, if_neg Bool.false_ne_true]
  unfold getAttrByItsOwn hookBefore
  refine wpAny_bind ?_
  rw [if_pos (show onTheHeap (Value.ref D) = true from rfl)]
  refine L2.at ?_
  refine wpAny_bind (wpAny_attempt (wpAny_holding ?_))
  unfold callGetattribute
  rw [hx0, if_neg Bool.false_ne_true]
  unfold boundAndCalled
  rw [PySem.F.excAttr_ValueError.ga.bind (.ref x)]
  refine wpAny_bind (wpAny_pure ?_)
  show wpAny _ _ (call (.builtin "BaseException.__getattribute__") [.ref x, .str "__class__" t]) _ _ _
  refine wpAny_call (codeAny_call_builtin PySem.F.excAttr_ValueError.ga.plain PySem.F.entry_bexc_ga ?_)
  refine @check_slot (model prog w) _ _ ⟨hp, g, d, t + 1, os⟩ "BaseException.__getattribute__" "BaseException" "__getattribute__" (.ref x) [.str "__class__" t] [] _ (by decide +kernel) (by decide +kernel) sub (PySem.F.args_bexc_ga (.ref x) (.str "__class__" t)) ?_
  unfold Builtin.«object.__getattribute__»
  refine wpAny_bind (wpAny_of_eq (a := ((Value.ref x : Value), [Value.str "__class__" t])) (by first | rfl | (simp only [slotArgs]; rfl)) ?_)
  refine wpAny_bind (wpAny_pure (wpAny_bind (L0.at (wpAny_bind (L3.at ?_)))))
  show wpAny _ _ (holding [Value.builtin "object.__class__"] (call (.builtin "getset_descriptor.__get__") [.builtin "object.__class__", .ref x, .ref D]) >>= ret) _ _ _
  refine wpAny_bind (wpAny_holding (wpAny_call (class_get (s := ⟨hp, g, d, t + 1, os⟩) (ox := ox) (od := od) X I hm ?_)))
  refine wpAny_pure ?_
  show wpAny _ _ (handedOut (.ref D)) _ _ _
  rw [handedOut_of (v := .ref D) rfl]
  first
    | exact wpAny_pure (wpAny_pure h)
    | exact wpAny_pure h
    | exact wpAny_pure (wpAny_bind (wpAny_pure (wpAny_pure h)))
theorem dh_kitx (hga : findIn K (.ref D) "__getattribute__" = some (some (.builtin "BaseException.__getattribute__"))) (hgt : findIn K (.ref D) "__getattr__" = some none) (hsub : subIn K (.ref D) (.type "BaseException") = some true) (hdct : hasDictIn K D = true) (ha : findIn K (.ref D) "__class__" = some (some (.builtin "object.__class__")))
    (hn : specialIn K (.builtin "object.__class__") "__get__" = some (some (.builtin "getset_descriptor.__get__"))) (htk : takesIn K (.builtin "object.__class__") = some true) (hm : mroIn K D (.type "object") = some true) :
    KitX K (.ref x) (.ref D) (fun h => InstAt h x ox D od) where
  ty := fun _ _ _ I => I.type
  it := fun _ _ X _ => by
    obtain ⟨cdD, hcD, _⟩ := any_some hdct
    unfold clsIn at hcD
    split at hcD
    · rename_i c' d' cd' sl' ho
      intro A' Q' E' s' k q
      unfold isType loadHead
      exact wpAny_bind (wpAny_loadPart (k _ _ (X _ _ ho)) (wpAny_pure q))
    · cases hcD
  ne := fun h tp dd its n sl X htp => by
    obtain ⟨cdD, hcD, _⟩ := any_some hdct
    refine Bool.eq_false_iff.mpr fun q => ?_
    have e : D = tp := Value.ref.inj (beq_iff_eq.mp q)
    subst e
    unfold clsIn at hcD
    split at hcD
    · rename_i c' d' cd' sl' ho
      have z := (X _ _ ho).symm.trans htp
      cases z
    · cases hcD
  ca := fun X I k => dh_classE hga hgt hsub hdct ha hn htk hm X I k
end
end PySem.W
namespace DH
open PySem PySem.Spec PyProof.Rows L2 L2H HotX
/-- the exception's dict stands -/
def XdIn (H : Hp) (dx : Option Addr) : Prop := ∀ d, dx = some d → ∃ fs, H d = some (.xd fs)
def rIsP (K : PySem.W.Frag) (D a : Addr) (dx : Option Addr) : List V → Hp → VK → Prop := fun xs H Q => ∃ (c : V) (cv : Value) (b : Bool), xs = [.ref a, c] ∧ (∀ u, RelV c u → u = cv) ∧ PySem.W.kitOne K (.ref D) cv = some b ∧ XdIn H dx ∧ Q (.bl b) H
theorem call_isP {X : Cx} {D : Addr} {p : Addr × Obj} {dx : Option Addr} (C : ExcC X.K D) (hz : Zc (.ref D) dx p.2) (hf : ∃ vs, p.2.data = .fields vs) (hm : p ∈ X.pn) : CallR X (.builtin "isinstance") (rIsP X.K D p.1 dx) := by
  intro pins s σ H xs us Q I r h
  obtain ⟨c, cv, b, rfl, hcv, e, hd, q⟩ := h
  cases r with
  | cons rx rr =>
    cases rr with
    | cons rt rr =>
      cases rr
      cases rx
      have ec := hcv _ rt
      subst ec
      obtain ⟨hget, _⟩ := I.pin p (List.mem_append.mpr (.inl hm))
      obtain ⟨vs, hv⟩ := hf
      obtain ⟨a, oe⟩ := p
      have J : ∃ od, PySem.W.InstAt s.heap a oe D od := by
        obtain ⟨oc, odd, oda, osl⟩ := oe
        obtain ⟨h1, h2⟩ := hz
        dsimp only at h1 h2 hv hget
        subst h1 h2 hv
        cases odd with
        | none => exact ⟨none, hget, rfl, rfl, trivial⟩
        | some d =>
          obtain ⟨fs, hx⟩ := hd d rfl
          have hx : ObjOk X.prog X.w H s.heap d (.xd fs) := I.hok d _ hx
          obtain ⟨mA, ⟨o, es, ep, ho, _⟩, _⟩ := hx
          exact ⟨some o, hget, rfl, rfl, ho⟩
      obtain ⟨od, J⟩ := J
      exact PySem.W.kia_one (PySem.W.dh_kitx C.hg C.hk C.hs C.hd C.ha C.hn C.ht C.hm) I.kIn J e (fun z => nomatch z) fun tk => ⟨.bl b, H, I.kept (t' := tk) fun _ _ z => z, rfl, q⟩
end DH

set_option maxRecDepth 100000
set_option maxHeartbeats 2000000
/-! HT3: a def called in an except suite, one exception fixed; the law's word for an exception. -/
namespace DH
open PySem PySem.Spec PyProof.Rows L2 L2H HotX DM
/-- what a def promises while p is handled -/
structure FnP (P : Program) (w : World) (K : PySem.W.Frag) (mg : Str → Option Value) (base : Heap) (CX : CXT) (k : Nat) (f : Addr) (fd : FuncData) (ps : List Str) (p : Addr × Obj) (sp : Sp) : Prop where
  len : ∀ vs H Q E, sp vs H Q E → vs.length = ps.length
  run : ∀ (A : Around) (outer : List PySem.Env) (s : Shared) (H : Hp) (args : Args) (us : List Value) (vs : List V) (Q : VK) (E : XK), RoomH k A → Hot1 A p → PinOk outer H s p → Env0 P w K mg base A outer s H → BindsTo s fd args (ps.zip us) → Vals vs us → sp vs H Q E →
    codeAny (model P w) A (.call (.ref f) args) (CR CX outer P w H s Q E) s
theorem fn_ofP {CX : CXT} {P : Program} {w : World} {K : PySem.W.Frag} {mg : Str → Option Value} {base : Heap} {k : Nat} {f : Addr} {name qual : Str} {params : Arguments} {body : List Stmt} {scope : Scope} {dV kV doc pm cdv ct oc : Value} {an od : Option Addr}
    {osl : Array (Option Value)} {N ps : List Str} {sp : Sp} {p : Addr × Obj} (lk : K.lookup f = some ⟨oc, od, .func (PySem.W.fnOf name qual params body scope dV kV doc pm an cdv ct), osl⟩) (hcd : PySem.W.codeIn K cdv qual = true) (S : FnScope N ps scope)
    (len : ∀ vs H Q E, sp vs H Q E → vs.length = ps.length)
    (hbody : ∀ (A : Around) (outer : List PySem.Env) (s : Shared) (H : Hp) (vs : List V) (Q : VK) (E : XK), Hot1 A p → RoomH k (A.deeper (envOfC qual scope s.heap.objs.size f cdv)) → sp vs H Q E →
      ∃ t, PSs (cxH CX P w K mg base N qual scope f cdv A outer s H E p) body t ∧ t { nx := fun _ H' => Q .non H', rt := Q } (L2.start N vs) H) :
    FnP P w K mg base CX (k + 1) f (PySem.W.fnOf name qual params body scope dV kV doc pm an cdv ct) ps p sp := by
  refine ⟨len, fun A outer s H args us vs Q E hr hot hpin e0 hb r hsp => ?_⟩
  have hl := len _ _ _ _ hsp
  have KX : K.In s.heap := e0.mod.kin.keeps fun b o e => (e0.bs b o e).1
  have lim : s.heap.NoLimit := e0.mod.nolimit.keeps fun b o e => (e0.bs b o e).1
  have hkind : ∀ y ∈ ps.zip us, scope.names.lookup y.1 = some .local ∨ (scope.names.lookup y.1 = some .cell ∧ ((cellsFrom (s.heap.objs.size + 1) scope.names []).lookup y.1).isSome = true) := fun ⟨n, v⟩ hy => by
    rcases S.par n (List.of_mem_zip hy).1 with q | q
    · exact .inl q
    · exact .inr ⟨q, PySem.W.cellsFrom_some _ _ _ (.inl q)⟩
  refine codeAny_call_function hr.depth (KX _ _ lk) rfl S.co S.gen rfl (PySem.W.codeRec_of KX hcd) (hb _ _ _ _ ?_)
  refine wpAny_newFunctionEnv_cells S.kind hkind fun env he s1 x => ?_
  subst he
  refine ⟨lim.keeps x.toInCall.keep, codeAny_func ?_⟩
  obtain ⟨t, ht, hq⟩ := hbody A outer s H vs Q E hot (hr.deeper _) hsp
  have I : Inv (cxH CX P w K mg base N qual scope f cdv A outer s H E p) [] (L2.start N vs) H s1 := inv_startH S hpin e0 hl r x
  refine wpAny_mono (ht.run [] s1 (L2.start N vs) H _ I hq) (fun fl s' hs => ?_) fun e s' hs => hs
  have fin : ∀ {σ' : L2.St} {H' : Hp} {v : V} {u : Value}, Inv (cxH CX P w K mg base N qual scope f cdv A outer s H E p) [] σ' H' s' → RelV v u → Q v H' → CE outer P w H s Q u s' :=
    fun {σ' H' v u} J rv q => ⟨v, H', J.os, J.bare, J.base, J.hok, rv, q⟩
  cases fl with
  | ret u =>
    obtain ⟨v, σ', H', J, rv, q⟩ := hs
    exact fin J rv q
  | next =>
    obtain ⟨σ', H', J, q⟩ := hs
    exact fin (v := V.non) (u := Value.none) J rfl q
  | brk =>
    obtain ⟨_, _, _, q⟩ := hs
    exact False.elim q
  | cont =>
    obtain ⟨_, _, _, q⟩ := hs
    exact False.elim q
section
variable {X : Cx} {CX : CXT} {k : Nat} {f C : Addr} {fd : FuncData} {ps : List Str} {sp : Sp} {E : L2.St → XK} {x : Str} {q pos : Pos} {e : Expr} {es : List Expr} {t : TA} {p : Addr × Obj}
theorem pe_callP (F : FnP X.prog X.w X.K X.mg X.base CX k f fd ps p sp) (hr : RoomH k X.A) (hot : Hot1 X.A p) (hp : p ∈ X.pn) (hg : Gl X x) (hm : X.mg x = some (.ref f)) (hk : PySem.W.keepIn X.K (.ref f) = true) (hb : Binds X.K fd ps []) (hx : ∀ σ, PassesAt CX X σ (E σ))
    (ha : PA X (e :: es) t) (hdb : (x == ("__debug__" : Str)) = false) (he : starEach (e :: es) X.env = (false, eval e X.env) :: starEach es X.env) (hpl : (backTo pos (starEach es X.env)).any (·.1) = false) :
    PE X (.Call (.Name x q) (e :: es) [] pos) (tCallS sp E t) := by
  refine ⟨fun pins s σ H Q I h => ?_⟩
  refine wpAny_Call_Name_kw (ld_glob I hg hm ?_ hdb)
  refine PySem.W.callWith_K (h₀ := X.base) I.ok.mod.kin hk (thn (ha.run pos pins s σ H _ I h) fun us s1 ⟨vs, H1, I1, r, q⟩ => ⟨I1.kIn, ?_⟩) he hpl
  have hl : us.length = ps.length := by rw [← r.length]; exact F.len _ _ _ _ q
  have b := hb s1 us I1.kIn (by rw [List.append_nil]; exact hl)
  rw [List.append_nil] at b
  have P1 := I1.pin p (List.mem_append_left _ hp)
  have hpin : PinOk X.stack H1 s1 p := ⟨P1.1, P1.2.1, fun hm => (List.mem_cons.mp (I1.stkSub p.1 hm)).elim P1.2.2.1 P1.2.2.2.1, P1.2.2.2.2⟩
  refine wpAny_call (codeAny_mono (F.run X.A X.stack s1 H1 ⟨us, []⟩ us vs Q (E σ) hr hot hpin I1.env0 b r q) fun r s' hq => ?_)
  cases r with
  | error e => exact hx σ pins H1 s1 e s' I1 hq
  | ok fl =>
    cases fl with
    | ret u => exact I1.after hq
    | next => exact False.elim hq
    | brk => exact False.elim hq
    | cont => exact False.elim hq
end
/-! ### the law's word -/
section
variable {X : Cx} {p : Addr × Obj} {D : Addr} {dx : Option Addr}
def tIsi (a : Addr) (dx : Option Addr) (b : Bool) : TE := fun σ H Q => σ[0]? = some (some (.ref a)) ∧ XdIn H dx ∧ Q (.bl b) H
/-- the facts of such a context -/
structure IsCx (X : Cx) (p : Addr × Obj) (D : Addr) (dx : Option Addr) : Prop where
  hot : Hot1 X.A p
  mem : p ∈ X.pn
  zc : Zc (.ref D) dx p.2
  fl : ∃ vs, p.2.data = .fields vs
  ec : ExcC X.K D
  nd : X.N.Nodup
  n0 : X.N[0]? = some ("_law_e" : Str)
  n1 : X.N[1]? = some ("_law_word" : Str)
  n2 : X.N[2]? = some ("_law_kinds" : Str)
  n3 : X.N[3]? = some ("_law_words" : Str)
  v0 : Vis X.env.scope "_law_e"
  l2 : X.env.scope.names.lookup ("_law_kinds" : Str) = some .local
  l3 : X.env.scope.names.lookup ("_law_words" : Str) = some .local
  gi : Gl X "isinstance"
  mi : X.mg "isinstance" = none
  gv : Gl X "ValueError"
  mv : X.mg "ValueError" = none
  un : X.A.units + 65 < cLine
theorem pe_isi (c : IsCx X p D dx) {x : Str} {v : V} {cv : Value} {b : Bool} {q1 q2 q3 q4 : Pos} (hc : PE X (.Name x q3) (tC v)) (hv : ∀ u, RelV v u → u = cv) (hk : PySem.W.kitOne X.K (.ref D) cv = some b) :
    PE X (.Call (.Name "isinstance" q1) [.Name "_law_e" q2, .Name x q3] [] q4) (tIsi p.1 dx b) :=
  PE_imp (pe_callB (call_isP c.ec c.zc c.fl c.mem) c.gi c.mi boot_isi (pa_cons (pe_var c.n0 c.v0) (pa_cons hc pa_nil)) (by decide) (by decide) (by rfl) (by rfl)) fun σ H Q ⟨h0, hd, q⟩ => ⟨.ref p.1, h0, ⟨v, cv, b, rfl, hv, hk, hd, q⟩⟩
theorem rel_ref {C : Addr} {u : Value} (h : RelV (.ref C) u) : u = .ref C := h
theorem rel_ty {n : String} {u : Value} (h : RelV (.ty n) u) : u = .type n := h
abbrev isPre (p1 p2 p3 p4 p5 p6 p7 p8 p9 p10 : Pos) (a1 a2 a3 a4 b1 b2 b3 b4 c1 c2 c3 c4 d1 d2 d3 d4 e1 e2 e3 e4 w1 w2 w3 w4 w5 : Pos) (j1 j2 j3 j4 j5 : Nat) (last : Stmt) : List Stmt :=
  [.Assign [.Name "_law_kinds" p1] (.List [.Call (.Name "isinstance" a1) [.Name "_law_e" a2, .Name "BadSet" a3] [] a4, .Call (.Name "isinstance" b1) [.Name "_law_e" b2, .Name "BadSpot" b3] [] b4, .Call (.Name "isinstance" c1) [.Name "_law_e" c2, .Name "NoLaying" c3] [] c4, .Call (.Name "isinstance" d1) [.Name "_law_e" d2, .Name "TooMany" d3] [] d4] p2) p3,
   .Expr (.Call (.Attribute (.Name "_law_kinds" p4) "append" p5) [.Call (.Name "isinstance" e1) [.Name "_law_e" e2, .Name "BadText" e3] [] e4] [] p6) p7,
   .Assign [.Name "_law_words" p8] (.List [.Constant (.str "set") j1 w1, .Constant (.str "spot") j2 w2, .Constant (.str "none") j3 w3, .Constant (.str "many") j4 w4, .Constant (.str "text") j5 w5] p9) p10, last]
/-- what the classes answer -/
structure IsKinds (X : Cx) (D : Addr) (ks : List Bool) : Prop where
  ok : ∃ (C1 C2 C3 C4 C5 : Addr) (b1 b2 b3 b4 b5 : Bool), ks = [b1, b2, b3, b4, b5] ∧ (Gl X "BadSet" ∧ X.mg "BadSet" = some (.ref C1) ∧ PySem.W.kitOne X.K (.ref D) (.ref C1) = some b1) ∧ (Gl X "BadSpot" ∧ X.mg "BadSpot" = some (.ref C2) ∧ PySem.W.kitOne X.K (.ref D) (.ref C2) = some b2) ∧
    (Gl X "NoLaying" ∧ X.mg "NoLaying" = some (.ref C3) ∧ PySem.W.kitOne X.K (.ref D) (.ref C3) = some b3) ∧ (Gl X "TooMany" ∧ X.mg "TooMany" = some (.ref C4) ∧ PySem.W.kitOne X.K (.ref D) (.ref C4) = some b4) ∧ (Gl X "BadText" ∧ X.mg "BadText" = some (.ref C5) ∧ PySem.W.kitOne X.K (.ref D) (.ref C5) = some b5) ∧
    PySem.W.kitOne X.K (.ref D) (.type "ValueError") = some true
theorem lstI {K : PySem.W.Frag} {H : Hp} {a : Addr} {xs : List V} (h : H a = some (.lst xs)) : SqL K H a xs := SqL.of h
theorem xd_upd {H : Hp} {dx : Option Addr} {a : Addr} {o : HO} (h : XdIn H dx) (n : H a = none ∨ ∃ xs, H a = some (.lst xs)) : XdIn (upd H a o) dx := fun d e => by
  obtain ⟨fs, hx⟩ := h d e
  refine ⟨fs, ?_⟩
  rw [upd_ne]
  · exact hx
  · rintro rfl
    rcases n with n | ⟨xs, n⟩
    · rw [n] at hx; cases hx
    · rw [n] at hx; cases hx
theorem is_pre (c : IsCx X p D dx) {ks : List Bool} (hk : IsKinds X D ks) {p1 p2 p3 p4 p5 p6 p7 p8 p9 p10 : Pos} {a1 a2 a3 a4 b1 b2 b3 b4 c1 c2 c3 c4 d1 d2 d3 d4 e1 e2 e3 e4 w1 w2 w3 w4 w5 : Pos} {j1 j2 j3 j4 j5 : Nat} {last : Stmt} {tl : TS}
    (hline : (p5.endLine == p6.line) = true) (hl : PS X last tl) : ∃ t, PSs X (isPre p1 p2 p3 p4 p5 p6 p7 p8 p9 p10 a1 a2 a3 a4 b1 b2 b3 b4 c1 c2 c3 c4 d1 d2 d3 d4 e1 e2 e3 e4 w1 w2 w3 w4 w5 j1 j2 j3 j4 j5 last) t ∧
      ∀ (N : Ends) (σ : L2.St) (H : Hp), 4 ≤ σ.length → σ[0]? = some (some (.ref p.1)) → XdIn H dx →
        (∀ (A B : Addr) (H' : Hp), H A = none → H B = none → A ≠ B → Same H H' → H' A = some (.lst (ks.map V.bl)) → H' B = some (.lst (wordsS.map V.str)) → XdIn H' dx → tl { N with nx := tNext N } ((σ.set 2 (some (.ref A))).set 3 (some (.ref B))) H') → t N σ H := by
  obtain ⟨C1, C2, C3, C4, C5, k1, k2, k3, k4, k5, rfl, ⟨g1, m1, q1⟩, ⟨g2, m2, q2⟩, ⟨g3, m3, q3⟩, ⟨g4, m4, q4⟩, ⟨g5, m5, q5⟩, _⟩ := hk.ok
  have cl : ∀ {x : Str} {C : Addr} {b : Bool} {r1 r2 r3 r4 : Pos}, Gl X x → X.mg x = some (.ref C) → PySem.W.kitOne X.K (.ref D) (.ref C) = some b → (x == ("__debug__" : Str)) = false → PE X (.Call (.Name "isinstance" r1) [.Name "_law_e" r2, .Name x r3] [] r4) (tIsi p.1 dx b) :=
    fun g m q db => pe_isi c (pe_glob g m (v := .ref _) rfl db) (fun _ h => rel_ref h) q
  have s1 := ps_asg (X := X) (tg := .Name "_law_kinds" p1) (pos := p3) (pe_lst (pos := p2) (pa_cons (cl (r1 := a1) (r2 := a2) (r3 := a3) (r4 := a4) g1 m1 q1 (by decide)) (pa_cons (cl (r1 := b1) (r2 := b2) (r3 := b3) (r4 := b4) g2 m2 q2 (by decide)) (pa_cons (cl (r1 := c1) (r2 := c2) (r3 := c3) (r4 := c4) g3 m3 q3 (by decide)) (pa_cons (cl (r1 := d1) (r2 := d2) (r3 := d3) (r4 := d4) g4 m4 q4 (by decide)) pa_nil))))) (pg_name c.nd c.n2 (.inl c.l2) (.inr c.l2))
  have s2 := ps_expr (X := X) (pos := p7) (pe_bm (apos := p5) (cpos := p6) PySem.F.plainAttrs_list PySem.F.slot_list_append PySem.F.type_list_append mt_append (pe_var (pos := p4) c.n2 (.inl c.l2)) (pa_cons (cl (r1 := e1) (r2 := e2) (r3 := e3) (r4 := e4) g5 m5 q5 (by decide)) pa_nil) (hline := hline))
  have s3 := ps_asg (X := X) (tg := .Name "_law_words" p8) (pos := p10) (pe_lst (pos := p9) (pa_cons (show PE X (.Constant (.str "set") j1 w1) (tC (.str "set")) from pe_str) (pa_cons (show PE X (.Constant (.str "spot") j2 w2) (tC (.str "spot")) from pe_str) (pa_cons (show PE X (.Constant (.str "none") j3 w3) (tC (.str "none")) from pe_str) (pa_cons (show PE X (.Constant (.str "many") j4 w4) (tC (.str "many")) from pe_str) (pa_cons (show PE X (.Constant (.str "text") j5 w5) (tC (.str "text")) from pe_str) pa_nil)))))) (pg_name c.nd c.n3 (.inl c.l3) (.inr c.l3))
  refine ⟨_, pss_cons s1 (pss_cons s2 (pss_cons s3 (pss_cons hl pss_nil))), fun N σ H hlen h0 hd hq => ?_⟩
  refine ⟨h0, hd, h0, hd, h0, hd, h0, hd, by show 4 ≤ sizeLine; decide, fun A hA => ?_⟩
  have e0 : (σ.set 2 (some (V.ref A)))[0]? = some (some (.ref p.1)) := by rw [List.getElem?_set_ne (by decide)]; exact h0
  have e2 : (σ.set 2 (some (V.ref A)))[2]? = some (some (.ref A)) := List.getElem?_set_self (by omega)
  have hd1 : XdIn (upd H A (.lst [.bl k1, .bl k2, .bl k3, .bl k4])) dx := xd_upd hd (.inl hA)
  refine ⟨.ref A, e2, tyV_list (lstI upd_same), e0, hd1, A, _, .bl k5, rfl, rfl, upd_same, by show 4 < sizeLine; decide, ?_⟩
  have hd2 : XdIn (upd (upd H A (.lst [.bl k1, .bl k2, .bl k3, .bl k4])) A (.lst ([.bl k1, .bl k2, .bl k3, .bl k4] ++ [.bl k5]))) dx := xd_upd hd1 (.inr ⟨_, upd_same⟩)
  refine ⟨by show 5 ≤ sizeLine; decide, fun B hB => ?_⟩
  have hBA : B ≠ A := by rintro rfl; rw [upd_same] at hB; cases hB
  have hB0 : H B = none := by rw [upd_ne hBA, upd_ne hBA] at hB; exact hB
  refine hq A B _ hA hB0 (Ne.symm hBA) (fun b o e => ?_) ?_ upd_same (xd_upd hd2 (.inl hB))
  · have h1 : b ≠ A := by rintro rfl; rw [hA] at e; cases e
    have h2 : b ≠ B := by rintro rfl; rw [hB0] at e; cases e
    rw [upd_ne h2, upd_ne h1, upd_ne h1]
    exact e
  · rw [upd_ne (Ne.symm hBA), upd_same]
    rfl
end
end DH

set_option maxRecDepth 100000
set_option maxHeartbeats 2000000
/-! HT4: the law's word for an exception: the answer. -/
namespace DH
open PySem PySem.Spec PyProof.Rows L2 L2H HotX DM
abbrev isLast (a1 a2 a3 a4 q1 q2 q3 q4 r1 r2 r3 r4 r5 r6 : Pos) (scope : Scope) : Stmt :=
  .Return (some (.BoolOp .And [.Call (.Name "isinstance" a1) [.Name "_law_e" a2, .Name "ValueError" a3] [] a4, .Compare (.Name "_law_kinds" q1) [.Eq] [.ListComp (.Compare (.Name "_law_word" r1) [.Eq] [.Name "_law_one" r2] r3) [⟨.Name "_law_one" r4, .Name "_law_words" r5, [], 0⟩] scope r6] q2] q3)) q4
theorem words_ok {x : Str} {i : Nat} (h : wordsS[i]? = some x) : okD (.str x) = true := by
  have q : (wordsS.all fun x => okD (.str x)) = true := by decide +kernel
  exact List.all_eq_true.mp q x (List.mem_of_getElem? h)
theorem dpAll_bl {K : PySem.W.Frag} {H : Hp} : ∀ l : List Bool, DpAll K H (l.map V.bl) (l.map PyData.bool)
  | [] => .nil
  | b :: l => .cons (.bl b) (dpAll_bl l)
section
variable {X : Cx} {p : Addr × Obj} {D : Addr} {dx : Option Addr}
theorem is_last (c : IsCx X p D dx) {ks : List Bool} (hk : IsKinds X D ks) {a1 a2 a3 a4 q1 q2 q3 q4 r1 r2 r3 r4 r5 r6 : Pos} {scope : Scope} (n4 : X.N[4]? = some ("_law_one" : Str)) (ok : BlkOk X.N X.env.scope scope [(("_law_one" : Str), 4)])
    (lb : (relS scope X.env.scope).names.lookup ("_law_one" : Str) = some .local) (vb : Vis (relS scope X.env.scope) "_law_word") : ∃ tl, PS X (isLast a1 a2 a3 a4 q1 q2 q3 q4 r1 r2 r3 r4 r5 r6 scope) tl ∧
      ∀ (N : Ends) (σ : L2.St) (H : Hp) (A B : Addr) (tw : Str), okD (.str tw) = true → 5 ≤ σ.length → σ[0]? = some (some (.ref p.1)) → σ[1]? = some (some (.str tw)) → σ[2]? = some (some (.ref A)) → σ[3]? = some (some (.ref B)) → H A = some (.lst (ks.map V.bl)) → H B = some (.lst (wordsS.map V.str)) → XdIn H dx →
        (∀ H', Same H H' → N.rt (.bl (isAns ks tw)) H') → tl N σ H := by
  obtain ⟨C1, C2, C3, C4, C5, k1, k2, k3, k4, k5, rfl, _, _, _, _, _, qv⟩ := hk.ok
  have e1 : PE X (.Call (.Name "isinstance" a1) [.Name "_law_e" a2, .Name "ValueError" a3] [] a4) (tIsi p.1 dx true) := pe_isi c (pe_bltn c.gv c.mv (v := .ty "ValueError") PyProof.Rows.Boot.«ValueError» rfl (by decide) (by decide)) (fun _ h => rel_ty h) qv
  have he : ∀ (s : Shared) (H : Hp) (C : Addr) (cl : List (Str × Addr)) (fp : List Addr), PE (X.blk s H scope (compEnvC scope cl C X.env) fp) (.Compare (.Name "_law_word" r1) [.Eq] [.Name "_law_one" r2] r3) (tOp (rCmp X.K .eq) (tVar 1) (tVar 4)) := fun s H C cl fp =>
    pe_cmpR (op_cmp (X := X.blk s H scope (compEnvC scope cl C X.env) fp) c.un .eq) (pe_var c.n1 vb) (pe_var n4 (.inl lb)) (by rfl)
  have lc := pe_lcP (pos := r6) c.hot c.mem c.nd (pi_listP (tg := .Name "_law_one" r4) (pe_var (pos := r5) c.n3 (.inl c.l3))) ok (g := gName 4) (fun s H C cl fp => pg_name c.nd n4 (.inl lb) (.inr lb)) (fun s H C cl fp => pts_nil) he (by intro _; rfl)
  have e2 := pe_cmpR (X := X) (pos := q2) (op_cmp c.un .eq) (pe_var (pos := q1) c.n2 (.inl c.l2)) lc (by rfl)
  refine ⟨_, ps_ret (pos := q4) (pe_and (pos := q3) e1 (pe_one e2)), fun N σ H A B tw htw hlen h0 h1 h2 h3 hA hB hd hq => ?_⟩
  refine ⟨h0, hd, true, rfl, ?_⟩
  rw [if_pos rfl]
  refine ⟨.ref A, h2, .ref B, h3, B, rfl, ⟨_, SqL.of hB⟩, fun D3 hD3 => ?_⟩
  have nA : A ≠ D3 := by rintro rfl; rw [hD3] at hA; cases hA
  have nB : B ≠ D3 := by rintro rfl; rw [hD3] at hB; cases hB
  refine lc_list (xs := wordsS.map V.str) (fun i H' => (∀ b, b ≠ D3 → H' b = H b) ∧ H' D3 = some (.lst ((wordsS.take i).map fun x => V.bl ((PyData.str tw).eqv (.str x))))) ⟨fun b hb => upd_ne hb, upd_same⟩ (fun i H' hi ⟨g1, g2⟩ => SqL.of (by rw [g1 B nB]; exact hB)) (fun i x H' hx ⟨g1, g2⟩ => ?_) (fun H' ⟨g1, g2⟩ => ?_)
  · rw [List.getElem?_map] at hx
    obtain ⟨wd, hw, rfl⟩ := Option.map_eq_some_iff.mp hx
    have hi : i < 5 := (List.getElem?_eq_some_iff.mp hw).1
    show _ ∧ _
    refine ⟨?_, ?_⟩
    · show ((σ.set 4 none).set 4 (some (V.str wd))).set 4 none = σ.set 4 none
      rw [List.set_set, List.set_set]
    · show tOp (rCmp X.K .eq) (tVar 1) (tVar 4) ((σ.set 4 none).set 4 (some (V.str wd))) H' _
      refine ⟨.str tw, ?_, .str wd, List.getElem?_set_self (by simp; omega), .str tw, .str wd, .str tw, .str wd, htw, words_ok hw, ?_⟩
      · rw [List.getElem?_set_ne (by decide), List.getElem?_set_ne (by decide)]
        exact h1
      · refine ⟨_, g2, ?_, fun b hb => by rw [upd_ne hb]; exact g1 b hb, ?_⟩
        · rw [List.length_map, List.length_take]
          exact Nat.lt_of_le_of_lt (Nat.min_le_left _ _) (Nat.lt_of_lt_of_le hi (by decide))
        · rw [upd_same, List.take_succ, hw, List.map_append]
          rfl
  · refine ⟨.list [.bool k1, .bool k2, .bool k3, .bool k4, .bool k5], .list (wordsS.map fun x => PyData.bool ((PyData.str tw).eqv (.str x))), .lst (SqL.of (by rw [g1 A nA]; exact hA)) (dpAll_bl [k1, k2, k3, k4, k5]), ?_, rfl, rfl, ?_⟩
    · refine .lst (SqL.of g2) ?_
      have := dpAll_bl (K := X.K) (H := H') (wordsS.map fun x => (PyData.str tw).eqv (.str x))
      rw [List.map_map, List.map_map] at this
      exact this
    · refine hq H' fun b o e => ?_
      rw [g1 b (by rintro rfl; rw [hD3] at e; cases e)]
      exact e
end
end DH

set_option maxRecDepth 100000
set_option maxHeartbeats 2000000
/-! HT5: the law's word for an exception, as a def. -/
namespace DH
open PySem PySem.Spec PyProof.Rows L2 L2H HotX DM
abbrev isN : List Str := ["_law_e", "_law_word", "_law_kinds", "_law_words", "_law_one"]
abbrev isP : List Str := ["_law_e", "_law_word"]
def glB (sc : Scope) (x : Str) : Bool := decide (sc.names.lookup x = some .globalImplicit)
def lcB (sc : Scope) (x : Str) : Bool := decide (sc.names.lookup x = some .local)
def vsB (sc : Scope) (x : Str) : Bool := decide (sc.names.lookup x = some .local) || decide (sc.names.lookup x = some .cell) || decide (sc.names.lookup x = some .free)
theorem vsB_ok {sc : Scope} {x : Str} (h : vsB sc x = true) : Vis sc x := by
  unfold vsB at h
  simp only [Bool.or_eq_true, decide_eq_true_eq] at h
  unfold Vis
  rcases h with (h | h) | h
  · exact .inl h
  · exact .inr (.inl h)
  · exact .inr (.inr h)
def isScB (sc scope : Scope) : Bool := vsB sc "_law_e" && lcB sc "_law_kinds" && lcB sc "_law_words" && glB sc "isinstance" && glB sc "ValueError" && glB sc "BadSet" && glB sc "BadSpot" && glB sc "NoLaying" && glB sc "TooMany" && glB sc "BadText" &&
  lcB (relS scope sc) "_law_one" && vsB (relS scope sc) "_law_word"
/-- what isinstance answers of the class D -/
structure IsK (K : PySem.W.Frag) (mg : Str → Option Value) (D : Addr) (ks : List Bool) : Prop where
  ok : ∃ (C1 C2 C3 C4 C5 : Addr) (b1 b2 b3 b4 b5 : Bool), ks = [b1, b2, b3, b4, b5] ∧ (mg "BadSet" = some (.ref C1) ∧ PySem.W.kitOne K (.ref D) (.ref C1) = some b1) ∧ (mg "BadSpot" = some (.ref C2) ∧ PySem.W.kitOne K (.ref D) (.ref C2) = some b2) ∧
    (mg "NoLaying" = some (.ref C3) ∧ PySem.W.kitOne K (.ref D) (.ref C3) = some b3) ∧ (mg "TooMany" = some (.ref C4) ∧ PySem.W.kitOne K (.ref D) (.ref C4) = some b4) ∧ (mg "BadText" = some (.ref C5) ∧ PySem.W.kitOne K (.ref D) (.ref C5) = some b5) ∧
    PySem.W.kitOne K (.ref D) (.type "ValueError") = some true
  ec : ExcC K D
def spIs (a : Addr) (dx : Option Addr) (ks : List Bool) : Sp := fun vs H Q E => ∃ tw, vs = [.ref a, .str tw] ∧ okD (.str tw) = true ∧ XdIn H dx ∧ ∀ H', Same H H' → Q (.bl (isAns ks tw)) H'
theorem same_trans {A B C : Hp} (h : Same A B) (g : Same B C) : Same A C := fun b o e => g b o (h b o e)
theorem is_ok {P : Program} {w : World} {K : PySem.W.Frag} {mg : Str → Option Value} {base : Heap} {CX : CXT} {x qual : Str} {st : Stmt} {f : Addr} {fd : FuncData} {k : Nat} {scope : Scope} (F : Fun K x qual st f fd) (S : FnScope isN isP (defScope st)) (hsc : isScB (defScope st) scope = true) (hbl : BlkOk isN (defScope st) scope [(("_law_one" : Str), 4)])
    {p1 p2 p3 p4 p5 p6 p7 p8 p9 p10 : Pos} {a1 a2 a3 a4 b1 b2 b3 b4 c1 c2 c3 c4 d1 d2 d3 d4 e1 e2 e3 e4 w1 w2 w3 w4 w5 : Pos} {j1 j2 j3 j4 j5 : Nat} {f1 f2 f3 f4 q1 q2 q3 q4 r1 r2 r3 r4 r5 r6 : Pos}
    (hb : defBody st = isPre p1 p2 p3 p4 p5 p6 p7 p8 p9 p10 a1 a2 a3 a4 b1 b2 b3 b4 c1 c2 c3 c4 d1 d2 d3 d4 e1 e2 e3 e4 w1 w2 w3 w4 w5 j1 j2 j3 j4 j5 (isLast f1 f2 f3 f4 q1 q2 q3 q4 r1 r2 r3 r4 r5 r6 scope)) (hline : (p5.endLine == p6.line) = true)
    (mi : mg "isinstance" = none) (mv : mg "ValueError" = none) {p : Addr × Obj} {D : Addr} {dx : Option Addr} {ks : List Bool} (hz : Zc (.ref D) dx p.2) (hf : ∃ vs, p.2.data = .fields vs) (hk : IsK K mg D ks) : FnP P w K mg base CX (k + 1) f fd isP p (spIs p.1 dx ks) := by
  obtain ⟨oc, od, kV, doc, pm, an, cdv, ct, osl, rfl, lk, hcd⟩ := F.ex
  refine fn_ofP lk hcd S (fun vs H Q E ⟨tw, h, _⟩ => by rw [h]; rfl) fun A outer s H vs Q E hot hr ⟨tw, hvs, htw, hd, hq⟩ => ?_
  simp only [isScB, Bool.and_eq_true] at hsc
  obtain ⟨⟨⟨⟨⟨⟨⟨⟨⟨⟨⟨s1, s2⟩, s3⟩, s4⟩, s5⟩, s6⟩, s7⟩, s8⟩, s9⟩, s10⟩, s11⟩, s12⟩ := hsc
  have gl : ∀ {y : Str}, glB (defScope st) y = true → Gl (cxH CX P w K mg base isN qual (defScope st) f cdv A outer s H E p) y := fun {y} h => show (defScope st).names.lookup y = some .globalImplicit from of_decide_eq_true h
  have c : IsCx (cxH CX P w K mg base isN qual (defScope st) f cdv A outer s H E p) p D dx := ⟨hot, List.mem_singleton.mpr rfl, hz, hf, hk.ec, S.nd, rfl, rfl, rfl, rfl, vsB_ok s1, of_decide_eq_true s2, of_decide_eq_true s3, gl s4, mi, gl s5, mv, by have := hr.un; show (A.deeper (envOfC qual (defScope st) s.heap.objs.size f cdv)).units + 65 < cLine; omega⟩
  obtain ⟨C1, C2, C3, C4, C5, k1, k2, k3, k4, k5, rfl, ⟨m1, y1⟩, ⟨m2, y2⟩, ⟨m3, y3⟩, ⟨m4, y4⟩, ⟨m5, y5⟩, yv⟩ := hk.ok
  have kk : IsKinds (cxH CX P w K mg base isN qual (defScope st) f cdv A outer s H E p) D [k1, k2, k3, k4, k5] := ⟨⟨C1, C2, C3, C4, C5, k1, k2, k3, k4, k5, rfl, ⟨gl s6, m1, y1⟩, ⟨gl s7, m2, y2⟩, ⟨gl s8, m3, y3⟩, ⟨gl s9, m4, y4⟩, ⟨gl s10, m5, y5⟩, yv⟩⟩
  obtain ⟨tl, hl, ql⟩ := is_last c kk (a1 := f1) (a2 := f2) (a3 := f3) (a4 := f4) (q1 := q1) (q2 := q2) (q3 := q3) (q4 := q4) (r1 := r1) (r2 := r2) (r3 := r3) (r4 := r4) (r5 := r5) (r6 := r6) (scope := scope) rfl hbl (of_decide_eq_true s11) (vsB_ok s12)
  obtain ⟨t, ht, qt⟩ := is_pre c kk (p1 := p1) (p2 := p2) (p3 := p3) (p4 := p4) (p5 := p5) (p6 := p6) (p7 := p7) (p8 := p8) (p9 := p9) (p10 := p10) (a1 := a1) (a2 := a2) (a3 := a3) (a4 := a4) (b1 := b1) (b2 := b2) (b3 := b3) (b4 := b4) (c1 := c1) (c2 := c2) (c3 := c3) (c4 := c4) (d1 := d1) (d2 := d2) (d3 := d3) (d4 := d4) (e1 := e1) (e2 := e2) (e3 := e3) (e4 := e4) (w1 := w1) (w2 := w2) (w3 := w3) (w4 := w4) (w5 := w5) (j1 := j1) (j2 := j2) (j3 := j3) (j4 := j4) (j5 := j5) hline hl
  refine ⟨t, by rw [hb]; exact ht, ?_⟩
  subst hvs
  refine qt _ _ _ (by show 4 ≤ 5; decide) rfl hd fun A' B' H' hA hB hne hs hA' hB' hd' => ?_
  exact ql _ _ _ A' B' tw htw (by show 5 ≤ 5; decide) rfl rfl rfl rfl hA' hB' hd' fun H'' hs' => hq H'' (same_trans hs hs')
/-! ### a whole number? -/
def spWh (K : PySem.W.Frag) : Sp := fun vs H Q E => ∃ (v : V) (y : PyData), vs = [v] ∧ (∀ G, Dp K G v y) ∧ ∀ H', Same H H' → Q (.bl (isiD .int y && !isiD .bool y)) H'
def tWi (K : PySem.W.Frag) (t : TyK) : TE := fun σ H Q => ∃ (v : V) (y : PyData), σ[0]? = some (some v) ∧ (∀ G, Dp K G v y) ∧ Q (.bl (isiD t y)) H
theorem pe_wi {X : Cx} {x : Str} {t : TyK} {q1 q2 q3 q4 : Pos} (n0 : X.N[0]? = some x) (v0 : Vis X.env.scope x) (db : (x == ("__debug__" : Str)) = false) (cd : (x == ("__classdict__" : Str)) = false) (gi : Gl X "isinstance") (mi : X.mg "isinstance" = none) (gt : Gl X (Str.ofString (tyS t))) (mt : X.mg (Str.ofString (tyS t)) = none)
    (nn : Str.ofString (tyS t) ≠ "__name__") (nd : (Str.ofString (tyS t) == ("__debug__" : Str)) = false) : PE X (.Call (.Name "isinstance" q1) [.Name x q2, .Name (Str.ofString (tyS t)) q3] [] q4) (tWi X.K t) :=
  PE_imp (pe_callB (r := rIsi X.K) call_isi gi mi boot_isi (pa_cons (pe_var n0 v0 db cd) (pa_cons (pe_bltn gt mt (v := .ty (tyS t)) (boot_ty t) rfl nn nd) pa_nil)) (by decide) (by decide) (by rfl) (by rfl)) fun σ H Q ⟨v, y, h0, d, q⟩ =>
    ⟨v, h0, ⟨v, .ty (tyS t), .type (tyD y), .type (tyS t), isiD t y, rfl, .ty _, tyX_of (d H), kit_isi X.K t y (Dp.nodict (d H)), q⟩⟩
abbrev whBody (x : Str) (a1 a2 a3 a4 b1 b2 b3 b4 p1 p2 p3 : Pos) : List Stmt :=
  [.Return (some (.BoolOp .And [.Call (.Name "isinstance" a1) [.Name x a2, .Name "int" a3] [] a4, .UnaryOp .Not (.Call (.Name "isinstance" b1) [.Name x b2, .Name "bool" b3] [] b4) p1] p2)) p3]
theorem wh_ok {P : Program} {w : World} {K : PySem.W.Frag} {mg : Str → Option Value} {base : Heap} {CX : CXT} {x y qual : Str} {st : Stmt} {f : Addr} {fd : FuncData} {k : Nat} (F : Fun K x qual st f fd) (S : FnScope [y] [y] (defScope st)) {a1 a2 a3 a4 b1 b2 b3 b4 p1 p2 p3 : Pos} (hb : defBody st = whBody y a1 a2 a3 a4 b1 b2 b3 b4 p1 p2 p3)
    (hsc : (vsB (defScope st) y && glB (defScope st) "isinstance" && glB (defScope st) "int" && glB (defScope st) "bool") = true) (db : (y == ("__debug__" : Str)) = false) (cd : (y == ("__classdict__" : Str)) = false) (mi : mg "isinstance" = none) (m1 : mg "int" = none) (m2 : mg "bool" = none) (p : Addr × Obj) : FnP P w K mg base CX (k + 1) f fd [y] p (spWh K) := by
  obtain ⟨oc, od, kV, doc, pm, an, cdv, ct, osl, rfl, lk, hcd⟩ := F.ex
  refine fn_ofP lk hcd S (fun vs H Q E ⟨v, z, h, _⟩ => by rw [h]; rfl) fun A outer s H vs Q E hot hr ⟨v, z, hvs, d, hq⟩ => ?_
  simp only [Bool.and_eq_true] at hsc
  obtain ⟨⟨⟨s1, s2⟩, s3⟩, s4⟩ := hsc
  have gl : ∀ {u : Str}, glB (defScope st) u = true → Gl (cxH CX P w K mg base [y] qual (defScope st) f cdv A outer s H E p) u := fun {u} h => show (defScope st).names.lookup u = some .globalImplicit from of_decide_eq_true h
  have e1 := pe_wi (X := cxH CX P w K mg base [y] qual (defScope st) f cdv A outer s H E p) (x := y) (t := .int) (q1 := a1) (q2 := a2) (q3 := a3) (q4 := a4) rfl (vsB_ok s1) db cd (gl s2) mi (gl s3) m1 (by decide) (by decide)
  have e2 := pe_wi (X := cxH CX P w K mg base [y] qual (defScope st) f cdv A outer s H E p) (x := y) (t := .bool) (q1 := b1) (q2 := b2) (q3 := b3) (q4 := b4) rfl (vsB_ok s1) db cd (gl s2) mi (gl s4) m2 (by decide) (by decide)
  subst hvs
  refine ⟨_, by rw [hb]; exact pss_cons (ps_ret (pos := p3) (pe_and (pos := p2) e1 (pe_one (pe_not (pos := p1) e2)))) pss_nil, ?_⟩
  refine ⟨v, z, rfl, d, isiD .int z, rfl, ?_⟩
  cases hi : isiD .int z with
  | true =>
    rw [if_pos rfl]
    refine ⟨v, z, rfl, d, isiD .bool z, rfl, ?_⟩
    have := hq H (Same.refl H)
    rw [hi, Bool.true_and] at this
    exact this
  | false =>
    rw [if_neg Bool.false_ne_true]
    have := hq H (Same.refl H)
    rw [hi, Bool.false_and] at this
    exact this
/-- an exception's __init__: its arguments become its fields -/
def spX (T : Tab) (c : Nat) (fs : List Nat) : Sp := fun vs H Q E => ∃ (a C : Addr) (us : List V), vs = .ref a :: us ∧ us.length = fs.length ∧ T.cls c = some C ∧ OexC T.K C ∧ (∀ f ∈ fs, PySem.W.findIn T.K (.ref C) (T.fn f) = some none) ∧ H a = some (exo a C none) ∧
  ∀ (H' : Hp) (dx : Addr), (∀ b o, b ≠ a → H b = some o → H' b = some o) → H dx = none → dx ≠ a → H' a = some (exo a C (some dx)) → H' dx = some (exd dx ((fs.map T.fn).zip us).reverse) → Q .non H'
theorem FnP.mono {P : Program} {w : World} {K : PySem.W.Frag} {mg : Str → Option Value} {base : Heap} {CX : CXT} {j k : Nat} {f : Addr} {fd : FuncData} {ps : List Str} {p : Addr × Obj} {sp : Sp} (F : FnP P w K mg base CX j f fd ps p sp) (h : j ≤ k) : FnP P w K mg base CX k f fd ps p sp :=
  ⟨F.len, fun A outer s H args us vs Q E hr => F.run A outer s H args us vs Q E (hr.mono h)⟩
/-! ### what is known of the exceptions -/
structure HxOk (P : Program) (w : World) (K : PySem.W.Frag) (mg : Str → Option Value) (base : Heap) (T : Tab) (k : Nat) (h : Hx) : Prop where
  wd : ∀ g c ks, h.wd g c = some ks → ∃ (f : Addr) (fd : FuncData), mg (T.gn g) = some (.ref f) ∧ PySem.W.keepIn K (.ref f) = true ∧ Binds K fd isP [] ∧ ∀ D, T.cls c = some D → ∀ (p : Addr × Obj) (dx : Option Addr), Zc (.ref D) dx p.2 → (∃ vs, p.2.data = .fields vs) → FnP P w K mg base (L2N.CX P w) k f fd isP p (spIs p.1 dx ks)
  wh : ∀ g, h.wh g = true → ∃ (f : Addr) (fd : FuncData) (y : Str), mg (T.gn g) = some (.ref f) ∧ PySem.W.keepIn K (.ref f) = true ∧ Binds K fd [y] [] ∧ ∀ p : Addr × Obj, FnP P w K mg base (L2N.CX P w) k f fd [y] p (spWh K)
  xi : ∀ c fs, h.xi c = some fs → ∃ (C fI : Addr) (fd : FuncData) (ps : List Str), T.cls c = some C ∧ mg (T.cn c) = some (.ref C) ∧ OexC K C ∧ (∀ f ∈ fs, PySem.W.findIn K (.ref C) (T.fn f) = some none ∧ f < T.nf) ∧ PySem.W.findIn K (.ref C) "__init__" = some (some (.ref fI)) ∧ PySem.W.typeIn K (.ref fI) = some (.type "function") ∧ Binds K fd ps [] ∧ FnOk P w K mg base (L2N.CX P w) k fI fd ps (spX T c fs)
  xf : ∀ c f, h.xf c f = true → ∀ C, T.cls c = some C → XfC K C ∧ PySem.W.findIn K (.ref C) (T.fn f) = some none ∧ f < T.nf
theorem HxOk.mono {P : Program} {w : World} {K : PySem.W.Frag} {mg : Str → Option Value} {base : Heap} {T : Tab} {j k : Nat} {h : Hx} (O : HxOk P w K mg base T j h) (le : j ≤ k) : HxOk P w K mg base T k h := by
  refine ⟨fun g c ks e => ?_, fun g e => ?_, fun c fs e => ?_, O.xf⟩
  · obtain ⟨f, fd, h1, h2, h3, h4⟩ := O.wd g c ks e
    exact ⟨f, fd, h1, h2, h3, fun D hD p dx hz hf => (h4 D hD p dx hz hf).mono le⟩
  · obtain ⟨f, fd, y, h1, h2, h3, h4⟩ := O.wh g e
    exact ⟨f, fd, y, h1, h2, h3, fun p => (h4 p).mono le⟩
  · obtain ⟨C, fI, fd, ps, h1, h2, h3, h4, h5, h6, h7, h8⟩ := O.xi c fs e
    exact ⟨C, fI, fd, ps, h1, h2, h3, h4, h5, h6, h7, h8.mono le⟩
theorem hx0 {P : Program} {w : World} {K : PySem.W.Frag} {mg : Str → Option Value} {base : Heap} {T : Tab} {k : Nat} : HxOk P w K mg base T k {} := ⟨fun _ _ _ e => (nomatch e), fun _ e => (nomatch e), fun _ _ e => (nomatch e), fun _ _ e => (nomatch e)⟩
end DH

set_option maxRecDepth 100000
/-! DM6: what is walked, comprehensions, statements. -/
namespace DM
open PySem PySem.Spec PyProof.Rows L2

/-! ### beside the store -/
section
variable {T : Tab} {B G H : Hp} {α : List Addr} {s : List Cell}
theorem DctR.ext {nd : Bool} {a : Addr} {kvs : List (PyData × PyData)} (h : DctR T nd G H a kvs) : ∃ φ, H a = some (.ext φ) := by
  cases nd with
  | true => obtain ⟨_, ⟨φ, h, _⟩, _⟩ := h; exact ⟨φ, h⟩
  | false => obtain ⟨_, ⟨φ, h, _⟩, _⟩ := h; exact ⟨φ, h⟩
theorem CellR.gb {a : Addr} {c : Cell} (h : CellR T B G H α a c) : B a = none ∨ (∃ o, G a = some o) ∨ ∃ φ, H a = some (.ext φ) := by
  cases c with
  | lst l => exact .inl h.2.1
  | dct nd l => exact .inl h.2.1
  | lck nd l => exact .inr (.inr h.2.ext)
  | ins c l => exact .inl h.2.1
  | fzl l => obtain ⟨vs, h1, _⟩ := h; exact .inr (.inl ⟨_, h1⟩)
  | gone => exact .inl h.1
/-- what B keeps and G does not know is no cell -/
theorem StM.notin (S : StM T B G H α s) {a : Addr} {o : HO} (hb : B a = some o) (hg : G a = none) (ho : ∀ φ, o ≠ .ext φ) : a ∉ α := fun hm => by
  obtain ⟨i, hi, e⟩ := List.getElem_of_mem hm
  have hi' : i < s.length := by rw [← S.len]; exact hi
  rcases (S.cell i a s[i] (by rw [List.getElem?_eq_getElem hi, e]) (List.getElem?_eq_getElem hi')).gb with h | ⟨o, h⟩ | ⟨φ, h⟩
  · rw [hb] at h; cases h
  · rw [hg] at h; cases h
  · rw [S.bh _ _ hb] at h; exact ho φ (Option.some.inj h)
theorem CellR.base {B' : Hp} {a : Addr} (hb : B a = none → B' a = none) : ∀ {c : Cell}, CellR T B G H α a c → CellR T B' G H α a c
  | .lst l, ⟨h1, h2, h3⟩ => ⟨h1, hb h2, h3⟩
  | .dct nd kvs, ⟨h1, h2, h3⟩ => ⟨h1, hb h2, h3⟩
  | .lck nd kvs, ⟨h1, h2⟩ => ⟨h1, h2⟩
  | .ins c fs, ⟨h1, h2, h3⟩ => ⟨h1, hb h2, h3⟩
  | .fzl l, h => h
  | .gone, ⟨h1, h2⟩ => ⟨hb h1, h2⟩
/-- D at hand is kept, too -/
theorem StM.hold (S : StM T B G H α s) {a : Addr} {o : HO} (ha : H a = some o) (hn : a ∉ α) : StM T (upd B a o) G H α s := by
  refine ⟨S.gh, fun b u e => ?_, S.len, S.nd, fun i b c h1 h2 => (S.cell i b c h1 h2).base fun e => ?_⟩
  · by_cases hb : b = a
    · subst hb; rw [upd_same] at e; cases e; exact ha
    · rw [upd_ne hb] at e; exact S.bh b u e
  · rw [upd_ne]
    · exact e
    · rintro rfl; exact hn (List.mem_of_getElem? h1)
theorem StM.unhold (S : StM T (upd B a o) G H α s) (hb : B a = none) : StM T B G H α s := by
  refine ⟨S.gh, fun b u e => S.bh b u (by rw [upd_ne (ne_of_none e hb)]; exact e), S.len, S.nd, fun i b c h1 h2 => (S.cell i b c h1 h2).base fun e => ?_⟩
  cases q : B b with
  | none => rfl
  | some u => rw [upd_ne (ne_of_none q hb), q] at e; cases e
theorem Ext.unhold {a : Addr} {o : HO} {G' : Hp} {α' : List Addr} (x : Ext (upd B a o) G α G' α') (hb : B a = none) : Ext B G α G' α' := ⟨x.g, x.a, fun b h1 h2 => x.b b (by
  cases q : B b with
  | none => exact absurd q h1
  | some u => rw [upd_ne (ne_of_none q hb), q]; exact fun z => by cases z) h2⟩
theorem Ext.held {a : Addr} {o : HO} {G' : Hp} {α' : List Addr} (x : Ext (upd B a o) G α G' α') (hg : G a = none) : G' a = none := x.b a (by rw [upd_same]; exact fun z => by cases z) hg
/-- an object beside is changed -/
theorem StM.side (S : StM T B G H α s) {a : Addr} {o : HO} (hb : B a = none) (hg : G a = none) (hn : a ∉ α) : StM T B G (upd H a o) α s := by
  have k : ∀ b u, b ≠ a → H b = some u → upd H a o b = some u := fun b u h e => by rw [upd_ne h]; exact e
  refine ⟨fun b u e => k b u (ne_of_none e hg) (S.gh b u e), fun b u e => k b u (ne_of_none e hb) (S.bh b u e), S.len, S.nd, fun i b c h1 h2 => (S.cell i b c h1 h2).mono (Same.refl G) ⟨[], by simp⟩ (fun z => z) fun u e => k b u ?_ e⟩
  rintro rfl; exact hn (List.mem_of_getElem? h1)
end

/-! ### a dict that is walked -/
section
variable {T : Tab} {B G H : Hp} {α : List Addr} {s : List Cell}
/-- the dict cell i at a stands as the object o from now on; B keeps it -/
theorem StM.lock (S : StM T B G H α s) {i : Nat} {a : Addr} {nd : Bool} {kvs : List (PyData × PyData)} {o : HO} (ha : α[i]? = some a) (e : s[i]? = some (.dct nd kvs)) (d : DctR T nd G (upd H a o) a kvs) : StM T (upd B a o) G (upd H a o) α (s.set i (.lck nd kvs)) := by
  obtain ⟨hg, hb, _⟩ := S.cell i a _ ha e
  have S2 : StM T B G (upd H a o) α (s.set i (.lck nd kvs)) := S.set ha hg hb ⟨hg, d⟩
  refine ⟨S2.gh, fun b u e => ?_, S2.len, S2.nd, fun j b c h1 h2 => ?_⟩
  · by_cases hb : b = a
    · subst hb; rw [upd_same] at e ⊢; exact e
    · rw [upd_ne hb] at e; exact S2.bh b u e
  · by_cases hj : j = i
    · subst hj
      rw [ha] at h1; cases h1
      have hl : j < s.length := by rw [← S.len]; exact (List.getElem?_eq_some_iff.mp ha).1
      rw [List.getElem?_set_self hl] at h2
      cases h2
      exact ⟨hg, d⟩
    · refine (S2.cell j b c h1 h2).base fun q => ?_
      rw [upd_ne]
      · exact q
      · rintro rfl
        obtain ⟨l1, e1⟩ := List.getElem?_eq_some_iff.mp h1
        obtain ⟨l2, e2⟩ := List.getElem?_eq_some_iff.mp ha
        exact hj ((List.getElem_inj S.nd).mp (e1.trans e2.symm))
/-- .. no longer -/
theorem StM.unlock {G0 : Hp} {α0 : List Addr} {i : Nat} {a : Addr} {nd : Bool} {kvs : List (PyData × PyData)} {o : HO} (S : StM T (upd B a o) G H α s) (x : Ext (upd B a o) G0 α0 G α) (ha : α0[i]? = some a) (hg : G0 a = none) (hb : B a = none) (d : ∀ H', H' a = some o → DctR T nd G H' a kvs) : StM T B G H α (s.set i (.dct nd kvs)) := by
  have S2 := S.unhold hb
  have ha' : α[i]? = some a := by
    obtain ⟨t, e⟩ := x.a
    rw [e, List.getElem?_append_left (List.getElem?_eq_some_iff.mp ha).1]
    exact ha
  exact S2.setG ha' ⟨x.held hg, hb, d H (S.bh _ _ upd_same)⟩
end
/-! ### targets -/
section
variable {T : Tab} {X : Cx} {G : Hp} {α : List Addr}
theorem EnvR.set {ρ : Env} {σ : L2.St} (E : EnvR T G α ρ σ) (i : Nat) {w : W} {v : V} (r : RW T G α w v) : EnvR T G α (ρ.set i (some w)) (σ.set i (some v)) := by
  refine ⟨by simp [E.1], fun j w' e => ?_⟩
  by_cases hj : j = i
  · subst hj
    have hl : j < ρ.length := by simpa using (List.getElem?_eq_some_iff.mp e).1
    rw [List.getElem?_set_self hl] at e
    cases e
    exact ⟨v, by rw [List.getElem?_set_self (by rw [← E.1]; exact hl)], r⟩
  · rw [List.getElem?_set_ne (Ne.symm hj)] at e
    obtain ⟨v', h1, h2⟩ := E.2 j w' e
    exact ⟨v', by rw [List.getElem?_set_ne (Ne.symm hj)]; exact h1, h2⟩
theorem EnvR.unset {ρ : Env} {σ : L2.St} (E : EnvR T G α ρ σ) (i : Nat) : EnvR T G α (ρ.set i none) (σ.set i none) := by
  refine ⟨by simp [E.1], fun j w' e => ?_⟩
  by_cases hj : j = i
  · subst hj
    have hl : j < ρ.length := by simpa using (List.getElem?_eq_some_iff.mp e).1
    rw [List.getElem?_set_self hl] at e
    cases e
  · rw [List.getElem?_set_ne (Ne.symm hj)] at e
    obtain ⟨v', h1, h2⟩ := E.2 j w' e
    exact ⟨v', by rw [List.getElem?_set_ne (Ne.symm hj)]; exact h1, h2⟩
theorem EnvR.wipe {ρ : Env} {σ : L2.St} (E : EnvR T G α ρ σ) : ∀ vs : List Nat, EnvR T G α (wipeE ρ vs) (L2.wipe σ vs)
  | [] => E
  | v :: vs => (EnvR.wipe E vs).unset v
/-- the layer's reading of a target -/
def gAll : List Nat → TGs
  | [] => gNil
  | i :: is => gCons (gName i) (gAll is)
def gT (K : PySem.W.Frag) : Tg → TG
  | .n i => gName i
  | .t is => gTup K is.length (gAll is)
theorem wipe_comm {i : Nat} {v : Option V} : ∀ {vs : List Nat}, i ∉ vs → ∀ {σ : L2.St}, L2.wipe (σ.set i v) vs = (L2.wipe σ vs).set i v
  | [], _, _ => rfl
  | w :: vs, h, σ => by
    show (L2.wipe (σ.set i v) vs).set w none = ((L2.wipe σ vs).set w none).set i v
    rw [wipe_comm (fun z => h (List.mem_cons_of_mem _ z)), List.set_comm]
    rintro rfl; exact h List.mem_cons_self
theorem wipe_set {i : Nat} : ∀ {vs : List Nat}, i ∈ vs → ∀ (σ : L2.St) (v : Option V), L2.wipe (σ.set i v) vs = L2.wipe σ vs
  | w :: vs, h, σ, v => by
    show (L2.wipe (σ.set i v) vs).set w none = (L2.wipe σ vs).set w none
    by_cases hi : i ∈ vs
    · rw [wipe_set hi]
    · have hw : i = w := by
        rcases List.mem_cons.mp h with e | e
        · exact e
        · exact absurd e hi
      subst hw
      rw [wipe_comm hi, List.set_set]
theorem setAll_ok {H : Hp} : ∀ (is : List Nat) {xs : List PyData} {vs : List V} {ρ ρ' : Env} {σ : L2.St} {Q : L2.St → Hp → Prop}, EnvR T G α ρ σ → DpAll T.K G vs xs → setAll ρ is xs = some ρ' → (∀ σ', EnvR T G α ρ' σ' → (∀ vs, (∀ i ∈ is, i ∈ vs) → L2.wipe σ' vs = L2.wipe σ vs) → Q σ' H) → gAll is vs σ H Q := by
  intro is
  induction is with
  | nil =>
    intro xs vs ρ ρ' σ Q E d e q
    cases xs with
    | nil => cases e; cases d; exact ⟨rfl, q σ E fun _ _ => rfl⟩
    | cons x xs => cases e
  | cons i is ih =>
    intro xs vs ρ ρ' σ Q E d e q
    cases xs with
    | nil => cases e
    | cons x xs =>
      cases d with
      | cons d1 d2 =>
        refine ⟨_, _, rfl, ih (E.set i (show RW T G α (.d x) _ from d1)) d2 e fun σ' E' w => q σ' E' fun vs hv => ?_⟩
        rw [w vs fun j hj => hv j (List.mem_cons_of_mem _ hj)]
        exact wipe_set (hv i List.mem_cons_self) _ _
def tgSlots : Tg → List Nat
  | .n i => [i]
  | .t is => is
theorem asgT_ok {H : Hp} {t : Tg} {w : W} {v : V} {ρ ρ' : Env} {σ : L2.St} {Q : L2.St → Hp → Prop} (E : EnvR T G α ρ σ) (gh : Same G H) (r : RW T G α w v) (e : asgT ρ t w = some ρ') (q : ∀ σ', EnvR T G α ρ' σ' → (∀ vs, (∀ i ∈ tgSlots t, i ∈ vs) → L2.wipe σ' vs = L2.wipe σ vs) → Q σ' H) : gT T.K t v σ H Q := by
  cases t with
  | n i =>
    cases e
    exact q _ (E.set i r) fun vs hv => wipe_set (hv i (by simp [tgSlots])) _ _
  | t is =>
    cases w with
    | d x =>
      cases x with
      | tuple l =>
        obtain ⟨a, vs, rfl, h1, d⟩ := (show Dp T.K G v (.tuple l) from r).tup_inv
        refine ⟨a, vs, rfl, Same.seqT gh h1, ?_, setAll_ok _ E d e q⟩
        have : ∀ {is : List Nat} {xs : List PyData} {ρ ρ' : Env}, setAll ρ is xs = some ρ' → xs.length = is.length := by
          intro is
          induction is with
          | nil => intro xs ρ ρ' e; cases xs with
            | nil => rfl
            | cons _ _ => cases e
          | cons i is ih => intro xs ρ ρ' e; cases xs with
            | nil => cases e
            | cons x xs => simp [ih e]
        rw [d.len]
        exact this e
      | _ => cases e
    | _ => cases e
end

/-! ### what is walked -/
/-- J walks just these items -/
def Wk (G : Hp) (J : L2.It) (vs : List V) : Prop := ∀ (i : Nat) (H : Hp), Same G H → (i < vs.length → J.go i H ∧ ∀ x H', J.yld i H x H' → H' = H ∧ vs[i]? = some x) ∧ (vs.length ≤ i → J.stop i H)
theorem wk_list {K : PySem.W.Frag} {G : Hp} {a : Addr} {vs : List V} (h : SqL K G a vs) : Wk G (Itl K a) vs := fun i H s =>
  ⟨fun hi => ⟨⟨vs, vs[i], s.seq h, List.getElem?_eq_getElem hi⟩, fun x H' y => ⟨y.1, y.2 vs (s.seq h)⟩⟩, fun hi => ⟨vs, s.seq h, hi⟩⟩
theorem wk_tup {K : PySem.W.Frag} {G : Hp} {a : Addr} {vs : List V} (h : SqT K G a vs) : Wk G (Itt K a) vs := fun i H s =>
  ⟨fun hi => ⟨⟨vs, vs[i], Same.seqT s h, List.getElem?_eq_getElem hi⟩, fun x H' y => ⟨y.1, y.2 vs (Same.seqT s h)⟩⟩, fun hi => ⟨vs, Same.seqT s h, hi⟩⟩
def upV (lo : Int) (n : Nat) : List V := (List.range n).map fun (i : Nat) => V.int (lo + (i : Int))
theorem wk_rng {G : Hp} (lo : Int) (n : Nat) : Wk G (Itr lo n) (upV lo n) := fun i H s => by
  refine ⟨fun hi => ⟨show i < n by simpa [upV] using hi, fun x H' y => ⟨y.1, ?_⟩⟩, fun hi => show n ≤ i by simpa [upV] using hi⟩
  rw [y.2]
  have hi' : i < n := by simpa [upV] using hi
  simp [upV, hi']
theorem upTo_dp {K : PySem.W.Frag} {G : Hp} : ∀ (n : Nat) (lo : Int), DpAll K G (upV lo n) (upTo lo n)
  | 0, lo => by simp [upV, upTo]; exact .nil
  | n + 1, lo => by
    have e : upV lo (n + 1) = V.int lo :: upV (lo + 1) n := by
      unfold upV
      rw [List.range_succ_eq_map, List.map_cons, List.map_map]
      congr 1
      · simp
      · apply List.map_congr_left; intro i _; simp; omega
    rw [e, upTo]
    exact .cons (.int lo) (upTo_dp n (lo + 1))
def rIt (T : Tab) : Rel (List PyData) L2.It := fun _ G _ _ items J => ∃ vs, Wk G J vs ∧ DpAll T.K G vs items
abbrev tI (T : Tab) (Wx : WX) (f : Env → List Cell → R (List PyData)) : TI := rd T Wx (rIt T) f
theorem PI_imp {X : Cx} {tg e : Expr} {t t' : TI} (h : PI X tg e t) (i : ∀ σ H Q, t' σ H Q → t σ H Q) : PI X tg e t' := ⟨fun pins s σ H Q I q => h.run pins s σ H Q I (i σ H Q q)⟩
theorem PI_or {X : Cx} {tg e : Expr} {t t' : TI} (h : PI X tg e t) (h' : PI X tg e t') : PI X tg e (fun σ H Q => t σ H Q ∨ t' σ H Q) := ⟨fun pins s σ H Q I q => q.elim (h.run pins s σ H Q I) (h'.run pins s σ H Q I)⟩
section
variable {X : Cx} {T : Tab} {k : Nat} {Wx : WX} {a b c e tg : Expr} {es : List Expr} {p pos apos cpos : Pos} {fa fb fc : Env → List Cell → R W} {fes : Env → List Cell → R (List W)}
def fSeq (fa : Env → List Cell → R W) : Env → List Cell → R (List PyData) := fun ρ s => (fa ρ s).bind fun w s => (frzR w s).bind fun x s => lift (seqOf x) s
/-- a list or tuple: which, is told where it is walked -/
theorem PI_seq {tl : TE} (h : PE X e tl) : PI X tg e (fun σ H R => tl σ H fun x H1 => ∃ a, x = .ref a ∧ (((∃ xs, SqL X.K H1 a xs) ∧ R (Itl X.K a) H1) ∨ ((∃ xs, SqT X.K H1 a xs) ∧ R (Itt X.K a) H1))) := by
  refine ⟨fun pins s σ H R I q => ?_⟩
  refine thn (h.run pins s σ H _ I q) fun v s1 ⟨x, H1, I1, r1, a, ea, q1⟩ => ?_
  subst ea
  have I1' := I1
  have one : PE X e (fun σ' H' Q => Q (.ref a) H1) → True := fun _ => trivial
  rcases q1 with ⟨hq, q1⟩ | ⟨hq, q1⟩
  · cases r1
    obtain ⟨xs, hq⟩ := hq
    obtain ⟨its, rv, p, hz⟩ := I1.list hq
    refine wpAny_pyIter_list p.isList ?_
    refine ⟨s1.heap.objs.size, [s1.heap.objs.size], _, _, H1, rfl, I1.kept (t' := s1.toks) fun b o e => Heap.get?_push_of_some _ e, turn_list a _, ⟨_, Heap.get?_push_size _ rfl, rfl, rfl⟩, fun b hb => ?_, q1⟩
    have e : b = s1.heap.objs.size := by simpa using hb
    subst e
    exact I1.fpOk (Nat.le_refl _) (I1.hok.fresh (Nat.le_refl _))
  · cases r1
    obtain ⟨xs, hq⟩ := hq
    obtain ⟨its, rv, p, hz⟩ := I1.tuple hq
    refine wpAny_pyIter_tuple (show s1.heap.IsTuple a its.toArray from p) ?_
    refine ⟨s1.heap.objs.size, [s1.heap.objs.size], _, _, H1, rfl, I1.kept (t' := s1.toks) fun b o e => Heap.get?_push_of_some _ e, turn_tuple a _, ⟨_, Heap.get?_push_size _ rfl, rfl, rfl⟩, fun b hb => ?_, q1⟩
    have e : b = s1.heap.objs.size := by simpa using hb
    subst e
    exact I1.fpOk (Nat.le_refl _) (I1.hok.fresh (Nat.le_refl _))
theorem d_seq (hK : X.K = T.K) (ha : PE X a (tE T Wx fa)) : PI X tg a (tI T Wx (fSeq fa)) :=
  PI_imp (PI_seq ha) fun σ H Q h => by
    rw [hK]
    refine rd_mono (rd_bind (rel := rW T) (f := fa) h) fun u H1 ⟨B, G, α, ρ, s, w, r, M⟩ => ?_
    obtain ⟨G', s', x, x1, S', d, P⟩ := frz_at M.S r M.P
    obtain ⟨xs, hx, P⟩ := P.lift
    cases x with
    | list l =>
      cases hx
      obtain ⟨a, vs, rfl, h1, d1⟩ := d.lst_inv
      exact ⟨a, rfl, .inl ⟨⟨vs, S'.gh.seq h1⟩, P.now S' ⟨vs, wk_list h1, d1⟩⟩⟩
    | tuple l =>
      cases hx
      obtain ⟨a, vs, rfl, h1, d1⟩ := d.tup_inv
      exact ⟨a, rfl, .inr ⟨⟨vs, Same.seqT S'.gh h1⟩, P.now S' ⟨vs, wk_tup h1, d1⟩⟩⟩
    | _ => cases hx
theorem smallI_ok {j : Int} (h : smallI j = true) : -(2 ^ 62) ≤ j ∧ j < 2 ^ 62 := by
  simp only [smallI, Bool.and_eq_true, decide_eq_true_eq] at h
  exact ⟨by omega, by omega⟩
def fRng1 (fa : Env → List Cell → R W) : Env → List Cell → R (List PyData) := fun ρ s => (fa ρ s).bind fun x s => (ii x s).bind fun j s => if smallI j then .ok (upTo 0 j.toNat) s else .no
def fRng2 (fa fb : Env → List Cell → R W) : Env → List Cell → R (List PyData) := fun ρ s => (fa ρ s).bind fun x s => (fb ρ s).bind fun y s => (ii x s).bind fun i s => (ii y s).bind fun j s => if smallI i && smallI j then .ok (upTo i (j - i).toNat) s else .no
theorem tA_nil {σ : L2.St} {H : Hp} {Q : List V → Hp → Prop} (q : Q [] H) : L2.tNil σ H Q := q
theorem d_rng1 (hg : Gl X "range") (hm : X.mg "range" = none) (ha : PE X a (tE T Wx fa)) (he : starEach [a] X.env = [(false, eval a X.env)]) : PI X tg (.Call (.Name "range" p) [a] [] pos) (tI T Wx (fRng1 fa)) :=
  PI_imp (pi_range1 hg hm (pa_cons ha pa_nil he) he) fun σ H Q h => by
    refine rd_mono (rd_bind (rel := rW T) (f := fa) h) fun u H1 ⟨B, G, α, ρ, s, w, r, M⟩ => ?_
    obtain ⟨j, rfl, P⟩ := ii_inv M.P
    obtain rfl := (show Dp T.K _ _ _ from r).int_inv
    by_cases hz : smallI j = true
    · rw [if_pos hz] at P
      have h2 := smallI_ok hz
      exact ⟨j, rfl, h2.1, h2.2, P.now M.S ⟨upV 0 j.toNat, wk_rng _ _, upTo_dp _ _⟩⟩
    · rw [if_neg hz] at P
      exact P.elim
theorem d_rng2 (hg : Gl X "range") (hm : X.mg "range" = none) (ha : PE X a (tE T Wx fa)) (hb : PE X b (tE T Wx fb)) (he : starEach [a, b] X.env = [(false, eval a X.env), (false, eval b X.env)]) (he2 : starEach [b] X.env = [(false, eval b X.env)]) :
    PI X tg (.Call (.Name "range" p) [a, b] [] pos) (tI T Wx (fRng2 fa fb)) :=
  PI_imp (pi_range2 hg hm (pa_cons ha (pa_cons hb pa_nil he2) (by rw [he, he2])) he he2) fun σ H Q h => by
    refine rd_mono (rd_bind (rel := rW T) (f := fa) h) fun u H1 ⟨B, G, α, ρ, s, w, r, M⟩ => ?_
    obtain ⟨B1, G1, α1, ρ1, s1, S, E, P⟩ := M.step (rel := rW T) (f := fb)
    refine ⟨B1, G1, α1, ρ1, s1, S, E, P.mono fun v H2 ⟨G2, α2, s2, y, x2, ry, M2⟩ => ?_⟩
    obtain ⟨i, rfl, P9⟩ := ii_inv M2.P
    obtain ⟨j, rfl, P⟩ := ii_inv P9
    obtain rfl := (show Dp T.K _ _ _ from r).int_inv
    obtain rfl := (show Dp T.K _ _ _ from ry).int_inv
    by_cases hz : (smallI i && smallI j) = true
    · rw [if_pos hz] at P
      rw [Bool.and_eq_true] at hz
      have h1 := smallI_ok hz.1
      have h2 := smallI_ok hz.2
      exact ⟨i, j, rfl, ⟨h1.1, h1.2, h2.1, h2.2⟩, P.now M2.S ⟨upV i (j - i).toNat, wk_rng _ _, upTo_dp _ _⟩⟩
    · rw [if_neg hz] at P
      exact P.elim
def dnV (hi : Int) (n : Nat) : List V := (List.range n).map fun (i : Nat) => V.int (hi + (i : Int) * (-1))
theorem wk_dn {G : Hp} (hi : Int) (n : Nat) : Wk G (Itc hi (-1) n) (dnV hi n) := fun i H s => by
  refine ⟨fun h => ⟨show i < n by simpa [dnV] using h, fun x H' y => ⟨y.1, ?_⟩⟩, fun h => show n ≤ i by simpa [dnV] using h⟩
  rw [y.2]
  have h' : i < n := by simpa [dnV] using h
  simp [dnV, h']
theorem dnTo_dp {K : PySem.W.Frag} {G : Hp} : ∀ (n : Nat) (hi : Int), DpAll K G (dnV hi n) (dnTo hi n)
  | 0, hi => by simp [dnV, dnTo]; exact .nil
  | n + 1, hi => by
    have e : dnV hi (n + 1) = V.int hi :: dnV (hi - 1) n := by
      unfold dnV
      rw [List.range_succ_eq_map, List.map_cons, List.map_map]
      congr 1
      · simp
      · apply List.map_congr_left; intro i _; simp; omega
    rw [e, dnTo]
    exact .cons (.int hi) (dnTo_dp n (hi - 1))
def fRng3 (fa fb fc : Env → List Cell → R W) : Env → List Cell → R (List PyData) := fun ρ s => (fa ρ s).bind fun x s => (fb ρ s).bind fun y s => (fc ρ s).bind fun z s => (ii x s).bind fun i s => (ii y s).bind fun j s => (ii z s).bind fun k s => if smallI i && smallI j && decide (k = -1) then .ok (dnTo i (i - j).toNat) s else .no
theorem d_rng3 (hg : Gl X "range") (hm : X.mg "range" = none) (ha : PE X a (tE T Wx fa)) (hb : PE X b (tE T Wx fb)) (hc : PE X c (tE T Wx fc)) (h1 : starEach [a, b, c] X.env = (false, eval a X.env) :: starEach [b, c] X.env) (h2 : starEach [b, c] X.env = (false, eval b X.env) :: starEach [c] X.env) (h3 : starEach [c] X.env = [(false, eval c X.env)]) (hpl : (backTo pos (starEach [b, c] X.env)).any (·.1) = false) :
    PI X tg (.Call (.Name "range" p) [a, b, c] [] pos) (tI T Wx (fRng3 fa fb fc)) :=
  PI_imp (pi_range3 hg hm (pa_cons ha (pa_cons hb (pa_cons hc pa_nil h3) h2) h1) h1 hpl) fun σ H Q h => by
    refine rd_mono (rd_bind (rel := rW T) (f := fa) h) fun u H1 ⟨B, G, α, ρ, s, w, r, M⟩ => ?_
    obtain ⟨B1, G1, α1, ρ1, s1, S, E, P⟩ := M.step (rel := rW T) (f := fb)
    refine ⟨B1, G1, α1, ρ1, s1, S, E, P.mono fun v H2 ⟨G2, α2, s2, y, x2, ry, M2⟩ => ?_⟩
    obtain ⟨B3, G3, α3, ρ3, s3, S3, E3, P3⟩ := M2.step (rel := rW T) (f := fc)
    refine ⟨B3, G3, α3, ρ3, s3, S3, E3, P3.mono fun v3 H3 ⟨G4, α4, s4, z, x4, rz, M4⟩ => ?_⟩
    obtain ⟨i, rfl, P9⟩ := ii_inv M4.P
    obtain ⟨j, rfl, P8⟩ := ii_inv P9
    obtain ⟨k, rfl, P⟩ := ii_inv P8
    obtain rfl := (show Dp T.K _ _ _ from r).int_inv
    obtain rfl := (show Dp T.K _ _ _ from ry).int_inv
    obtain rfl := (show Dp T.K _ _ _ from rz).int_inv
    by_cases hz : (smallI i && smallI j && decide (k = -1)) = true
    · rw [if_pos hz] at P
      rw [Bool.and_eq_true, Bool.and_eq_true, decide_eq_true_eq] at hz
      obtain ⟨⟨z1, z2⟩, rfl⟩ := hz
      have q1 := smallI_ok z1
      have q2 := smallI_ok z2
      exact ⟨i, j, -1, (i - j).toNat, rfl, RgC.neg q1.1 q1.2 q2.1 q2.2, P.now M4.S ⟨_, wk_dn i (i - j).toNat, dnTo_dp _ _⟩⟩
    · rw [if_neg hz] at P
      exact P.elim
end
end DM

set_option maxRecDepth 100000
/-! DM5b: sums, greatest ones; list(range(..)); pop, clear. -/
namespace DM
open PySem PySem.Spec PyProof.Rows L2
section
variable {X : Cx} {T : Tab} {k : Nat} {Wx : WX} {a b c e : Expr} {es : List Expr} {p pos apos cpos : Pos} {fa fb fc : Env → List Cell → R W} {fes : Env → List Cell → R (List W)}
theorem maxI_ok : ∀ (r : List Int) (i : Int), (r.foldl (fun a y => if a < y then y else a) i) ∈ i :: r ∧ ∀ y ∈ i :: r, y ≤ r.foldl (fun a y => if a < y then y else a) i
  | [], i => ⟨List.mem_cons_self, fun y h => by rcases List.mem_cons.mp h with rfl | h; exact Int.le_refl _; cases h⟩
  | z :: r, i => by
    rw [List.foldl_cons]
    by_cases q : i < z
    · rw [if_pos q]
      obtain ⟨h1, h2⟩ := maxI_ok r z
      refine ⟨List.mem_cons_of_mem _ h1, fun y hy => ?_⟩
      rcases List.mem_cons.mp hy with rfl | hy
      · have := h2 z List.mem_cons_self; omega
      · exact h2 y hy
    · rw [if_neg q]
      obtain ⟨h1, h2⟩ := maxI_ok r i
      refine ⟨?_, fun y hy => ?_⟩
      · rcases List.mem_cons.mp h1 with h | h
        · rw [h]; exact List.mem_cons_self
        · exact List.mem_cons_of_mem _ (List.mem_cons_of_mem _ h)
      · rcases List.mem_cons.mp hy with rfl | hy
        · exact h2 _ List.mem_cons_self
        · rcases List.mem_cons.mp hy with rfl | hy
          · have := h2 i List.mem_cons_self; omega
          · exact h2 y (List.mem_cons_of_mem _ hy)
theorem maxI_is {l : List Int} {m : Int} (h : maxI l = some m) : 0 < l.length ∧ ∀ z, z ∈ l → (∀ y, y ∈ l → y ≤ z) → z = m := by
  cases l with
  | nil => cases h
  | cons i r =>
    cases h
    obtain ⟨h1, h2⟩ := maxI_ok r i
    refine ⟨by simp, fun z hz hm => ?_⟩
    have a := h2 z hz
    have b := hm _ h1
    omega
def rMaxT (K : PySem.W.Frag) : List V → Hp → VK → Prop := fun vs H Q => ∃ (a : Addr) (ns : List Int), vs = [V.ref a] ∧ SqT K H a (ns.map V.int) ∧ 0 < ns.length ∧ ∀ m, m ∈ ns → (∀ y, y ∈ ns → y ≤ m) → Q (.int m) H
theorem boot_sumB : bootBuiltins ("sum" : Str) = some (.builtin "sum") := by decide +kernel
theorem d_sum (hc : X.calm = true) (hK : X.K = T.K) (hg : Gl X "sum") (hm : X.mg "sum" = none) (ha : PA X (e :: es) (tA T Wx fes)) (he : starEach (e :: es) X.env = (false, eval e X.env) :: starEach es X.env) (hpl : (backTo pos (starEach es X.env)).any (·.1) = false) :
    PE X (.Call (.Name "sum" p) (e :: es) [] pos) (tE T Wx (fBi .sum fes)) :=
  PE_imp (pe_callB (cr_sum hc) hg hm boot_sumB ha (by decide) (by decide) he hpl) fun σ H Q h => by
    refine rd_mono (bi_read h) fun vs H1 ⟨xs, y, d, e, q⟩ => ?_
    rw [hK]
    match xs, e with
    | [.list l], e =>
      obtain ⟨v, rfl, dv⟩ := DpAll.one d
      obtain ⟨a, us, rfl, h1, h2⟩ := dv.lst_inv
      simp only [biD] at e
      cases e2 : intsOf l with
      | none => rw [e2] at e; cases e
      | some ns =>
        rw [e2] at e
        cases e
        rw [intsOf_map e2] at h2
        rw [ints_vs h2] at h1
        exact ⟨a, ns, rfl, h1, q _ fun G => .int _⟩
theorem holdAll_ints {h : Heap} : ∀ {ns : List Int} {us : List Value}, Vals (ns.map V.int) us → PySem.W.HoldAll h us ns
  | [], us, r => by cases r; exact PySem.W.HoldAll.nil
  | n :: ns, us, r => by
    cases r with
    | cons r1 r2 =>
      obtain ⟨t, rfl⟩ := r1
      exact PySem.W.HoldAll.cons ⟨_, .int n t⟩ (holdAll_ints r2)
theorem cr_maxT (hc : X.calm = true) (hu : X.A.units + 64 < cLine) : CallR X (.builtin "max") (rMaxT X.K) := by
  intro pins s σ H vs us Q I r h
  obtain ⟨a, ns, rfl, hs, hne, q⟩ := h
  obtain ⟨its, rv, hl, _⟩ := I.tuple hs
  rw [Vals.ref1 r]
  cases ns with
  | nil => cases hne
  | cons n ns =>
    refine PySem.W.max_tuple_datum (I.ok.hd hc) hl (by simpa using holdAll_ints rv) (by show X.A.units + 1 + 0 < cLine; omega) fun i v h' tk hv hh hk => ?_
    obtain ⟨as, hr⟩ := hh
    have e : PySem.W.maxOf n ns = ns.foldl (fun a y => if a < y then y else a) n := by
      unfold PySem.W.maxOf
      congr 1
      funext a y
      show (if decide (a < y) = true then y else a) = _
      by_cases h : a < y <;> simp [h]
    obtain ⟨h1, h2⟩ := maxI_ok ns n
    rw [← e] at h1 h2
    cases hr with
    | @int i t => exact ⟨.int _, H, I.kept hk, ⟨_, rfl⟩, q _ h1 h2⟩
theorem d_maxl (hc : X.calm = true) (hu : X.A.units + 64 < cLine) (hK : X.K = T.K) (hg : Gl X "max") (hm : X.mg "max" = none) (ha : PA X (e :: es) (tA T Wx fes)) (he : starEach (e :: es) X.env = (false, eval e X.env) :: starEach es X.env) (hpl : (backTo pos (starEach es X.env)).any (·.1) = false) :
    PE X (.Call (.Name "max" p) (e :: es) [] pos) (tE T Wx (fBi .maxl fes)) :=
  PE_imp (pe_callB (r := fun vs H Q => rMax X.K vs H Q ∨ rMaxT X.K vs H Q) (fun pins s σ H vs us Q I r h => h.elim (cr_max hc pins s σ H vs us Q I r) (cr_maxT hc hu pins s σ H vs us Q I r)) hg hm boot_maxB ha (by decide) (by decide) he hpl) fun σ H Q h => by
    refine rd_mono (bi_read h) fun vs H1 ⟨xs, y, d, e, q⟩ => ?_
    rw [hK]
    match xs, e with
    | [.list l], e =>
      obtain ⟨v, rfl, dv⟩ := DpAll.one d
      obtain ⟨a, us, rfl, h1, h2⟩ := dv.lst_inv
      simp only [biD] at e
      cases e2 : intsOf l with
      | none => rw [e2] at e; cases e
      | some ns =>
        rw [e2] at e
        simp only [Option.bind_some] at e
        cases e3 : maxI ns with
        | none => rw [e3] at e; cases e
        | some m =>
          rw [e3] at e
          cases e
          rw [intsOf_map e2] at h2
          rw [ints_vs h2] at h1
          obtain ⟨p1, p2⟩ := maxI_is e3
          exact .inl ⟨a, ns, rfl, h1, p1, fun z hz hm => by rw [p2 z hz hm]; exact q _ fun G => .int _⟩
    | [.tuple l], e =>
      obtain ⟨v, rfl, dv⟩ := DpAll.one d
      obtain ⟨a, us, rfl, h1, h2⟩ := dv.tup_inv
      simp only [biD] at e
      cases e2 : intsOf l with
      | none => rw [e2] at e; cases e
      | some ns =>
        rw [e2] at e
        simp only [Option.bind_some] at e
        cases e3 : maxI ns with
        | none => rw [e3] at e; cases e
        | some m =>
          rw [e3] at e
          cases e
          rw [intsOf_map e2] at h2
          rw [ints_vs h2] at h1
          obtain ⟨p1, p2⟩ := maxI_is e3
          exact .inr ⟨a, ns, rfl, h1, p1, fun z hz hm => by rw [p2 z hz hm]; exact q _ fun G => .int _⟩
/-! ### list(range(n)) -/
def fLrng (fa : Env → List Cell → R W) : Env → List Cell → R (List PyData) := fun ρ s => (fa ρ s).bind fun x s => (ii x s).bind fun j s => if decide (j ≤ 16777216) && decide (-4611686018427387904 ≤ j) then .ok (upTo 0 j.toNat) s else .no
theorem rgV_dp {K : PySem.W.Frag} {G : Hp} (j : Int) : DpAll K G (rgV 0 j) (upTo 0 j.toNat) := by
  have e : rgV 0 j = upV 0 j.toNat := by unfold rgV upV; rw [Int.sub_zero]
  rw [e]
  exact upTo_dp _ _
theorem d_lrng {p2 pos2 : Pos} (hc : X.calm = true) (hgl : Gl X "list") (hml : X.mg "list" = none) (hg : Gl X "range") (hm : X.mg "range" = none) (ha : PE X a (tE T Wx fa)) (he : starEach [a] X.env = (false, eval a X.env) :: starEach [] X.env)
    (he2 : starEach [.Call (.Name "range" p) [a] [] pos] X.env = (false, eval (.Call (.Name "range" p) [a] [] pos) X.env) :: starEach [] X.env) :
    PE X (.Call (.Name "list" p2) [.Call (.Name "range" p) [a] [] pos] [] pos2) (tF T Wx (fLrng fa)) :=
  PE_imp (pe_listRg hc hgl hml (prg_1 hg hm ha he) he2) fun σ H Q h => by
    refine rd_mono (rd_bind (rel := rW T) (f := fa) h) fun u H1 ⟨B, G, α, ρ, s, x, rx, M⟩ => ?_
    obtain ⟨j, rfl, P⟩ := ii_inv M.P
    obtain rfl := (show Dp T.K G u (.int j) from rx).int_inv
    by_cases hb : (decide (j ≤ 16777216) && decide (-4611686018427387904 ≤ j)) = true
    · rw [if_pos hb] at P
      simp only [Bool.and_eq_true, decide_eq_true_eq] at hb
      refine ⟨j, rfl, ⟨by omega, by omega, by omega, by omega, by omega⟩, fun q hq => ?_⟩
      exact P.lst M.S (rgV_dp j) hq
    · rw [if_neg hb] at P; exact P.elim
/-! ### pop, clear -/
def fPop (fo : Env → List Cell → R W) : Env → List Cell → R W := fun ρ s => (fo ρ s).bind fun w s => popW w s
def fClr (fo : Env → List Cell → R W) : Env → List Cell → R W := fun ρ s => (fo ρ s).bind fun w s => clrW w s
theorem DpAll.dropLast {K : PySem.W.Frag} {G : Hp} {l : List PyData} {vs : List V} (h : DpAll K G vs l) : DpAll K G vs.dropLast l.dropLast := by
  rw [List.dropLast_eq_take, List.dropLast_eq_take, h.len]
  exact h.take _
theorem d_pop (hK : X.K = T.K) (ha : PE X a (tE T Wx fa)) (hbase : attributeBase a "pop" X.env (eval a X.env) = eval a X.env) (hline : (apos.endLine == cpos.line) = true) :
    PE X (.Call (.Attribute a "pop" apos) [] [] cpos) (tE T Wx (fPop fa)) :=
  PE_imp (pe_bm0 PySem.F.plainAttrs_list PySem.F.slot_list_pop PySem.F.type_list_pop mt_pop ha hbase hline) fun σ H Q h => by
    rw [hK]
    refine rd_mono (rd_bind (rel := rW T) (f := fa) h) fun u H1 ⟨B, G, α, ρ, s, x, rx, M⟩ => ?_
    have P := M.P
    cases x with
    | h i =>
      simp only [popW] at P
      cases e : s[i]? with
      | none => rw [e] at P; exact P.elim
      | some c =>
        rw [e] at P
        cases c with
        | lst l =>
          simp only at P
          obtain ⟨a, vs, rfl, ha, h1, h2, h3, h4⟩ := cell_list M.S e rx
          cases e2 : l[l.length - 1]? with
          | none => rw [e2] at P; exact P.elim
          | some y =>
            rw [e2] at P
            obtain ⟨v, hv, dv⟩ := h4.get e2
            refine ⟨tyV_list (SqL.of h3), a, vs, v, rfl, rfl, h3, by rw [h4.len]; exact hv, ?_⟩
            exact P.at Ext.refl' (M.S.set ha h1 h2 ⟨h1, h2, _, upd_same, DpAll.dropLast h4⟩) (show Dp T.K _ _ _ from dv)
        | _ => exact P.elim
    | _ => exact P.elim
theorem d_clr (hK : X.K = T.K) (ha : PE X a (tE T Wx fa)) (hbase : attributeBase a "clear" X.env (eval a X.env) = eval a X.env) (hline : (apos.endLine == cpos.line) = true) :
    PE X (.Call (.Attribute a "clear" apos) [] [] cpos) (tE T Wx (fClr fa)) :=
  PE_imp (pe_bm0 PySem.F.plainAttrs_list PySem.F.slot_list_clear PySem.F.type_list_clear mt_clear ha hbase hline) fun σ H Q h => by
    rw [hK]
    refine rd_mono (rd_bind (rel := rW T) (f := fa) h) fun u H1 ⟨B, G, α, ρ, s, x, rx, M⟩ => ?_
    have P := M.P
    cases x with
    | h i =>
      simp only [clrW] at P
      cases e : s[i]? with
      | none => rw [e] at P; exact P.elim
      | some c =>
        rw [e] at P
        cases c with
        | lst l =>
          simp only at P
          obtain ⟨a, vs, rfl, ha, h1, h2, h3, h4⟩ := cell_list M.S e rx
          refine ⟨tyV_list (SqL.of h3), a, vs, rfl, rfl, h3, ?_⟩
          exact P.at Ext.refl' (M.S.set ha h1 h2 ⟨h1, h2, _, upd_same, .nil⟩) (show Dp T.K _ _ _ from .non)
        | _ => exact P.elim
    | _ => exact P.elim
end
end DM

set_option maxRecDepth 100000
/-! DM7: comprehensions, loops, statements. -/
namespace DM
open PySem PySem.Spec PyProof.Rows L2
def W0 : WX := fun _ _ _ _ => False
theorem wipe_idem (σ : L2.St) : ∀ vs : List Nat, L2.wipe (L2.wipe σ vs) vs = L2.wipe σ vs
  | [] => rfl
  | v :: vs => by
    show (L2.wipe ((L2.wipe σ vs).set v none) vs).set v none = (L2.wipe σ vs).set v none
    by_cases hv : v ∈ vs
    · rw [wipe_set hv, wipe_idem σ vs]
    · rw [wipe_comm hv, wipe_idem σ vs, List.set_set]
/-- J walks just these items, wherever what is known and what is kept stand -/
def WkB (B G : Hp) (J : L2.It) (vs : List V) : Prop := ∀ (i : Nat) (H : Hp), Same G H → Same B H → (i < vs.length → J.go i H ∧ ∀ x H', J.yld i H x H' → H' = H ∧ vs[i]? = some x) ∧ (vs.length ≤ i → J.stop i H)
theorem Wk.b {B G : Hp} {J : L2.It} {vs : List V} (h : Wk G J vs) : WkB B G J vs := fun i H g _ => h i H g
section
variable {X : Cx} {T : Tab} {k : Nat} {Wx : WX} {tg elt iter : Expr} {ifs : List Expr} {scope : Scope} {own : List (Str × Nat)} {pos : Pos} {t : Tg}
def turnC (t : Tg) (own : List Nat) (fc : Env → List Cell → R Bool) (fe : Env → List Cell → R W) (ρ : Env) : PyData → List Cell → R (Option PyData) := fun x s => match asgT (wipeE ρ own) t (.d x) with
    | some ρ' => (fc ρ' s).bind fun b s => if b then (fe ρ' s).bind fun w s => (frzR w s).bind fun y s => .ok (some y) s else .ok none s
    | none => .no
def fComp (fi : Env → List Cell → R (List PyData)) (t : Tg) (own : List Nat) (fc : Env → List Cell → R Bool) (fe : Env → List Cell → R W) : Env → List Cell → R (List PyData) := fun ρ s =>
  (fi ρ s).bind fun items s => if items.length < sizeLine then compL (turnC t own fc fe ρ) items s else .no
theorem comp_walk {B G H1 : Hp} {α : List Addr} {ρ : Env} {s : List Cell} {σ : L2.St} {items : List PyData} {vs : List V} {J : L2.It} {own : List Nat} {fc : Env → List Cell → R Bool} {fe : Env → List Cell → R W} {Q : VK} (hsl : ∀ i ∈ tgSlots t, i ∈ own)
    (wk : WkB B G J vs) (d : DpAll T.K G vs items) (S : StM T B G H1 α s) (E : EnvR T G α ρ σ) (hlen : items.length < sizeLine) (P : Post T Wx (rF T) B G α σ (compL (turnC t own fc fe ρ) items s) Q) {D : Addr} (hD : H1 D = none) :
    ∃ Wv : Nat → Nat → Hp → Prop, (∃ m, Wv 0 m (upd H1 D (.lst []))) ∧ ∀ i m H, Wv i m H →
      (J.stop i H ∧ Q (.ref D) H) ∨ (J.go i H ∧ ∃ Nx : Hp → Prop, (∀ H', Nx H' → ∃ m', m' < m ∧ Wv (i + 1) m' H') ∧ ∀ x H', J.yld i H x H' → gT T.K t x (L2.wipe σ own) H' fun σ2 H2 => L2.wipe σ2 own = L2.wipe σ own ∧ tT T W0 fc σ2 H2 fun b H3 =>
        if b = true then tE T W0 fe σ2 H3 fun y H4 => ∃ acc, H4 D = some (.lst acc) ∧ acc.length < sizeLine ∧ Nx (upd H4 D (.lst (acc ++ [y]))) else Nx H3) := by
  have hB : B D = none := same_none S.bh hD
  refine ⟨fun i m H => m = vs.length - i ∧ i ≤ vs.length ∧ ∃ (G' : Hp) (α' : List Addr) (s' : List Cell) (acc : List PyData) (av : List V), Ext B G α G' α' ∧ StM T B G' H α' s' ∧ H D = some (.lst av) ∧ G' D = none ∧ D ∉ α' ∧ DpAll T.K G' av acc ∧ acc.length ≤ i ∧
      (compL (turnC t own fc fe ρ) (items.drop i) s').bind (fun ys s => .ok (acc ++ ys) s) = compL (turnC t own fc fe ρ) items s,
    ⟨vs.length, by simp, Nat.zero_le _, G, α, s, [], [], Ext.refl', S.beside hD, upd_same, same_none S.gh hD, S.new_notin hD, .nil, Nat.zero_le _, ?_⟩, ?_⟩
  · simp only [List.drop_zero, List.nil_append]
    cases compL (turnC t own fc fe ρ) items s <;> rfl
  rintro i m H ⟨rfl, hi, G', α', s', acc, av, x, S', hHD, hGD, hαD, da, hacc, tot⟩
  have sGH : Same G H := x.g.trans S'.gh
  by_cases hlt : i < vs.length
  · obtain ⟨go, yl⟩ := (wk i H sGH S'.bh).1 hlt
    have hli : i < items.length := by rw [← d.len]; exact hlt
    have hdrop : items.drop i = items[i] :: items.drop (i + 1) := List.drop_eq_getElem_cons hli
    rw [hdrop] at tot
    simp only [compL] at tot
    -- the turn
    cases et : turnC t own fc fe ρ items[i] s' with
    | no => rw [et] at tot; rw [← tot] at P; exact P.elim
    | ex z s2 => rw [et] at tot; rw [← tot] at P; exact P.elim
    | ok yo s2 =>
      rw [et] at tot
      refine .inr ⟨go, fun H' => vs.length - (i + 1) = vs.length - (i + 1) ∧ i + 1 ≤ vs.length ∧ ∃ (G' : Hp) (α' : List Addr) (s' : List Cell) (acc : List PyData) (av : List V), Ext B G α G' α' ∧ StM T B G' H' α' s' ∧ H' D = some (.lst av) ∧ G' D = none ∧ D ∉ α' ∧ DpAll T.K G' av acc ∧ acc.length ≤ i + 1 ∧
        (compL (turnC t own fc fe ρ) (items.drop (i + 1)) s').bind (fun ys s => .ok (acc ++ ys) s) = compL (turnC t own fc fe ρ) items s, fun H' h => ⟨vs.length - (i + 1), by omega, h⟩, fun xv H' y => ?_⟩
      obtain ⟨rfl, hxv⟩ := yl xv H' y
      obtain ⟨v', hv', dv⟩ := d.get (List.getElem?_eq_getElem hli)
      rw [hxv] at hv'
      cases hv'
      simp only [turnC] at et
      cases ea : asgT (wipeE ρ own) t (.d items[i]) with
      | none => rw [ea] at et; cases et
      | some ρ' =>
        rw [ea] at et
        simp only at et
        refine asgT_ok (E.wipe own |>.mono x) S'.gh (show RW T G' α' (.d items[i]) xv from Dp.mono x.g _ _ dv) ea fun σ' E' hw => ⟨by rw [hw own hsl, wipe_idem], ?_⟩
        refine ⟨upd B D (.lst av), G', α', ρ', s', S'.hold hHD hαD, E', ?_⟩
        cases ec : fc ρ' s' with
        | no => rw [ec] at et; cases et
        | ex z s3 => rw [ec] at et; cases et
        | ok b s3 =>
          rw [ec] at et
          simp only [R.bind_ok] at et
          intro G2 α2 H2 c x2 S2 rc
          obtain rfl : b = c := rc
          have hB2 : upd B D (.lst av) D = some (.lst av) := upd_same
          have hG2 : G2 D = none := x2.held hGD
          cases b with
          | false =>
            rw [if_neg Bool.false_ne_true] at et
            cases et
            refine iteF ⟨rfl, hlt, G2, α2, _, acc, av, x.trans (x2.unhold hB), S2.unhold hB, S2.bh _ _ hB2, hG2, (S2.notin hB2 hG2 fun φ z => nomatch z), DpAll.mono x2.g _ _ da, Nat.le_succ_of_le hacc, ?_⟩
            rw [← tot]
            simp [R.bind_assoc]
          | true =>
            rw [if_pos rfl] at et
            refine iteT ⟨upd B D (.lst av), G2, α2, ρ', s3, S2, E'.mono x2, ?_⟩
            cases ee : fe ρ' s3 with
            | no => rw [ee] at et; cases et
            | ex z s4 => rw [ee] at et; cases et
            | ok w s4 =>
              rw [ee] at et
              simp only [R.bind_ok, frzR] at et
              intro G3 α3 H3 v x3 S3 rv
              cases ef : frz s4 w with
              | none => rw [ef] at et; cases et
              | some q =>
                obtain ⟨yd, s5⟩ := q
                rw [ef] at et
                simp only [R.bind_ok] at et
                cases et
                obtain ⟨G4, x4, S4, dy⟩ := frz_ok S3 ef rv
                have hG4 : G4 D = none := x4.held (x3.held hG2)
                have hn4 : D ∉ α3 := (S4.notin hB2 hG4 fun φ z => nomatch z)
                have S5 := StM.unhold S4 hB
                have xx : Ext B G' α' G4 α3 := (x2.trans (x3.trans x4)).unhold hB
                have hl : av.length = acc.length := da.len
                refine ⟨av, S4.bh _ _ hB2, by have := d.len; omega, rfl, hlt, G4, α3, _, acc ++ [yd], av ++ [v], x.trans xx, S5.side hB hG4 hn4, upd_same, hG4, hn4, (DpAll.mono xx.g _ _ da).append (.cons dy .nil), by simp; omega, ?_⟩
                rw [← tot]
                simp [R.bind_assoc]
  · have hi' : i = vs.length := by omega
    subst hi'
    have hst := (wk vs.length H sGH S'.bh).2 (Nat.le_refl _)
    refine .inl ⟨hst, ?_⟩
    have : items.drop vs.length = [] := by rw [d.len]; simp
    rw [this] at tot
    simp only [compL, R.bind_ok, List.append_nil] at tot
    rw [← tot] at P
    exact P.at x S' ⟨D, av, rfl, hHD, hGD, hB, hαD, da⟩
theorem d_comp (hc : X.calm = true) (hN : X.N.Nodup) {fi : Env → List Cell → R (List PyData)} {fcnd : Env → List Cell → R Bool} {fe : Env → List Cell → R W} (hi : PI X tg iter (tI T Wx fi)) (ok : BlkOk X.N X.env.scope scope own)
    (hg : ∀ (s : Shared) (H : Hp) (C : Addr) (cl : List (Str × Addr)) (fp : List Addr), PG (X.blk s H scope (compEnvC scope cl C X.env) fp) tg (gT T.K t))
    (ht : ∀ (s : Shared) (H : Hp) (C : Addr) (cl : List (Str × Addr)) (fp : List Addr), PTs (X.blk s H scope (compEnvC scope cl C X.env) fp) ifs (tT T W0 fcnd))
    (he : ∀ (s : Shared) (H : Hp) (C : Addr) (cl : List (Str × Addr)) (fp : List Addr), PE (X.blk s H scope (compEnvC scope cl C X.env) fp) elt (tE T W0 fe)) (hs : ∀ x, foldedSetIterable iter X.env x = pure x) (hsl : ∀ i ∈ tgSlots t, i ∈ own.map (·.2)) :
    PE X (.ListComp elt [⟨tg, iter, ifs, 0⟩] scope pos) (tF T Wx (fComp fi t (own.map (·.2)) fcnd fe)) :=
  PE_imp (pe_lc hc hN hi ok hg ht he hs) fun σ H Q h => by
    refine rd_mono (rd_bind (rel := rIt T) h) fun J H1 ⟨B, G, α, ρ, s, items, ⟨vs, wk, d⟩, M⟩ D hD => ?_
    have P := M.P
    by_cases hz : items.length < sizeLine
    · rw [if_pos hz] at P
      exact comp_walk hsl wk.b d M.S M.E hz P hD
    · rw [if_neg hz] at P
      exact P.elim

/-! ### statements -/
def PostS (T : Tab) (Wx : WX) (B G : Hp) (α : List Addr) (r : RS) (D : Ends) : Prop := match r with
  | .ok (.nx, ρ') s' => ∀ (G' : Hp) (α' : List Addr) (H' : Hp) (σ' : L2.St), Ext B G α G' α' → StM T B G' H' α' s' → EnvR T G' α' ρ' σ' → D.nx σ' H'
  | .ok (.brk, ρ') s' => ∀ (G' : Hp) (α' : List Addr) (H' : Hp) (σ' : L2.St), Ext B G α G' α' → StM T B G' H' α' s' → EnvR T G' α' ρ' σ' → D.bk σ' H'
  | .ok (.ct, ρ') s' => ∀ (G' : Hp) (α' : List Addr) (H' : Hp) (σ' : L2.St), Ext B G α G' α' → StM T B G' H' α' s' → EnvR T G' α' ρ' σ' → D.ct σ' H'
  | .ok (.ret w, _) s' => ∀ (G' : Hp) (α' : List Addr) (H' : Hp) (v : V), Ext B G α G' α' → StM T B G' H' α' s' → RW T G' α' w v → D.rt v H'
  | .ok (.ex x, ρ') s' => ∀ (G' : Hp) (α' : List Addr) (H' : Hp) (cls : Value) (dx : Option Addr) (σ' : L2.St), Ext B G α G' α' → StM T B G' H' α' s' → EnvR T G' α' ρ' σ' → XR T B α' H' x cls dx → Wx cls dx σ' H'
  | .ex _ _ => False
  | .no => False
def tS (T : Tab) (Wx : WX) (f : Env → List Cell → RS) : TS := fun D σ H => ∃ (B G : Hp) (α : List Addr) (ρ : Env) (s : List Cell), StM T B G H α s ∧ EnvR T G α ρ σ ∧ PostS T Wx B G α (f ρ s) D
theorem PostS.ext {B G G1 : Hp} {α α1 : List Addr} {r : RS} {D : Ends} (h : PostS T Wx B G α r D) (x : Ext B G α G1 α1) : PostS T Wx B G1 α1 r D := by
  cases r with
  | ok q s =>
    obtain ⟨o, ρ⟩ := q
    cases o with
    | nx => exact fun G' α' H' σ' y S E => h G' α' H' σ' (x.trans y) S E
    | brk => exact fun G' α' H' σ' y S E => h G' α' H' σ' (x.trans y) S E
    | ct => exact fun G' α' H' σ' y S E => h G' α' H' σ' (x.trans y) S E
    | ret w => exact fun G' α' H' v y S E => h G' α' H' v (x.trans y) S E
    | ex z => exact fun G' α' H' c d σ' y S E X => h G' α' H' c d σ' (x.trans y) S E X
  | ex z s => exact h
  | no => exact h
theorem PS_imp {st : Stmt} {t t' : TS} (h : PS X st t) (i : ∀ D σ H, t' D σ H → t D σ H) : PS X st t' := ⟨fun pins s σ H D I q => h.run pins s σ H D I (i D σ H q)⟩
theorem PSs_imp {st : List Stmt} {t t' : TS} (h : PSs X st t) (i : ∀ D σ H, t' D σ H → t D σ H) : PSs X st t' := ⟨fun pins s σ H D I q => h.run pins s σ H D I (i D σ H q)⟩
/-- an expression, then a statement's end -/
theorem st_read {β γ : Type} {rel : Rel β γ} {f : Env → List Cell → R β} {k : Env → β → List Cell → RS} {D : Ends} {σ : L2.St} {H : Hp} (h : tS T Wx (fun ρ s => (f ρ s).st ρ (k ρ)) D σ H) :
    rd T Wx rel f σ H fun c H1 => ∃ (B G : Hp) (α : List Addr) (ρ : Env) (s : List Cell) (b : β), rel B G α H1 b c ∧ StM T B G H1 α s ∧ EnvR T G α ρ σ ∧ PostS T Wx B G α (k ρ b s) D := by
  obtain ⟨B, G, α, ρ, s, S, E, P⟩ := h
  refine ⟨B, G, α, ρ, s, S, E, ?_⟩
  simp only at P
  cases e : f ρ s with
  | ok b s1 =>
    rw [e] at P
    exact fun G' α' H' c x S' r => ⟨B, G', α', ρ, s1, b, r, S', E.mono x, P.ext x⟩
  | ex z s1 =>
    rw [e] at P
    exact fun G' α' H' cls dx x S' r => P G' α' H' cls dx σ x S' (E.mono x) r
  | no =>
    rw [e] at P
    exact P
def fEx (f : Env → List Cell → R W) : Env → List Cell → RS := fun ρ s => (f ρ s).st ρ fun _ s => .ok (.nx, ρ) s
def fRet (f : Env → List Cell → R W) : Env → List Cell → RS := fun ρ s => (f ρ s).st ρ fun w s => .ok (.ret w, ρ) s
theorem d_ex {e : Expr} {f : Env → List Cell → R W} (he : PE X e (tE T Wx f)) (hs : swapsWith e none pos.line X.env = pure false) : PS X (.Expr e pos) (tS T Wx (fEx f)) :=
  PS_imp (ps_expr he hs) fun D σ H h => rd_mono (st_read (rel := rW T) (k := fun ρ _ s => .ok (.nx, ρ) s) h) fun v H1 ⟨B, G, α, ρ, s, b, r, S, E, P⟩ => P G α H1 σ Ext.refl' S E
theorem d_ret {e : Expr} {f : Env → List Cell → R W} (he : PE X e (tE T Wx f)) : PS X (.Return (some e) pos) (tS T Wx (fRet f)) :=
  PS_imp (ps_ret he) fun D σ H h => rd_mono (st_read (rel := rW T) (k := fun ρ w s => .ok (.ret w, ρ) s) h) fun v H1 ⟨B, G, α, ρ, s, b, r, S, E, P⟩ => P G α H1 v Ext.refl' S r
theorem d_retN : PS X (.Return none pos) (tS T Wx fun ρ s => .ok (.ret (.d .none), ρ) s) := PS_imp ps_retN fun D σ H ⟨B, G, α, ρ, s, S, E, P⟩ => P G α H .non Ext.refl' S (show Dp T.K _ _ _ from .non)
theorem d_pass : PS X (.Pass pos) (tS T Wx fun ρ s => .ok (.nx, ρ) s) := PS_imp ps_pass fun D σ H ⟨B, G, α, ρ, s, S, E, P⟩ => P G α H σ Ext.refl' S E
theorem d_brk : PS X (.Break pos) (tS T Wx fun ρ s => .ok (.brk, ρ) s) := PS_imp ps_break fun D σ H ⟨B, G, α, ρ, s, S, E, P⟩ => P G α H σ Ext.refl' S E
theorem d_ct : PS X (.Continue pos) (tS T Wx fun ρ s => .ok (.ct, ρ) s) := PS_imp ps_continue fun D σ H ⟨B, G, α, ρ, s, S, E, P⟩ => P G α H σ Ext.refl' S E
theorem d_stNo {st : Stmt} : PS X st (tS T Wx fun _ _ => .no) := PS_imp ps_never fun D σ H ⟨B, G, α, ρ, s, S, E, P⟩ => P
theorem d_no {e : Expr} : PE X e (tE T Wx fun _ _ => .no) := ⟨fun pins s σ H Q I ⟨B, G, α, ρ, s', S, E, P⟩ => P.elim⟩
theorem d_doc {x : Str} {j : Nat} {p : Pos} : PS X (.Expr (.Constant (.str x) j p) pos) (tS T Wx fun ρ s => .ok (.nx, ρ) s) := PS_imp ps_doc fun D σ H ⟨B, G, α, ρ, s, S, E, P⟩ => P G α H σ Ext.refl' S E
/-! blocks -/
def fSq (f : Env → List Cell → RS) (g : Env → List Cell → RS) : Env → List Cell → RS := fun ρ s => R.sq (f ρ s) g
theorem d_nilS : PSs X [] (tS T Wx fun ρ s => .ok (.nx, ρ) s) := PSs_imp pss_nil fun D σ H ⟨B, G, α, ρ, s, S, E, P⟩ => P G α H σ Ext.refl' S E
theorem d_consS {st : Stmt} {rest : List Stmt} {f g : Env → List Cell → RS} (h1 : PS X st (tS T Wx f)) (h2 : PSs X rest (tS T Wx g)) : PSs X (st :: rest) (tS T Wx (fSq f g)) :=
  PSs_imp (pss_cons h1 h2) fun D σ H ⟨B, G, α, ρ, s, S, E, P⟩ => by
    refine ⟨B, G, α, ρ, s, S, E, ?_⟩
    simp only [fSq] at P
    cases e : f ρ s with
    | ok q s1 =>
      obtain ⟨o, ρ1⟩ := q
      rw [e] at P
      cases o with
      | nx => exact fun G' α' H' σ' x S' E' => ⟨B, G', α', ρ1, s1, S', E', P.ext x⟩
      | brk => exact P
      | ct => exact P
      | ret w => exact P
      | ex z => exact P
    | ex z s1 => rw [e] at P; exact P
    | no => rw [e] at P; exact P
def fIf (c : Env → List Cell → R Bool) (f g : Env → List Cell → RS) : Env → List Cell → RS := fun ρ s => (c ρ s).st ρ fun k s => if k then f ρ s else g ρ s
theorem d_if {c : Expr} {a b : List Stmt} {fc : Env → List Cell → R Bool} {f g : Env → List Cell → RS} (hc : PT X c (tT T Wx fc)) (ha : PSs X a (tS T Wx f)) (hb : PSs X b (tS T Wx g)) : PS X (.If c a b pos) (tS T Wx (fIf fc f g)) :=
  PS_imp (ps_if hc ha hb) fun D σ H h => rd_mono (st_read (rel := rB) (k := fun ρ k s => if k then f ρ s else g ρ s) h) fun v H1 ⟨B, G, α, ρ, s, b, r, S, E, P⟩ => by
    obtain rfl : b = v := r
    cases b with
    | true => exact iteT ⟨B, G, α, ρ, s, S, E, by simpa using P⟩
    | false => exact iteF ⟨B, G, α, ρ, s, S, E, by simpa using P⟩
/-! assignments -/
def fAsg (f : Env → List Cell → R W) (t : Tg) : Env → List Cell → RS := fun ρ s => (f ρ s).st ρ fun w s => match asgT ρ t w with
    | some ρ => .ok (.nx, ρ) s
    | none => .no
theorem asg_read {f : Env → List Cell → R W} {D : Ends} {σ : L2.St} {H : Hp} (h : tS T Wx (fAsg f t) D σ H) : tAsg (tE T Wx f) (gT T.K t) D σ H :=
  rd_mono (st_read (rel := rW T) (k := fun ρ w s => match asgT ρ t w with | some ρ => .ok (.nx, ρ) s | none => .no) h) fun v H1 ⟨B, G, α, ρ, s, w, r, S, E, P⟩ => by
    cases e : asgT ρ t w with
    | none => rw [e] at P; exact P.elim
    | some ρ' =>
      rw [e] at P
      exact asgT_ok E S.gh r e fun σ' E' _ => P G α H1 σ' Ext.refl' S E'
theorem d_asg {tg e : Expr} {f : Env → List Cell → R W} (he : PE X e (tE T Wx f)) (hg : PG X tg (gT T.K t)) (hs : swapsWithSole [tg] e pos.line X.env = pure false) (hw : swappedStores [tg] e X.env = pure none) (h1 : (assignEach [tg] X.env).map (·.2) = [assign tg X.env]) :
    PS X (.Assign [tg] e pos) (tS T Wx (fAsg f t)) := PS_imp (ps_asg he hg hs hw h1) fun D σ H h => asg_read h
/-! for -/
def fFor (fi : Env → List Cell → R (List PyData)) (t : Tg) (fb : Env → List Cell → RS) : Env → List Cell → RS := fun ρ s => (fi ρ s).st ρ fun items s => forL (fun ρ x => asgT ρ t (.d x)) fb items ρ s
def ForW (J : L2.It) (g : TG) (tb : TS) (D : Ends) (σ : L2.St) (H : Hp) : Prop := ∃ W : Nat → Nat → L2.St → Hp → Prop, (∃ m, W 0 m σ H) ∧ ∀ i m σ H, W i m σ H →
    (J.stop i H ∧ D.nx σ H) ∨ (J.go i H ∧ ∃ N : L2.St → Hp → Prop, (∀ σ' H', N σ' H' → ∃ m', m' < m ∧ W (i + 1) m' σ' H') ∧ ∀ x H', J.yld i H x H' → g x σ H' (tb ⟨N, D.rt, D.nx, N⟩))
theorem for_walk {B G H1 : Hp} {α : List Addr} {ρ : Env} {s : List Cell} {σ : L2.St} {items : List PyData} {vs : List V} {J : L2.It} {fb : Env → List Cell → RS} {D : Ends}
    (wk : WkB B G J vs) (d : DpAll T.K G vs items) (S : StM T B G H1 α s) (E : EnvR T G α ρ σ) (P : PostS T Wx B G α (forL (fun ρ x => asgT ρ t (.d x)) fb items ρ s) D) : ForW J (gT T.K t) (tS T Wx fb) D σ H1 := by
  refine ⟨fun i m σ H => m = vs.length - i ∧ i ≤ vs.length ∧ ∃ (G' : Hp) (α' : List Addr) (ρ' : Env) (s' : List Cell), Ext B G α G' α' ∧ StM T B G' H α' s' ∧ EnvR T G' α' ρ' σ ∧ forL (fun ρ x => asgT ρ t (.d x)) fb (items.drop i) ρ' s' = forL (fun ρ x => asgT ρ t (.d x)) fb items ρ s,
    ⟨vs.length, by simp, Nat.zero_le _, G, α, ρ, s, Ext.refl', S, E, by simp⟩, ?_⟩
  rintro i m σ2 H2 ⟨rfl, hi, G', α', ρ', s', x, S', E', tot⟩
  have sGH : Same G H2 := x.g.trans S'.gh
  by_cases hlt : i < vs.length
  · obtain ⟨go, yl⟩ := (wk i H2 sGH S'.bh).1 hlt
    have hli : i < items.length := by rw [← d.len]; exact hlt
    have hdrop : items.drop i = items[i] :: items.drop (i + 1) := List.drop_eq_getElem_cons hli
    rw [hdrop] at tot
    simp only [forL] at tot
    refine .inr ⟨go, fun σ' H' => vs.length - (i + 1) = vs.length - (i + 1) ∧ i + 1 ≤ vs.length ∧ ∃ (G' : Hp) (α' : List Addr) (ρ' : Env) (s' : List Cell), Ext B G α G' α' ∧ StM T B G' H' α' s' ∧ EnvR T G' α' ρ' σ' ∧ forL (fun ρ x => asgT ρ t (.d x)) fb (items.drop (i + 1)) ρ' s' = forL (fun ρ x => asgT ρ t (.d x)) fb items ρ s,
      fun σ' H' h => ⟨_, by omega, h⟩, fun xv H' y => ?_⟩
    obtain ⟨rfl, hxv⟩ := yl xv H' y
    obtain ⟨v', hv', dv⟩ := d.get (List.getElem?_eq_getElem hli)
    rw [hxv] at hv'
    cases hv'
    cases ea : asgT ρ' t (.d items[i]) with
    | none => rw [ea] at tot; rw [← tot] at P; exact P.elim
    | some ρ2 =>
      rw [ea] at tot
      simp only at tot
      refine asgT_ok E' S'.gh (show RW T G' α' (.d items[i]) xv from Dp.mono x.g _ _ dv) ea fun σ3 E3 _ => ⟨B, G', α', ρ2, s', S', E3, ?_⟩
      have P' := P.ext x
      cases eb : fb ρ2 s' with
      | ok q s3 =>
        obtain ⟨o, ρ3⟩ := q
        rw [eb] at tot
        cases o with
        | nx => exact fun G4 α4 H4 σ4 x4 S4 E4 => ⟨rfl, hlt, G4, α4, ρ3, s3, x.trans x4, S4, E4, tot⟩
        | ct => exact fun G4 α4 H4 σ4 x4 S4 E4 => ⟨rfl, hlt, G4, α4, ρ3, s3, x.trans x4, S4, E4, tot⟩
        | brk => rw [← tot] at P'; exact P'
        | ret w => rw [← tot] at P'; exact P'
        | ex z => rw [← tot] at P'; exact P'
      | ex z s3 => rw [eb] at tot; rw [← tot] at P; exact P.elim
      | no => rw [eb] at tot; rw [← tot] at P; exact P.elim
  · have hi' : i = vs.length := by omega
    subst hi'
    refine .inl ⟨(wk vs.length H2 sGH S'.bh).2 (Nat.le_refl _), ?_⟩
    have : items.drop vs.length = [] := by rw [d.len]; simp
    rw [this] at tot
    rw [← tot] at P
    exact P G' α' H2 σ2 x S' E'
theorem d_for {iter : Expr} {body : List Stmt} {fi : Env → List Cell → R (List PyData)} {fb : Env → List Cell → RS} (hp : PassesOwn (model X.prog X.w) X.A X.env X.xe) (hc : X.calm = true) (hi : PI X tg iter (tI T Wx fi)) (hg : PG X tg (gT T.K t)) (hb : PSs X body (tS T Wx fb))
    (hs : ∀ x, foldedSetIterable iter X.env x = pure x) : PS X (.For tg iter body [] pos) (tS T Wx (fFor fi t fb)) :=
  PS_imp (ps_for hp hc hi hg hb hs) fun D σ H h => rd_mono (st_read (rel := rIt T) (k := fun ρ items s => forL (fun ρ x => asgT ρ t (.d x)) fb items ρ s) h) fun J H1 ⟨B, G, α, ρ, s, items, ⟨vs, wk, d⟩, S, E, P⟩ => for_walk wk.b d S E P
/-! while -/
theorem d_while {c : Expr} {body : List Stmt} {fc : Env → List Cell → R Bool} {fb : Env → List Cell → RS} {n : Nat} (hp : PassesOwn (model X.prog X.w) X.A X.env X.xe) (hc : PT X c (tT T Wx fc)) (hb : PSs X body (tS T Wx fb)) : PS X (.While c body [] pos) (tS T Wx (whileL fc fb n)) :=
  PS_imp (ps_while hp hc hb) fun D σ H ⟨B, G, α, ρ, s, S, E, P⟩ => by
    refine ⟨fun m σ H => ∃ (G' : Hp) (α' : List Addr) (ρ' : Env) (s' : List Cell), Ext B G α G' α' ∧ StM T B G' H α' s' ∧ EnvR T G' α' ρ' σ ∧ whileL fc fb m ρ' s' = whileL fc fb n ρ s, ⟨n, G, α, ρ, s, Ext.refl', S, E, rfl⟩, ?_⟩
    rintro m σ2 H2 ⟨G', α', ρ', s', x, S', E', tot⟩
    cases m with
    | zero =>
      rw [← tot] at P
      exact P.elim
    | succ m =>
      simp only [whileL] at tot
      have P' : PostS T Wx B G' α' ((fc ρ' s').st ρ' fun k s => if k = true then R.lp (fb ρ' s) (whileL fc fb m) else R.ok (O.nx, ρ') s) D := by rw [tot]; exact P.ext x
      refine ⟨B, G', α', ρ', s', S', E', ?_⟩
      cases ec : fc ρ' s' with
      | no => rw [ec] at P'; exact P'
      | ex z s3 =>
        rw [ec] at P'
        exact fun G4 α4 H4 cls dx x4 S4 r => P' G4 α4 H4 cls dx σ2 x4 S4 (E'.mono x4) r
      | ok b s3 =>
        rw [ec] at P' tot
        simp only [R.st_ok] at P' tot
        intro G4 α4 H4 b' x4 S4 rb
        obtain rfl : b = b' := rb
        cases b with
        | false =>
          rw [if_neg Bool.false_ne_true] at P'
          exact iteF (P' G4 α4 H4 σ2 x4 S4 (E'.mono x4))
        | true =>
          rw [if_pos rfl] at P' tot
          refine iteT ⟨fun σ' H' => ∃ (G' : Hp) (α' : List Addr) (ρ' : Env) (s' : List Cell), Ext B G α G' α' ∧ StM T B G' H' α' s' ∧ EnvR T G' α' ρ' σ' ∧ whileL fc fb m ρ' s' = whileL fc fb n ρ s, fun σ' H' h => ⟨m, Nat.lt_succ_self _, h⟩, B, G4, α4, ρ', s3, S4, E'.mono x4, ?_⟩
          have P4 := P'.ext x4
          cases eb : fb ρ' s3 with
          | ok q s5 =>
            obtain ⟨o, ρ5⟩ := q
            rw [eb] at tot P4
            cases o with
            | nx => exact fun G6 α6 H6 σ6 x6 S6 E6 => ⟨G6, α6, ρ5, s5, x.trans (x4.trans x6), S6, E6, tot⟩
            | ct => exact fun G6 α6 H6 σ6 x6 S6 E6 => ⟨G6, α6, ρ5, s5, x.trans (x4.trans x6), S6, E6, tot⟩
            | brk => exact P4
            | ret w => exact P4
            | ex z => exact P4
          | ex z s5 => rw [eb] at P4; exact P4.elim
          | no => rw [eb] at P4; exact P4.elim
end
end DM

set_option maxRecDepth 100000
/-! DM8: stores, promises, calls. -/
namespace DM
open PySem PySem.Spec PyProof.Rows L2
section
variable {X : Cx} {T : Tab} {k : Nat} {Wx : WX} {pos : Pos} {t : Tg}
/-! ### x = [.. for ..] -/
theorem d_setLc {tg elt iter : Expr} {ifs : List Expr} {scope : Scope} {own : List (Str × Nat)} {i : Nat} {y : Str} {py spos : Pos} (hc : X.calm = true) (hN : X.N.Nodup) (hy : X.N[i]? = some y) (hyl : X.env.scope.names.lookup y = some .local)
    (hsw : swapsWith (.ListComp elt [⟨tg, iter, ifs, 0⟩] scope pos) (some (.Name y py)) spos.line X.env = pure true) {fi : Env → List Cell → R (List PyData)} {fcnd : Env → List Cell → R Bool} {fe : Env → List Cell → R W} (hi : PI X tg iter (tI T Wx fi)) (ok : BlkOk X.N X.env.scope scope own)
    (hg : ∀ (s : Shared) (H : Hp) (C : Addr) (cl : List (Str × Addr)) (fp : List Addr), PG (X.blk s H scope (compEnvC scope cl C X.env) fp) tg (gT T.K t))
    (ht : ∀ (s : Shared) (H : Hp) (C : Addr) (cl : List (Str × Addr)) (fp : List Addr), PTs (X.blk s H scope (compEnvC scope cl C X.env) fp) ifs (tT T W0 fcnd))
    (he : ∀ (s : Shared) (H : Hp) (C : Addr) (cl : List (Str × Addr)) (fp : List Addr), PE (X.blk s H scope (compEnvC scope cl C X.env) fp) elt (tE T W0 fe)) (hs : ∀ x, foldedSetIterable iter X.env x = pure x) (hsl : ∀ j ∈ tgSlots t, j ∈ own.map (·.2))
    (f : Env → List Cell → R W) (hf : ∀ σ H Q, tE T Wx f σ H Q → tF T Wx (fComp fi t (own.map (·.2)) fcnd fe) σ H Q) :
    PS X (.Assign [.Name y py] (.ListComp elt [⟨tg, iter, ifs, 0⟩] scope pos) spos) (tS T Wx (fAsg f (.n i))) :=
  PS_imp (ps_setLc hc hN hy hyl hsw hi ok hg ht he hs) fun D σ H h => by
    have q : tAsg (tE T Wx f) (gT T.K (.n i)) D σ H := asg_read h
    have q2 := hf _ _ _ q
    show tLc (tI T Wx fi) (gT T.K t) (tT T W0 fcnd) (tE T W0 fe) (own.map (·.2)) σ H (fun x H1 => gName i x σ H1 D.nx)
    refine rd_mono (rd_bind (rel := rIt T) q2) fun J H1 ⟨B, G, α, ρ, s, items, ⟨vs, wk, d⟩, M⟩ D' hD => ?_
    have P := M.P
    by_cases hz : items.length < sizeLine
    · rw [if_pos hz] at P
      exact comp_walk hsl wk.b d M.S M.E hz P hD
    · rw [if_neg hz] at P
      exact P.elim
/-! ### o.f = e, o[i] = e -/
theorem putN_rel {β : Type} {c f : Nat} {R' : β → V → Prop} (ok : TabOk T) (hf : T.has c f = true) {w : β} {v : V} (r : R' w v) : ∀ {fvs : List (Str × V)} {fs : List (Nat × β)}, Paired (fun (p : Str × V) (q : Nat × β) => p.1 = T.fn q.1 ∧ T.has c q.1 = true ∧ R' q.2 p.2) fvs fs →
    Paired (fun (p : Str × V) (q : Nat × β) => p.1 = T.fn q.1 ∧ T.has c q.1 = true ∧ R' q.2 p.2) (putF (T.fn f) v fvs) (putN f w fs)
  | _, _, .nil => .cons ⟨rfl, hf, r⟩ .nil
  | (pn, pv) :: fvs, q :: fs, .cons h t => by
    obtain ⟨h1, h2, h3⟩ := h
    simp only at h1
    have e1 : putF (T.fn f) v ((pn, pv) :: fvs) = (if pn = T.fn f then (pn, v) :: fvs else (pn, pv) :: putF (T.fn f) v fvs) := rfl
    have e2 : putN f w (q :: fs) = (if q.1 = f then (f, w) :: fs else q :: putN f w fs) := rfl
    rw [e1, e2]
    by_cases hq : q.1 = f
    · rw [if_pos hq, if_pos (by rw [h1, hq])]
      exact .cons ⟨by rw [h1, hq], hf, r⟩ t
    · rw [if_neg hq, if_neg (by rw [h1]; exact fun z => hq (ok.inj _ _ (ok.lt _ _ h2) (ok.lt _ _ hf) z))]
      exact .cons ⟨h1, h2, h3⟩ (putN_rel ok hf r t)
theorem Paired.len {α β : Type} {F : α → β → Prop} : ∀ {l : List α} {m : List β}, Paired F l m → l.length = m.length
  | _, _, .nil => rfl
  | _, _, .cons _ t => by simp [Paired.len t]
def fSetF (Φ : Phi) (fo : Env → List Cell → R W) (f : Nat) (fv : Env → List Cell → R W) : Env → List Cell → RS := fun ρ s => ((fv ρ s).bind fun v s => (fo ρ s).bind fun w s => setFW Φ w f v s).st ρ fun _ s => .ok (.nx, ρ) s
theorem d_setF (hK : X.K = T.K) (ok : TabOk T) {Φ : Phi} (hh : ∀ c f, Φ.has c f = true → T.has c f = true) {o value : Expr} {f : Nat} {pos' : Pos} {fo fv : Env → List Cell → R W} (ha : PE X o (tE T Wx fo)) (hv : PE X value (tE T Wx fv))
    (hs : swapsWith value (some (.Attribute o (T.fn f) pos')) pos.line X.env = pure false) : PS X (.Assign [.Attribute o (T.fn f) pos'] value pos) (tS T Wx (fSetF Φ fo f fv)) :=
  PS_imp (ps_fld ha hv hs) fun D σ H h => by
    obtain ⟨B, G, α, ρ, s, S, E, P⟩ := h
    refine ⟨B, G, α, ρ, s, S, E, ?_⟩
    simp only [fSetF] at P
    cases e : fv ρ s with
    | no => rw [e] at P; exact P
    | ex z s1 =>
      rw [e] at P
      exact fun G' α' H' cls dx x S' r => P G' α' H' cls dx σ x S' (E.mono x) r
    | ok v s1 =>
      rw [e] at P
      simp only [R.bind_ok] at P
      intro G1 α1 H1 y x1 S1 rv
      refine ⟨B, G1, α1, ρ, s1, S1, E.mono x1, ?_⟩
      cases e2 : fo ρ s1 with
      | no => rw [e2] at P; exact P
      | ex z s2 =>
        rw [e2] at P
        exact fun G' α' H' cls dx x S' r => P G' α' H' cls dx σ (x1.trans x) S' (E.mono (x1.trans x)) r
      | ok w s2 =>
        rw [e2] at P
        simp only [R.bind_ok] at P
        intro G2 α2 H2 u x2 S2 rw2
        have rv2 := x2.rw rv
        cases w with
        | h i =>
          simp only [setFW] at P
          cases e3 : s2[i]? with
          | none => rw [e3] at P; exact P.elim
          | some cc =>
            rw [e3] at P
            cases cc with
            | ins c fs =>
              simp only at P
              obtain ⟨a, ha', rfl⟩ := rw2
              obtain ⟨hg, hb, C, dx, fvs, hH, hC, hF⟩ := S2.cell i a _ ha' e3
              by_cases hz : (decide (fs.length < 1000) && Φ.has c f) = true
              · rw [if_pos hz] at P
                rw [Bool.and_eq_true, decide_eq_true_eq] at hz
                have hf := hh _ _ hz.2
                rw [hK]
                refine ⟨a, C, dx, fvs, rfl, hH, ok.cl _ _ _ hC hf, ok.na _ _ _ hC hf, by rw [Paired.len hF]; exact hz.1, ?_⟩
                exact P G2 α2 _ σ (x1.trans x2) (S2.set ha' hg hb ⟨hg, hb, C, dx, _, upd_same, hC, putN_rel (R' := fun w v => RW T G2 α2 w v) ok hf rv2 hF⟩) (E.mono (x1.trans x2))
              · rw [if_neg hz] at P
                exact P.elim
            | _ => exact P.elim
        | _ => exact P.elim
def fSetI (fo fi fv : Env → List Cell → R W) : Env → List Cell → RS := fun ρ s => ((fv ρ s).bind fun v s => (fo ρ s).bind fun w s => (fi ρ s).bind fun k s => (ii k s).bind fun k s => (frzR v s).bind fun x s => setIW w k x s).st ρ fun _ s => .ok (.nx, ρ) s
theorem d_setI {o i value : Expr} {ipos : Pos} {fo fi fv : Env → List Cell → R W} (ho : PE X o (tE T Wx fo)) (hi : PE X i (tE T Wx fi)) (hv : PE X value (tE T Wx fv))
    (ha : ∀ v, assign (.Subscript o i ipos) X.env v = (do
      let ov ← holding [v] (eval o X.env)
      let iv ← holding [v, ov] (eval i X.env)
      standAt ipos
      holding [v, ov, iv] (setItem ov iv v)
      release [v, ov, iv] []))
    (hs : swapsWithSole [.Subscript o i ipos] value pos.line X.env = pure false) (hw : swappedStores [.Subscript o i ipos] value X.env = pure none) (h1 : (assignEach [.Subscript o i ipos] X.env).map (·.2) = [assign (.Subscript o i ipos) X.env]) :
    PS X (.Assign [.Subscript o i ipos] value pos) (tS T Wx (fSetI fo fi fv)) :=
  PS_imp (ps_asg hv (pg_sub ho hi set_list ha) hs hw h1) fun D σ H h => by
    obtain ⟨B, G, α, ρ, s, S, E, P⟩ := h
    refine ⟨B, G, α, ρ, s, S, E, ?_⟩
    simp only [fSetI] at P
    cases e : fv ρ s with
    | no => rw [e] at P; exact P
    | ex z s1 => rw [e] at P; exact fun G' α' H' cls dx x S' r => P G' α' H' cls dx σ x S' (E.mono x) r
    | ok v s1 =>
      rw [e] at P
      simp only [R.bind_ok] at P
      intro G1 α1 H1 y x1 S1 rv
      refine ⟨B, G1, α1, ρ, s1, S1, E.mono x1, ?_⟩
      cases e2 : fo ρ s1 with
      | no => rw [e2] at P; exact P
      | ex z s2 => rw [e2] at P; exact fun G' α' H' cls dx x S' r => P G' α' H' cls dx σ (x1.trans x) S' (E.mono (x1.trans x)) r
      | ok w s2 =>
        rw [e2] at P
        simp only [R.bind_ok] at P
        intro G2 α2 H2 u x2 S2 rw2
        refine ⟨B, G2, α2, ρ, s2, S2, E.mono (x1.trans x2), ?_⟩
        cases e3 : fi ρ s2 with
        | no => rw [e3] at P; exact P
        | ex z s3 => rw [e3] at P; exact fun G' α' H' cls dx x S' r => P G' α' H' cls dx σ (x1.trans (x2.trans x)) S' (E.mono (x1.trans (x2.trans x))) r
        | ok kv s3 =>
          rw [e3] at P
          simp only [R.bind_ok] at P
          intro G3 α3 H3 iv x3 S3 rk
          have xx := x1.trans (x2.trans x3)
          cases kv with
          | d kd =>
            cases kd with
            | int j =>
              simp only [ii, R.bind_ok, frzR] at P
              obtain rfl := (show Dp T.K _ _ _ from rk).int_inv
              cases e4 : frz s3 v with
              | none => rw [e4] at P; exact P.elim
              | some q =>
                obtain ⟨xd, s4⟩ := q
                rw [e4] at P
                simp only [R.bind_ok] at P
                obtain ⟨G4, x4, S4, dx⟩ := frz_ok S3 e4 ((x2.trans x3).rw rv)
                have rw4 := x4.rw (x3.rw rw2)
                cases w with
                | h n =>
                  simp only [setIW] at P
                  cases e5 : s4[n]? with
                  | none => rw [e5] at P; exact P.elim
                  | some cc =>
                    rw [e5] at P
                    cases cc with
                    | lst l =>
                      simp only at P
                      cases e6 : ixD l.length j with
                      | none => rw [e6] at P; exact P.elim
                      | some m =>
                        rw [e6] at P
                        obtain ⟨a, vs, rfl, ha', hg, hb, hH, hd⟩ := cell_list S4 e5 rw4
                        refine ⟨a, vs, j, m, rfl, rfl, hH, by rw [hd.len]; exact e6, ?_⟩
                        exact P G4 α3 _ σ (xx.trans x4) (S4.set ha' hg hb ⟨hg, hb, _, upd_same, hd.set m dx⟩) (E.mono (xx.trans x4))
                    | _ => exact P.elim
                | _ => exact P.elim
            | _ => exact P.elim
          | _ => exact P.elim
end

/-! ### promises -/
def rR (T : Tab) : Rel Rv V := fun B G α H r v => match r with
  | .w w => RW T G α w v
  | .l l => rF T B G α H l v
abbrev Hbut (H : Hp) (x : Addr) : Hp := fun b => if b = x then none else H b
def spP (T : Tab) (n : Nat) (g : List W → Option Ro) : Sp := fun vs H Q E => vs.length = n ∧ ∃ (G : Hp) (ws : List W), Same G H ∧ RWs T G [] ws vs ∧ match g ws with
  | some (.ret w) => ∀ (v : V) (H' G' : Hp), Same H H' → Ext H G [] G' [] → Same G' H' → RW T G' [] w v → Q v H'
  | some (.fresh l) => ∀ (v : V) (H' G' : Hp), Same H H' → Ext H G [] G' [] → Same G' H' → rF T H G' [] H' l v → Q v H'
  | some (.ex x) => ∀ (H' : Hp) (cls : Value) (dx : Option Addr), Same H H' → XR T H [] H' x cls dx → E cls dx H'
  | none => False
def spM (T : Tab) (n : Nat) (f : List W → List Cell → R Rv) : Sp := fun vs H Q E => vs.length = n ∧ ∃ (B G : Hp) (α : List Addr) (ws : List W) (s : List Cell), StM T B G H α s ∧ RWs T G α ws vs ∧ Post T (fun cls d _ H => E cls d H) (rR T) B G α [] (f ws s) Q
/-- an __init__ whose instance is frozen: n arguments besides self -/
def spI (T : Tab) (c n : Nat) (g : List W → Option (Except Xc (List (Nat × PyData)))) : Sp := fun vs H Q E => ∃ (G : Hp) (ws : List W) (x dx C : Addr) (us : List V), vs = .ref x :: us ∧ us.length = n ∧ T.cls c = some C ∧ H x = some (.ins C dx []) ∧ G x = none ∧ Same G H ∧ RWs T G [] ws us ∧ match g ws with
  | some (.ok fs) => ∀ (H' G' : Hp) (fvs : List (Str × V)) (dx' : Addr), Same (Hbut H x) H' → Ext H G [] G' [] → Same G' H' → H' x = some (.ins C dx' fvs) → FsD T c G' fvs fs → Q .non H'
  | some (.error z) => ∀ (H' : Hp) (cls : Value) (d : Option Addr), Same (Hbut H x) H' → XR T (Hbut H x) [] H' z cls d → E cls d H'
  | none => False
def spF (T : Tab) : Fs → Nat × Sp
  | .p n g => (n, spP T n g)
  | .m n f => (n, spM T n f)
/-- a class of the program whose instances may be raised with a text -/
structure XcOk (K : PySem.W.Frag) (mg : Str → Option Value) (x : Str) (C : Addr) : Prop where
  ok : ∃ (bmB : List Value) (B newId initId : String), ExcBaseFacts B newId initId bmB ∧ PySem.W.excIn K C bmB newId = true
  gC : mg x = some (.ref C)
  kC : PySem.W.keepIn K (.ref C) = true
  s : PySem.W.subIn K (.ref C) (.type "BaseException") = some true
  t : PySem.W.typeIn K (.ref C) = some (.type "type")
structure Snd (P : Program) (w : World) (K : PySem.W.Frag) (mg : Str → Option Value) (base : Heap) (T : Tab) (k : Nat) (Φ : Phi) : Prop where
  fn : ∀ i φ, Φ.fn i = some φ → ∃ (f : Addr) (fd : FuncData) (ps : List Str), mg (T.gn i) = some (.ref f) ∧ PySem.W.keepIn K (.ref f) = true ∧ Binds K fd ps [] ∧ ps.length = (spF T φ).1 ∧ FnOk P w K mg base (L2N.CX P w) k f fd ps (spF T φ).2
  mt : ∀ c m φ, Φ.mt c m = some φ → ∃ (C f : Addr) (fd : FuncData) (ps : List Str), T.cls c = some C ∧ Cls K C ∧ Meth K C (T.mn m) f ∧ Binds K fd ps [] ∧ ps.length = (spF T φ).1 ∧ FnOk P w K mg base (L2N.CX P w) k f fd ps (spF T φ).2
  clp : ∀ c n g, Φ.cl c = some (.p n g) → ∃ (C f : Addr) (fd : FuncData) (ps : List Str), T.cls c = some C ∧ mg (T.cn c) = some (.ref C) ∧ Mk K C f ∧ Binds K fd ps [] ∧ ps.length = n + 1 ∧ FnOk P w K mg base (L2N.CX P w) k f fd ps (spI T c n g)
  clm : ∀ c n g, Φ.cl c = some (.m n g) → ∃ (C f : Addr) (fd : FuncData) (ps : List Str), T.cls c = some C ∧ mg (T.cn c) = some (.ref C) ∧ Mk K C f ∧ Binds K fd ps [] ∧ ps.length = n + 1 ∧ FnOk P w K mg base (L2N.CX P w) k f fd ps (spM T (n + 1) g)
  has : ∀ c f, Φ.has c f = true → T.has c f = true
  sub : ∀ d f, Φ.sub d = some f → ∃ D, mg (T.cn d) = some (.ref D) ∧ ∀ c b C, f c = some b → T.cls c = some C → PySem.W.exmOne K (.ref C) (.ref D) = some b
  xc : ∀ c, Φ.xc c = true → ∃ C, T.cls c = some C ∧ XcOk K mg (T.cn c) C
  cm : ∀ c m φ, Φ.cm c m = some φ → ∃ (C f : Addr) (fd : FuncData) (ps : List Str) (mc : Value), mg (T.cn c) = some (.ref C) ∧ ClX.CRead K C mc ∧ PySem.W.findCls K (.ref C) mc (T.mn m) = some (.val (.ref f)) ∧ PySem.W.keepIn K (.ref f) = true ∧ Binds K fd ps [] ∧ ps.length = (spF T φ).1 ∧ FnOk P w K mg base (L2N.CX P w) k f fd ps (spF T φ).2
  hx : DH.HxOk P w K mg base T k Φ.hx

/-! ### the caller's side -/
section
variable {T : Tab} {B G H : Hp} {α : List Addr} {s : List Cell}
theorem RW.nil {G : Hp} {α : List Addr} {w : W} {v : V} (h : RW T G [] w v) : RW T G α w v := RW.mono (Same.refl G) ⟨α, rfl⟩ h
theorem RW.flatOk {G G' : Hp} {α α' : List Addr} {w : W} {v : V} (f : flat w = true) (h : RW T G α w v) : RW T G' α' w v := by
  cases w with
  | d x =>
    cases x with
    | none => cases (show Dp T.K G v .none from h); exact (show Dp T.K G' _ .none from .non)
    | bool b => cases (show Dp T.K G v (.bool b) from h); exact (show Dp T.K G' _ (.bool b) from .bl b)
    | int b => cases (show Dp T.K G v (.int b) from h); exact (show Dp T.K G' _ (.int b) from .int b)
    | str b => cases (show Dp T.K G v (.str b) from h); exact (show Dp T.K G' _ (.str b) from .str b)
    | _ => cases f
  | _ => cases f
theorem view_ok (S : StM T B G H α s) : ∀ {ws vs' : List W} {us : List V} {live : Bool}, viewAll s ws = some (vs', live) → RWs T G α ws us → ∃ Gv, Same G Gv ∧ Same Gv H ∧ RWs T Gv [] vs' us ∧ (live = false → Gv = G)
  | [], vs', us, live, h, r => by cases h; cases r; exact ⟨G, Same.refl G, S.gh, .nil, fun _ => rfl⟩
  | w :: ws, vs', us, live, h, r => by
    simp only [viewAll] at h
    cases r with
    | @cons _ u _ us r1 r2 =>
      cases e1 : view s w with
      | none => rw [e1] at h; cases h
      | some p =>
        cases e2 : viewAll s ws with
        | none => rw [e1, e2] at h; cases h
        | some q =>
          obtain ⟨x, b⟩ := p
          obtain ⟨xs, c⟩ := q
          rw [e1, e2] at h
          cases h
          obtain ⟨Gv, g1, g2, r3, hl⟩ := view_ok S e2 r2
          have pure : b = false → RW T G [] x u → ∃ Gv, Same G Gv ∧ Same Gv H ∧ RWs T Gv [] (x :: xs) (u :: us) ∧ ((b || c) = false → Gv = G) := fun hb rx =>
            ⟨Gv, g1, g2, .cons (RW.mono g1 ⟨[], rfl⟩ rx) r3, fun z => hl (by cases b; exact z; cases hb)⟩
          cases w with
          | d y => cases e1; exact pure rfl r1
          | o c' fs => cases e1; exact pure rfl r1
          | dc kvs => cases e1; exact pure rfl r1
          | h i =>
            simp only [view] at e1
            obtain ⟨a, ha, rfl⟩ := r1
            cases e3 : s[i]? with
            | none => rw [e3] at e1; cases e1
            | some cc =>
              rw [e3] at e1
              have hc := S.cell i a cc ha e3
              cases cc with
              | lst l =>
                cases e1
                obtain ⟨hg, hb, vs, hH, hd⟩ := hc
                by_cases hga : Gv a = none
                · refine ⟨upd Gv a (.lst vs), g1.trans (Same.upd hga), fun b u e => ?_, .cons (show Dp T.K _ _ _ from .lst (SqL.of upd_same) (DpAll.mono (g1.trans (Same.upd hga)) _ _ hd)) (RWs.mono (Same.upd hga) ⟨[], rfl⟩ r3), fun z => by cases z⟩
                  by_cases hb : b = a
                  · subst hb; rw [upd_same] at e; cases e; exact hH
                  · rw [upd_ne hb] at e; exact g2 b u e
                · obtain ⟨o, ho⟩ := Option.ne_none_iff_exists'.mp hga
                  have := g2 _ _ ho
                  rw [hH] at this
                  cases this
                  exact ⟨Gv, g1, g2, .cons (show Dp T.K _ _ _ from .lst (SqL.of ho) (DpAll.mono g1 _ _ hd)) r3, fun z => by cases z⟩
              | fzl l =>
                cases e1
                obtain ⟨vs, hG, hd⟩ := hc
                exact pure rfl (show Dp T.K _ _ _ from .lst (SqL.of hG) hd)
              | dct _ _ => cases e1
              | lck _ _ => cases e1
              | ins _ _ => cases e1
              | gone => cases e1
/-- behind a call that keeps all -/
theorem StM.behind (S : StM T B G H α s) {H' G' : Hp} (hs : Same H H') (x : Ext H G [] G' []) (gh : Same G' H') : StM T B G' H' α s ∧ Ext B G α G' α := by
  refine ⟨(S.same hs).know x.g gh fun a ha hg => ?_, x.g, ⟨[], by simp⟩, fun b h1 h2 => ?_⟩
  · obtain ⟨o, ho⟩ := S.mem_there ha
    exact x.b a (by rw [ho]; exact fun z => by cases z) hg
  · cases q : B b with
    | none => exact absurd q h1
    | some u => exact x.b b (by rw [S.bh _ _ q]; exact fun z => by cases z) h2
theorem rF_behind (S : StM T B G H α s) {H' G' : Hp} {l : List PyData} {v : V} (r : rF T H G' [] H' l v) : rF T B G' α H' l v := by
  obtain ⟨a, vs, h1, h2, h3, h4, _, h6⟩ := r
  exact ⟨a, vs, h1, h2, h3, same_none S.bh h4, S.new_notin h4, h6⟩
end
section
variable {X : Cx} {T : Tab} {k : Nat} {Wx : WX} {p pos apos : Pos} {e o : Expr} {es : List Expr} {fes : Env → List Cell → R (List W)} {fo : Env → List Cell → R W} {Φ : Phi}
theorem RWs.len {G : Hp} {α : List Addr} {ws : List W} {us : List V} (r : RWs T G α ws us) : us.length = ws.length := (Paired.len r).symm
theorem _root_.DM.StM.xr {B G H H0 : Hp} {α : List Addr} {s : List Cell} {T : Tab} {H' : Hp} {x : Xc} {cls : Value} {dx : Option Addr} (S : StM T B G H α s) (h : Same H H0) (r : XR T H0 [] H' x cls dx) : XR T B α H' x cls dx :=
  r.wk (fun d e => same_none (S.bh.trans h) e) fun d e _ hm => by
    obtain ⟨o, ho⟩ := S.mem_there hm
    rw [h _ _ ho] at e
    cases e
/-- what a call's reading asks -/
theorem callX_use {φ : Fs} {B G H : Hp} {α : List Addr} {s : List Cell} {ws : List W} {us : List V} {σ : L2.St} {Q : VK} (S : StM T B G H α s) (r : RWs T G α ws us) (P : Post T Wx (rR T) B G α σ (callX φ ws s) Q) : (spF T φ).2 us H Q (WE Wx σ) := by
  cases φ with
  | m n f =>
    simp only [callX] at P
    by_cases hn : ws.length = n
    · rw [if_pos hn] at P
      refine ⟨by rw [RWs.len r]; exact hn, B, G, α, ws, s, S, r, ?_⟩
      cases ef : f ws s with
      | no => rw [ef] at P; exact P
      | ok b s' => rw [ef] at P; exact P
      | ex z s' => rw [ef] at P; exact P
    · rw [if_neg hn] at P
      exact P.elim
  | p n g =>
    simp only [callX] at P
    by_cases hn : ws.length = n
    · rw [if_pos hn] at P
      cases ev : viewAll s ws with
      | none => rw [ev] at P; exact P.elim
      | some q =>
        obtain ⟨vs', live⟩ := q
        rw [ev] at P
        simp only at P
        obtain ⟨Gv, g1, g2, r3, hl⟩ := view_ok S ev r
        refine ⟨by rw [RWs.len r]; exact hn, Gv, vs', g2, r3, ?_⟩
        cases eg : g vs' with
        | none => rw [eg] at P; exact P.elim
        | some ro =>
          rw [eg] at P
          cases ro with
          | ret w =>
            simp only [pX] at P
            intro v H' G' hs x gh rv
            cases live with
            | false =>
              obtain rfl := hl rfl
              rw [if_pos (by simp)] at P
              obtain ⟨S', x'⟩ := S.behind hs x gh
              exact P.at x' S' (show RW T G' α w v from RW.nil rv)
            | true =>
              by_cases hf : flat w = true
              · rw [if_pos (by simp [hf])] at P
                exact P.at Ext.refl' (S.same hs) (show RW T G α w v from RW.flatOk hf rv)
              · rw [if_neg (by simpa using hf)] at P
                exact P.elim
          | fresh l =>
            simp only [pX] at P
            intro v H' G' hs x gh rv
            cases live with
            | false =>
              obtain rfl := hl rfl
              rw [if_pos (by simp)] at P
              obtain ⟨S', x'⟩ := S.behind hs x gh
              exact P.at x' S' (show rF T B G' α H' l v from rF_behind S rv)
            | true => exact P.elim
          | ex z =>
            intro H' cls dx hs rx
            exact P G α H' cls dx Ext.refl' (S.same hs) (S.xr (Same.refl H) rx)
    · rw [if_neg hn] at P
      exact P.elim
theorem rv_W {B G H : Hp} {α : List Addr} {s : List Cell} {σ : L2.St} {rv : Rv} {v : V} {Q : VK} (S : StM T B G H α s) (r : rR T B G α H rv v) (P : Post T Wx (rW T) B G α σ (rvW rv s) Q) : Q v H := by
  cases rv with
  | w w => exact P.now S r
  | l l =>
    obtain ⟨G', x, S', d⟩ := freezeF S r
    exact P.at x S' d
theorem rv_L {B G H : Hp} {α : List Addr} {s : List Cell} {σ : L2.St} {rv : Rv} {v : V} {Q : VK} (S : StM T B G H α s) (r : rR T B G α H rv v) (P : Post T Wx (rF T) B G α σ (rvL rv s) Q) : Q v H := by
  cases rv with
  | w w => exact P.elim
  | l l => exact P.now S r
theorem callF_use {φ : Fs} {B G H : Hp} {α : List Addr} {s : List Cell} {ws : List W} {us : List V} {σ : L2.St} {Q : VK} (S : StM T B G H α s) (r : RWs T G α ws us) (P : Post T Wx (rW T) B G α σ (callF φ ws s) Q) : (spF T φ).2 us H Q (WE Wx σ) :=
  callX_use S r (Post.bind P |>.mono fun v H1 ⟨rv, s1, G1, α1, x, S1, r1, P1⟩ => rv_W S1 r1 P1)
theorem callL_use {φ : Fs} {B G H : Hp} {α : List Addr} {s : List Cell} {ws : List W} {us : List V} {σ : L2.St} {Q : VK} (S : StM T B G H α s) (r : RWs T G α ws us) (P : Post T Wx (rF T) B G α σ (callL φ ws s) Q) : (spF T φ).2 us H Q (WE Wx σ) :=
  callX_use S r (Post.bind P |>.mono fun v H1 ⟨rv, s1, G1, α1, x, S1, r1, P1⟩ => rv_L S1 r1 P1)
theorem rv_T {B G H : Hp} {α : List Addr} {s : List Cell} {σ : L2.St} {rv : Rv} {v : V} {Q : VK} (S : StM T B G H α s) (r : rR T B G α H rv v) (P : Post T Wx (rW T) B G α σ (rvT rv s) Q) : Q v H := by
  cases rv with
  | w w => exact P.now S r
  | l l =>
    obtain ⟨a, rfl, S'⟩ := pushF S r
    exact P.at Ext.push S' ⟨a, by rw [← S.len]; simp, rfl⟩
theorem callT_use {φ : Fs} {B G H : Hp} {α : List Addr} {s : List Cell} {ws : List W} {us : List V} {σ : L2.St} {Q : VK} (S : StM T B G H α s) (r : RWs T G α ws us) (P : Post T Wx (rW T) B G α σ (callT φ ws s) Q) : (spF T φ).2 us H Q (WE Wx σ) :=
  callX_use S r (Post.bind P |>.mono fun v H1 ⟨rv, s1, G1, α1, x, S1, r1, P1⟩ => rv_T S1 r1 P1)
abbrev SndX (X : Cx) (T : Tab) (k : Nat) (Φ : Phi) : Prop := Snd X.prog X.w X.K X.mg X.base T k Φ
def fCall (φ : Option Fs) (fes : Env → List Cell → R (List W)) : Env → List Cell → R W := fun ρ s => match φ with
  | some φ => (fes ρ s).bind fun ws s => callF φ ws s
  | none => .no
def fCallL (φ : Option Fs) (fes : Env → List Cell → R (List W)) : Env → List Cell → R (List PyData) := fun ρ s => match φ with
  | some φ => (fes ρ s).bind fun ws s => callL φ ws s
  | none => .no
def fCallT (φ : Option Fs) (fes : Env → List Cell → R (List W)) : Env → List Cell → R W := fun ρ s => match φ with
  | some φ => (fes ρ s).bind fun ws s => callT φ ws s
  | none => .no
/-- f() -/
theorem pe_callS0 {CX : CXT} {k : Nat} {f : Addr} {fd : FuncData} {ps : List Str} {sp : Sp} {E : L2.St → XK} {x : Str} (F : FnOk X.prog X.w X.K X.mg X.base CX k f fd ps sp) (hr : Room k X.A) (hg : Gl X x) (hm : X.mg x = some (.ref f)) (hk : PySem.W.keepIn X.K (.ref f) = true) (hb : Binds X.K fd ps []) (hx : ∀ σ, PassesAt CX X σ (E σ))
    (hdb : (x == ("__debug__" : Str)) = false) : PE X (.Call (.Name x p) [] [] pos) (tCallS sp E L2.tNil) := by
  refine ⟨fun pins s σ H Q I h => ?_⟩
  refine wpAny_Call_Name_kw (ld_glob I hg hm ?_ hdb)
  exact PySem.W.callWith_K0 I.kIn hk (run_fnS (us := []) F hr hb (hx σ) I .nil h)
/-- what the arguments' trees are -/
def StarOk (X : Cx) (pos : Pos) (es : List Expr) : Prop := ∀ e es', es = e :: es' → starEach (e :: es') X.env = (false, eval e X.env) :: starEach es' X.env ∧ (backTo pos (starEach es' X.env)).any (·.1) = false
theorem d_call {f : Nat} (C : Cold X T k Wx) (Sd : SndX X T k Φ) (hg : Gl X (T.gn f)) (hdb : (T.gn f == ("__debug__" : Str)) = false) (ha : PA X es (tA T Wx fes)) (hnil : es = [] → fes = fun _ s => .ok [] s) (he : StarOk X pos es) : PE X (.Call (.Name (T.gn f) p) es [] pos) (tE T Wx (fCall (Φ.fn f) fes)) := by
  cases eΦ : Φ.fn f with
  | none => exact d_no
  | some φ =>
    obtain ⟨a, fd, ps, h1, h2, h3, h4, h5⟩ := Sd.fn f φ eΦ
    have rd1 : ∀ σ H Q, tE T Wx (fCall (some φ) fes) σ H Q → tCallS (spF T φ).2 (WE Wx) (tA T Wx fes) σ H Q := fun σ H Q h =>
      rd_mono (rd_bind (rel := rWs T) (f := fes) (k := fun _ ws s => callF φ ws s) h) fun us H1 ⟨B, G, α, ρ, s, ws, r, M⟩ => callF_use M.S r M.P
    cases es with
    | nil =>
      exact PE_imp (pe_callS0 h5 C.room hg h1 h2 h3 (fun σ => L2N.passAt C.tk σ) hdb) fun σ H Q q => by
        have q' := rd1 σ H Q q
        rw [hnil rfl] at q'
        obtain ⟨B, G, α, ρ, s, S, E, P⟩ := q'
        exact P.now S (show RWs T _ _ _ _ from .nil)
    | cons e es => exact PE_imp (pe_callS h5 C.room hg h1 h2 h3 (fun σ => L2N.passAt C.tk σ) ha hdb (he e es rfl).1 (he e es rfl).2) rd1
theorem d_callL {f : Nat} (C : Cold X T k Wx) (Sd : SndX X T k Φ) (hg : Gl X (T.gn f)) (hdb : (T.gn f == ("__debug__" : Str)) = false) (ha : PA X es (tA T Wx fes)) (hnil : es = [] → fes = fun _ s => .ok [] s) (he : StarOk X pos es) : PE X (.Call (.Name (T.gn f) p) es [] pos) (tF T Wx (fCallL (Φ.fn f) fes)) := by
  cases eΦ : Φ.fn f with
  | none => exact PE_imp (t := fun _ _ _ => False) ⟨fun _ _ _ _ _ _ h => h.elim⟩ fun σ H Q ⟨B, G, α, ρ, s, S, E, P⟩ => P
  | some φ =>
    obtain ⟨a, fd, ps, h1, h2, h3, h4, h5⟩ := Sd.fn f φ eΦ
    have rd1 : ∀ σ H Q, tF T Wx (fCallL (some φ) fes) σ H Q → tCallS (spF T φ).2 (WE Wx) (tA T Wx fes) σ H Q := fun σ H Q h =>
      rd_mono (rd_bind (rel := rWs T) (f := fes) (k := fun _ ws s => callL φ ws s) h) fun us H1 ⟨B, G, α, ρ, s, ws, r, M⟩ => callL_use M.S r M.P
    cases es with
    | nil =>
      exact PE_imp (pe_callS0 h5 C.room hg h1 h2 h3 (fun σ => L2N.passAt C.tk σ) hdb) fun σ H Q q => by
        have q' := rd1 σ H Q q
        rw [hnil rfl] at q'
        obtain ⟨B, G, α, ρ, s, S, E, P⟩ := q'
        exact P.now S (show RWs T _ _ _ _ from .nil)
    | cons e es => exact PE_imp (pe_callS h5 C.room hg h1 h2 h3 (fun σ => L2N.passAt C.tk σ) ha hdb (he e es rfl).1 (he e es rfl).2) rd1
theorem d_callT {f : Nat} (C : Cold X T k Wx) (Sd : SndX X T k Φ) (hg : Gl X (T.gn f)) (hdb : (T.gn f == ("__debug__" : Str)) = false) (ha : PA X es (tA T Wx fes)) (hnil : es = [] → fes = fun _ s => .ok [] s) (he : StarOk X pos es) : PE X (.Call (.Name (T.gn f) p) es [] pos) (tE T Wx (fCallT (Φ.fn f) fes)) := by
  cases eΦ : Φ.fn f with
  | none => exact d_no
  | some φ =>
    obtain ⟨a, fd, ps, h1, h2, h3, h4, h5⟩ := Sd.fn f φ eΦ
    have rd1 : ∀ σ H Q, tE T Wx (fCallT (some φ) fes) σ H Q → tCallS (spF T φ).2 (WE Wx) (tA T Wx fes) σ H Q := fun σ H Q h =>
      rd_mono (rd_bind (rel := rWs T) (f := fes) (k := fun _ ws s => callT φ ws s) h) fun us H1 ⟨B, G, α, ρ, s, ws, r, M⟩ => callT_use M.S r M.P
    cases es with
    | nil =>
      exact PE_imp (pe_callS0 h5 C.room hg h1 h2 h3 (fun σ => L2N.passAt C.tk σ) hdb) fun σ H Q q => by
        have q' := rd1 σ H Q q
        rw [hnil rfl] at q'
        obtain ⟨B, G, α, ρ, s, S, E, P⟩ := q'
        exact P.now S (show RWs T _ _ _ _ from .nil)
    | cons e es => exact PE_imp (pe_callS h5 C.room hg h1 h2 h3 (fun σ => L2N.passAt C.tk σ) ha hdb (he e es rfl).1 (he e es rfl).2) rd1
/-! ### methods: the class is the receiver's -/
def tMethD (X : Cx) (m : Str) (E : L2.St → XK) (ta : TE) (t : TA) : TE := fun σ H Q => ta σ H fun x H1 => ∃ (C f : Addr) (fd : FuncData) (ps : List Str) (sp : Sp) (k : Nat) (a dx : Addr) (fs : List (Str × V)), x = .ref a ∧ H1 a = some (.ins C dx fs) ∧ fs.lookup m = none ∧
  Cls X.K C ∧ Meth X.K C m f ∧ Binds X.K fd ps [] ∧ FnOk X.prog X.w X.K X.mg X.base (L2N.CX X.prog X.w) k f fd ps sp ∧ Room k X.A ∧ t σ H1 fun vs H2 => sp (x :: vs) H2 Q (E σ)
theorem pe_methD {m : Str} {E : L2.St → XK} {ta : TE} {t : TA} {pl : Sem Bool} (he : PE X o ta) (hx : ∀ σ, PassesAt (L2N.CX X.prog X.w) X σ (E σ)) (ha : PA X (e :: es) t)
    (hst : starEach (e :: es) X.env = (false, eval e X.env) :: starEach es X.env) (hpl : (backTo pos (starEach es X.env)).any (·.1) = false)
    (ht : eval (.Call (.Attribute o m apos) (e :: es) [] pos) X.env = (do
      let ov ← eval o X.env
      standAt apos.atName
      let (f, first) ← holding [ov] (getMethod ov m pl)
      callWith pos f first (backTo pos (starEach (e :: es) X.env)) (backToKw pos (keywordEach [] X.env)))) :
    PE X (.Call (.Attribute o m apos) (e :: es) [] pos) (tMethD X m E ta t) := by
  refine ⟨fun pins s σ H Q I h => ?_⟩
  refine PySem.W.methodCall_KW (pl := pl) (thn (he.run pins s σ H _ I h) fun u s1 ⟨x, H1, I1, rx, C, f, fd, ps, sp, k, a, dx, fs, ex, ea, l, c, hm, hb, F, hr, q⟩ => ?_) ht
  subst ex
  obtain rfl : u = Value.ref a := rx
  refine getmeth_ok I1 ea c hm l ?_
  refine PySem.W.callWith_K (first := [.ref a]) (h₀ := X.base) I.ok.mod.kin hm.kp (thn (ha.run pos pins s1 σ H1 _ I1 q) fun us s2 ⟨vs, H2, I2, r, q2⟩ => ⟨I2.kIn, ?_⟩) hst hpl
  exact run_fnS (us := .ref a :: us) (vs := .ref a :: vs) F hr hb (hx σ) I2 (.cons rfl r) q2
theorem pe_methD0 {m : Str} {E : L2.St → XK} {ta : TE} {pl : Sem Bool} (he : PE X o ta) (hx : ∀ σ, PassesAt (L2N.CX X.prog X.w) X σ (E σ))
    (ht : eval (.Call (.Attribute o m apos) [] [] pos) X.env = (do
      let ov ← eval o X.env
      standAt apos.atName
      let (f, first) ← holding [ov] (getMethod ov m pl)
      callWith pos f first (backTo pos (starEach [] X.env)) (backToKw pos (keywordEach [] X.env)))) :
    PE X (.Call (.Attribute o m apos) [] [] pos) (tMethD X m E ta L2.tNil) := by
  refine ⟨fun pins s σ H Q I h => ?_⟩
  refine PySem.W.methodCall_KW (pl := pl) (thn (he.run pins s σ H _ I h) fun u s1 ⟨x, H1, I1, rx, C, f, fd, ps, sp, k, a, dx, fs, ex, ea, l, c, hm, hb, F, hr, q⟩ => ?_) ht
  subst ex
  obtain rfl : u = Value.ref a := rx
  refine getmeth_ok I1 ea c hm l ?_
  exact PySem.W.callWith_K0 (first := [.ref a]) I1.kIn hm.kp (run_fnS (us := [.ref a]) (vs := [.ref a]) F hr hb (hx σ) I1 (.cons rfl .nil) q)
theorem lookup_none {β : Type} {c m : Nat} {R' : β → V → Prop} (ok : TabOk T) {fvs : List (Str × V)} {fs : List (Nat × β)} (h : Paired (fun (p : Str × V) (q : Nat × β) => p.1 = T.fn q.1 ∧ T.has c q.1 = true ∧ R' q.2 p.2) fvs fs) : fvs.lookup (T.mn m) = none := by
  induction fs generalizing fvs with
  | nil => cases h; rfl
  | cons q fs ih =>
    cases h with
    | @cons p _ fvs _ r t =>
      obtain ⟨pn, pv⟩ := p
      obtain ⟨h1, h2, _⟩ := r
      simp only at h1
      rw [List.lookup_cons]
      have : (T.mn m == pn) = false := by
        rw [beq_eq_false_iff_ne, h1]
        exact fun z => ok.mt _ m (ok.lt _ _ h2) z.symm
      rw [this]
      exact ih t
/-- the receiver, as it lies -/
theorem clsOf_ok (ok : TabOk T) {B G H : Hp} {α : List Addr} {s : List Cell} (S : StM T B G H α s) {w : W} {v : V} {c : Nat} (h : clsOf s w = some c) (r : RW T G α w v) (m : Nat) : ∃ a C dx fvs, v = .ref a ∧ H a = some (.ins C dx fvs) ∧ T.cls c = some C ∧ fvs.lookup (T.mn m) = none := by
  cases w with
  | o c' fs =>
    cases h
    obtain ⟨a, C, dx, fvs, rfl, h1, h2, h3⟩ := r
    exact ⟨a, C, dx, fvs, rfl, S.gh _ _ h1, h2, lookup_none (R' := fun x v => Dp T.K G v x) ok h3⟩
  | h i =>
    obtain ⟨a, ha, rfl⟩ := r
    simp only [clsOf] at h
    cases e : s[i]? with
    | none => rw [e] at h; cases h
    | some cc =>
      rw [e] at h
      cases cc with
      | ins c' fs =>
        cases h
        obtain ⟨_, _, C, dx, fvs, h1, h2, h3⟩ := S.cell i a _ ha e
        exact ⟨a, C, dx, fvs, rfl, h1, h2, lookup_none (R' := fun x v => RW T G α x v) ok h3⟩
      | _ => cases h
  | d x => cases h
  | dc x => cases h
def fMeth (Φ : Phi) (fo : Env → List Cell → R W) (m : Nat) (fes : Env → List Cell → R (List W)) : Env → List Cell → R W := fun ρ s => (fo ρ s).bind fun w s => match clsOf s w with
    | some c => match Φ.mt c m with
      | some φ => (fes ρ s).bind fun ws s => callF φ (w :: ws) s
      | none => .no
    | none => .no
def fMethL (Φ : Phi) (fo : Env → List Cell → R W) (m : Nat) (fes : Env → List Cell → R (List W)) : Env → List Cell → R (List PyData) := fun ρ s => (fo ρ s).bind fun w s => match clsOf s w with
    | some c => match Φ.mt c m with
      | some φ => (fes ρ s).bind fun ws s => callL φ (w :: ws) s
      | none => .no
    | none => .no
def fMethT (Φ : Phi) (fo : Env → List Cell → R W) (m : Nat) (fes : Env → List Cell → R (List W)) : Env → List Cell → R W := fun ρ s => (fo ρ s).bind fun w s => match clsOf s w with
    | some c => match Φ.mt c m with
      | some φ => (fes ρ s).bind fun ws s => callT φ (w :: ws) s
      | none => .no
    | none => .no
theorem meth_read {m : Nat} (C : Cold X T k Wx) (ok : TabOk T) (Sd : SndX X T k Φ) {σ : L2.St} {H : Hp} {Q : VK} (h : tE T Wx (fMeth Φ fo m fes) σ H Q) : tMethD X (T.mn m) (WE Wx) (tE T Wx fo) (tA T Wx fes) σ H Q := by
  refine rd_mono (rd_bind (rel := rW T) (f := fo) h) fun u H1 ⟨B, G, α, ρ, s, w, r, M⟩ => ?_
  have P := M.P
  cases ec : clsOf s w with
  | none => rw [ec] at P; exact P.elim
  | some c =>
    rw [ec] at P
    simp only at P
    cases eΦ : Φ.mt c m with
    | none => rw [eΦ] at P; exact P.elim
    | some φ =>
      rw [eΦ] at P
      obtain ⟨C0, f, fd, ps, h0, h1, h2, h3, h4, h5⟩ := Sd.mt c m φ eΦ
      obtain ⟨a, C1, dx, fvs, rfl, hH, hC, hl⟩ := clsOf_ok ok M.S ec r m
      rw [h0] at hC
      cases hC
      have M' : Mid T Wx (rW T) B G α ρ s σ H1 (fun s => (fes ρ s).bind fun ws s => callF φ (w :: ws) s) Q := ⟨M.S, M.E, P⟩
      refine ⟨C0, f, fd, ps, (spF T φ).2, k, a, dx, fvs, rfl, hH, hl, h1, h2, h3, h5, C.room, ?_⟩
      obtain ⟨B1, G1, α1, ρ1, s1, S, E, P⟩ := M'.step (rel := rWs T) (f := fes)
      exact ⟨B1, G1, α1, ρ1, s1, S, E, P.mono fun us H2 ⟨G2, α2, s2, ws, x2, rws, M2⟩ => callF_use M2.S (show RWs T G2 α2 (w :: ws) _ from .cons (x2.rw r) rws) M2.P⟩
theorem methL_read {m : Nat} (C : Cold X T k Wx) (ok : TabOk T) (Sd : SndX X T k Φ) {σ : L2.St} {H : Hp} {Q : VK} (h : tF T Wx (fMethL Φ fo m fes) σ H Q) : tMethD X (T.mn m) (WE Wx) (tE T Wx fo) (tA T Wx fes) σ H Q := by
  refine rd_mono (rd_bind (rel := rW T) (f := fo) h) fun u H1 ⟨B, G, α, ρ, s, w, r, M⟩ => ?_
  have P := M.P
  cases ec : clsOf s w with
  | none => rw [ec] at P; exact P.elim
  | some c =>
    rw [ec] at P
    simp only at P
    cases eΦ : Φ.mt c m with
    | none => rw [eΦ] at P; exact P.elim
    | some φ =>
      rw [eΦ] at P
      obtain ⟨C0, f, fd, ps, h0, h1, h2, h3, h4, h5⟩ := Sd.mt c m φ eΦ
      obtain ⟨a, C1, dx, fvs, rfl, hH, hC, hl⟩ := clsOf_ok ok M.S ec r m
      rw [h0] at hC
      cases hC
      have M' : Mid T Wx (rF T) B G α ρ s σ H1 (fun s => (fes ρ s).bind fun ws s => callL φ (w :: ws) s) Q := ⟨M.S, M.E, P⟩
      refine ⟨C0, f, fd, ps, (spF T φ).2, k, a, dx, fvs, rfl, hH, hl, h1, h2, h3, h5, C.room, ?_⟩
      obtain ⟨B1, G1, α1, ρ1, s1, S, E, P⟩ := M'.step (rel := rWs T) (f := fes)
      exact ⟨B1, G1, α1, ρ1, s1, S, E, P.mono fun us H2 ⟨G2, α2, s2, ws, x2, rws, M2⟩ => callL_use M2.S (show RWs T G2 α2 (w :: ws) _ from .cons (x2.rw r) rws) M2.P⟩
theorem methT_read {m : Nat} (C : Cold X T k Wx) (ok : TabOk T) (Sd : SndX X T k Φ) {σ : L2.St} {H : Hp} {Q : VK} (h : tE T Wx (fMethT Φ fo m fes) σ H Q) : tMethD X (T.mn m) (WE Wx) (tE T Wx fo) (tA T Wx fes) σ H Q := by
  refine rd_mono (rd_bind (rel := rW T) (f := fo) h) fun u H1 ⟨B, G, α, ρ, s, w, r, M⟩ => ?_
  have P := M.P
  cases ec : clsOf s w with
  | none => rw [ec] at P; exact P.elim
  | some c =>
    rw [ec] at P
    simp only at P
    cases eΦ : Φ.mt c m with
    | none => rw [eΦ] at P; exact P.elim
    | some φ =>
      rw [eΦ] at P
      obtain ⟨C0, f, fd, ps, h0, h1, h2, h3, h4, h5⟩ := Sd.mt c m φ eΦ
      obtain ⟨a, C1, dx, fvs, rfl, hH, hC, hl⟩ := clsOf_ok ok M.S ec r m
      rw [h0] at hC
      cases hC
      have M' : Mid T Wx (rW T) B G α ρ s σ H1 (fun s => (fes ρ s).bind fun ws s => callT φ (w :: ws) s) Q := ⟨M.S, M.E, P⟩
      refine ⟨C0, f, fd, ps, (spF T φ).2, k, a, dx, fvs, rfl, hH, hl, h1, h2, h3, h5, C.room, ?_⟩
      obtain ⟨B1, G1, α1, ρ1, s1, S, E, P⟩ := M'.step (rel := rWs T) (f := fes)
      exact ⟨B1, G1, α1, ρ1, s1, S, E, P.mono fun us H2 ⟨G2, α2, s2, ws, x2, rws, M2⟩ => callT_use M2.S (show RWs T G2 α2 (w :: ws) _ from .cons (x2.rw r) rws) M2.P⟩
/-- how a method's call is evaluated -/
def MethOk (X : Cx) (o : Expr) (m : Str) (apos pos : Pos) (es : List Expr) : Prop := ∃ pl : Sem Bool, eval (.Call (.Attribute o m apos) es [] pos) X.env = (do
      let ov ← eval o X.env
      standAt apos.atName
      let (f, first) ← holding [ov] (getMethod ov m pl)
      callWith pos f first (backTo pos (starEach es X.env)) (backToKw pos (keywordEach [] X.env)))
theorem meth_any {m : Nat} {t : TE} (C : Cold X T k Wx) (ho : PE X o (tE T Wx fo)) (ha : PA X es (tA T Wx fes)) (hnil : es = [] → fes = fun _ s => .ok [] s) (he : StarOk X pos es) (hm : MethOk X o (T.mn m) apos pos es) (i : ∀ σ H Q, t σ H Q → tMethD X (T.mn m) (WE Wx) (tE T Wx fo) (tA T Wx fes) σ H Q) :
    PE X (.Call (.Attribute o (T.mn m) apos) es [] pos) t := by
  obtain ⟨pl, hm⟩ := hm
  cases es with
  | nil =>
    exact PE_imp (pe_methD0 (E := WE Wx) ho (fun σ => L2N.passAt C.tk σ) hm) fun σ H Q q => by
      have q' := i σ H Q q
      rw [hnil rfl] at q'
      refine rd_mono q' fun u H1 ⟨C0, f, fd, ps, sp, k, a, dx, fvs, h1, h2, h3, h4, h5, h6, h7, h8, B, G, α, ρ, s, S, E, P⟩ => ⟨C0, f, fd, ps, sp, k, a, dx, fvs, h1, h2, h3, h4, h5, h6, h7, h8, P.now S (show RWs T _ _ _ _ from .nil)⟩
  | cons e es => exact PE_imp (pe_methD (E := WE Wx) ho (fun σ => L2N.passAt C.tk σ) ha (he e es rfl).1 (he e es rfl).2 hm) i
theorem d_meth {m : Nat} (C : Cold X T k Wx) (ok : TabOk T) (Sd : SndX X T k Φ) (ho : PE X o (tE T Wx fo)) (ha : PA X es (tA T Wx fes)) (hnil : es = [] → fes = fun _ s => .ok [] s) (he : StarOk X pos es) (hm : MethOk X o (T.mn m) apos pos es) :
    PE X (.Call (.Attribute o (T.mn m) apos) es [] pos) (tE T Wx (fMeth Φ fo m fes)) := meth_any C ho ha hnil he hm fun σ H Q => meth_read C ok Sd
theorem d_methL {m : Nat} (C : Cold X T k Wx) (ok : TabOk T) (Sd : SndX X T k Φ) (ho : PE X o (tE T Wx fo)) (ha : PA X es (tA T Wx fes)) (hnil : es = [] → fes = fun _ s => .ok [] s) (he : StarOk X pos es) (hm : MethOk X o (T.mn m) apos pos es) :
    PE X (.Call (.Attribute o (T.mn m) apos) es [] pos) (tF T Wx (fMethL Φ fo m fes)) := meth_any C ho ha hnil he hm fun σ H Q => methL_read C ok Sd
theorem d_methT {m : Nat} (C : Cold X T k Wx) (ok : TabOk T) (Sd : SndX X T k Φ) (ho : PE X o (tE T Wx fo)) (ha : PA X es (tA T Wx fes)) (hnil : es = [] → fes = fun _ s => .ok [] s) (he : StarOk X pos es) (hm : MethOk X o (T.mn m) apos pos es) :
    PE X (.Call (.Attribute o (T.mn m) apos) es [] pos) (tE T Wx (fMethT Φ fo m fes)) := meth_any C ho ha hnil he hm fun σ H Q => methT_read C ok Sd
/-! ### C(..) -/
theorem run_makeS {CX : CXT} {k : Nat} {f C : Addr} {fd : FuncData} {ps : List Str} {sp : Sp} {E : XK} {pins : List (Addr × Obj)} {σ : L2.St} {H : Hp} {s : Shared} {Q : VK} {us : List Value} {vs : List V} (M : Mk X.K C f) (F : FnOk X.prog X.w X.K X.mg X.base CX k f fd ps sp) (hr : Room (k + 1) X.A) (hb : Binds X.K fd ps [])
    (hx : PassesAt CX X σ E) (I : Inv X pins σ H s) (r : Vals vs us)
    (h : ∀ x dx, H x = none → H dx = none → dx ≠ x → sp (.ref x :: vs) (upd (upd H dx (.own x)) x (.ins C dx [])) (fun v H2 => v = .non ∧ Q (.ref x) H2) E) :
    wpAny (model X.prog X.w) X.A (call (.ref C) us) (EP X pins σ Q) X.xe s := by
  have hq := h (s.heap.objs.size + 1) s.heap.objs.size (I.hok.fresh (Nat.le_succ _)) (I.hok.fresh (Nat.le_refl _)) (Nat.ne_of_lt (Nat.lt_succ_self _))
  have I2 := Inv.made (C := C) I
  have r2 : Vals (V.ref (s.heap.objs.size + 1) :: vs) (Value.ref (s.heap.objs.size + 1) :: us) := .cons rfl r
  have hl : (Value.ref (s.heap.objs.size + 1) :: us).length = ps.length := by
    have e := r2.length
    rw [F.len _ _ _ _ hq] at e
    exact e.symm
  have b := hb _ (Value.ref (s.heap.objs.size + 1) :: us) I2.kIn (by rw [List.append_nil]; exact hl)
  rw [List.append_nil] at b
  refine wpAny_call (make_map (f := f) I.kIn M.makes M.init (beq_iff_eq.mp M.fn) (codeAny_mono (F.run _ X.stack _ _ ⟨Value.ref (s.heap.objs.size + 1) :: us, []⟩ (Value.ref (s.heap.objs.size + 1) :: us) _ _ E (hr.make C us [])
    (I2.env0.make C us []) b r2 hq) fun r s' hq' => ?_))
  cases r with
  | error e => exact hx pins _ _ e s' I2 hq'
  | ok fl =>
    cases fl with
    | ret u =>
      obtain ⟨v, H', I3, rv, ev, q3⟩ := I2.after hq'
      subst ev
      exact ⟨rv, ⟨V.ref (s.heap.objs.size + 1), H', I3, rfl, q3⟩⟩
    | next => exact False.elim hq'
    | brk => exact False.elim hq'
    | cont => exact False.elim hq'
def tMakeS (C : Addr) (sp : Sp) (E : L2.St → XK) (t : TA) : TE := fun σ H Q => t σ H fun vs H1 => ∀ x dx, H1 x = none → H1 dx = none → dx ≠ x → sp (.ref x :: vs) (upd (upd H1 dx (.own x)) x (.ins C dx [])) (fun v H2 => v = .non ∧ Q (.ref x) H2) (E σ)
theorem pe_makeS {CX : CXT} {k : Nat} {f C : Addr} {fd : FuncData} {ps : List Str} {sp : Sp} {E : L2.St → XK} {x : Str} {t : TA} (M : Mk X.K C f) (F : FnOk X.prog X.w X.K X.mg X.base CX k f fd ps sp) (hr : Room (k + 1) X.A) (hg : Gl X x) (hm : X.mg x = some (.ref C)) (hb : Binds X.K fd ps []) (hx : ∀ σ, PassesAt CX X σ (E σ))
    (ha : PA X (e :: es) t) (hdb : (x == ("__debug__" : Str)) = false) (he : starEach (e :: es) X.env = (false, eval e X.env) :: starEach es X.env) (hpl : (backTo pos (starEach es X.env)).any (·.1) = false) :
    PE X (.Call (.Name x p) (e :: es) [] pos) (tMakeS C sp E t) := by
  refine ⟨fun pins s σ H Q I h => ?_⟩
  refine wpAny_Call_Name_kw (ld_glob I hg hm ?_ hdb)
  refine PySem.W.callWith_K (h₀ := X.base) I.ok.mod.kin M.kp (thn (ha.run pos pins s σ H _ I h) fun us s1 ⟨vs, H1, I1, r, q⟩ => ⟨I1.kIn, ?_⟩) he hpl
  exact run_makeS M F hr hb (hx σ) I1 r q
def fMk (φ : Option Ms) (c : Nat) (fes : Env → List Cell → R (List W)) : Env → List Cell → R W := fun ρ s => match φ with
  | some φ => (fes ρ s).bind fun ws s => mkF φ c ws s
  | none => .no
theorem Hbut_ne {H : Hp} {x b : Addr} (h : b ≠ x) : Hbut H x b = H b := by unfold Hbut; rw [if_neg h]
theorem made_same {H : Hp} {x dx C : Addr} (hx : H x = none) (hd : H dx = none) : Same H (upd (upd H dx (.own x)) x (.ins C dx [])) := fun b o e => by
  rw [upd_ne (ne_of_none e hx), upd_ne (ne_of_none e hd)]
  exact e
theorem d_mk {c : Nat} (C : Cold X T (k + 1) Wx) (Sd : SndX X T k Φ) (hg : Gl X (T.cn c)) (hdb : (T.cn c == ("__debug__" : Str)) = false) (ha : PA X (e :: es) (tA T Wx fes)) (he : StarOk X pos (e :: es)) : PE X (.Call (.Name (T.cn c) p) (e :: es) [] pos) (tE T Wx (fMk (Φ.cl c) c fes)) := by
  cases eΦ : Φ.cl c with
  | none => exact d_no
  | some φ =>
    cases φ with
    | p n g =>
      obtain ⟨C0, f, fd, ps, h0, h1, h2, h3, h4, h5⟩ := Sd.clp c n g eΦ
      refine PE_imp (pe_makeS h2 h5 C.room hg h1 h3 (fun σ => L2N.passAt C.tk σ) ha hdb (he e es rfl).1 (he e es rfl).2) fun σ H Q h => ?_
      refine rd_mono (rd_bind (rel := rWs T) (f := fes) (k := fun _ ws s => mkF (.p n g) c ws s) h) fun us H1 ⟨B, G, α, ρ, s, ws, r, M⟩ x dx hx hd hne => ?_
      have P := M.P
      simp only [mkF] at P
      by_cases hn : ws.length = n
      · rw [if_pos hn] at P
        cases ev : viewAll s ws with
        | none => rw [ev] at P; exact P.elim
        | some q =>
          obtain ⟨vs', live⟩ := q
          rw [ev] at P
          simp only at P
          obtain ⟨Gv, g1, g2, r3, hl⟩ := view_ok M.S ev r
          have sm := made_same (C := C0) hx hd
          have hxx : upd (upd H1 dx (.own x)) x (.ins C0 dx []) x = some (.ins C0 dx []) := upd_same
          refine ⟨Gv, vs', x, dx, C0, us, rfl, by rw [RWs.len r]; exact hn, h0, hxx, same_none g2 hx, g2.trans sm, r3, ?_⟩
          cases eg : g vs' with
          | none => rw [eg] at P; exact P.elim
          | some ro =>
            rw [eg] at P
            cases ro with
            | ok fs =>
              simp only at P
              intro H' G' fvs dx' hs xE gh hins hF
              refine ⟨rfl, ?_⟩
              cases live with
              | true => exact P.elim
              | false =>
                obtain rfl := hl rfl
                rw [if_pos (by simp)] at P
                have s1 : Same H1 H' := fun b o e => hs b o (by rw [Hbut_ne (ne_of_none e hx)]; exact sm b o e)
                have gx : G' x = none := xE.b x (by rw [hxx]; exact fun z => by cases z) (same_none g2 hx)
                have ga : ∀ a, H1 a ≠ none → Gv a = none → G' a = none := fun a h1 h2 => by
                  obtain ⟨o, ho⟩ := Option.ne_none_iff_exists'.mp h1
                  exact xE.b a (by rw [sm _ _ ho]; exact fun z => by cases z) h2
                have g3 : Same Gv (upd G' x (.ins C0 dx' fvs)) := xE.g.trans (Same.upd gx)
                have S' : StM T B (upd G' x (.ins C0 dx' fvs)) H' α s := (M.S.same s1).know g3 (fun b u e => by
                  by_cases hb : b = x
                  · subst hb; rw [upd_same] at e; cases e; exact hins
                  · rw [upd_ne hb] at e; exact gh b u e) fun a ha hg => by
                  obtain ⟨o, ho⟩ := M.S.mem_there ha
                  rw [upd_ne (ne_of_none ho hx)]
                  exact ga a (by rw [ho]; exact fun z => by cases z) hg
                have xx : Ext B Gv α (upd G' x (.ins C0 dx' fvs)) α := ⟨g3, ⟨[], by simp⟩, fun b h1 h2 => by
                  obtain ⟨o, ho⟩ := Option.ne_none_iff_exists'.mp h1
                  have hb := M.S.bh _ _ ho
                  rw [upd_ne (ne_of_none hb hx)]
                  exact ga b (by rw [hb]; exact fun z => by cases z) h2⟩
                exact P.at xx S' ⟨x, C0, dx', fvs, rfl, upd_same, h0, FsD.mono (Same.upd gx) hF⟩
            | error z =>
              intro H' cls d hs rx
              have s1 : Same H1 H' := fun b o e => hs b o (by rw [Hbut_ne (ne_of_none e hx)]; exact sm b o e)
              exact P G α H' cls d Ext.refl' (M.S.same s1) (M.S.xr (fun b o e => by rw [Hbut_ne (ne_of_none e hx)]; exact sm b o e) rx)
      · rw [if_neg hn] at P
        exact P.elim
    | m n g =>
      obtain ⟨C0, f, fd, ps, h0, h1, h2, h3, h4, h5⟩ := Sd.clm c n g eΦ
      refine PE_imp (pe_makeS h2 h5 C.room hg h1 h3 (fun σ => L2N.passAt C.tk σ) ha hdb (he e es rfl).1 (he e es rfl).2) fun σ H Q h => ?_
      refine rd_mono (rd_bind (rel := rWs T) (f := fes) (k := fun _ ws s => mkF (.m n g) c ws s) h) fun us H1 ⟨B, G, α, ρ, s, ws, r, M⟩ x dx hx hd hne => ?_
      have P := M.P
      simp only [mkF] at P
      by_cases hn : ws.length = n
      · rw [if_pos hn] at P
        have hx' : upd H1 dx (.own x) x = none := by rw [upd_ne (Ne.symm hne)]; exact hx
        have S1 : StM T B G (upd (upd H1 dx (.own x)) x (.ins C0 dx [])) α s := (M.S.beside hd).beside hx'
        have S2 : StM T B G (upd (upd H1 dx (.own x)) x (.ins C0 dx [])) (α ++ [x]) (s ++ [.ins c []]) := S1.push (M.S.new_notin hx) ⟨same_none M.S.gh hx, same_none M.S.bh hx, C0, dx, [], upd_same, h0, .nil⟩
        refine ⟨by simp [RWs.len r, hn], B, G, α ++ [x], .h s.length :: ws, s ++ [.ins c []], S2, .cons ⟨x, by rw [← M.S.len]; simp, rfl⟩ (RWs.mono (Same.refl G) ⟨[x], rfl⟩ r), ?_⟩
        have P' : Post T Wx (rW T) B G (α ++ [x]) σ ((g (.h s.length :: ws) (s ++ [.ins c []])).bind fun r s' => match r with | .w (.d .none) => .ok (.h s.length) s' | _ => .no) Q := P.ext Ext.push
        cases eg : g (.h s.length :: ws) (s ++ [.ins c []]) with
        | no => rw [eg] at P'; exact P'
        | ex z s' => rw [eg] at P'; exact P'
        | ok rv s' =>
          rw [eg] at P'
          simp only [R.bind_ok] at P'
          intro G' α' H' v x1 S' rv'
          cases rv with
          | l l => exact P'.elim
          | w w =>
            cases w with
            | d y =>
              cases y with
              | none =>
                refine ⟨(show Dp T.K G' v .none from rv').non_inv, P'.at x1 S' ⟨x, ?_, rfl⟩⟩
                obtain ⟨t, rfl⟩ := x1.a
                rw [← M.S.len]
                simp
              | _ => exact P'.elim
            | _ => exact P'.elim
      · rw [if_neg hn] at P
        exact P.elim
end
end DM

set_option maxRecDepth 100000
/-! DM8b: dicts. -/
namespace DM
open PySem PySem.Spec PyProof.Rows L2
section
variable {κ : Type} [DecidableEq κ]
abbrev DRp (ko : PyData → Option κ) (K : PySem.W.Frag) (G : Hp) : List (κ × Addr × V) → List (PyData × PyData) → Prop := Paired (fun (x : κ × Addr × V) (q : PyData × PyData) => ko q.1 = some x.1 ∧ Dp K G (.ref x.2.1) q.1 ∧ Dp K G x.2.2 q.2)
theorem DRp.find {ko : PyData → Option κ} {K : PySem.W.Frag} {G : Hp} (k : κ) : ∀ {xs : List (κ × Addr × V)} {kvs : List (PyData × PyData)}, DRp ko K G xs kvs → (∀ y, dFind ko kvs k = some y → ∃ v, valN xs k = some v ∧ Dp K G v y) ∧ (dFind ko kvs k = none → valN xs k = none)
  | _, _, .nil => ⟨fun y h => by simp [dFind] at h, fun _ => rfl⟩
  | x :: xs, q :: kvs, .cons h t => by
    obtain ⟨h1, h2, h3⟩ := h
    obtain ⟨f1, f2⟩ := DRp.find k t
    unfold dFind valN at *
    by_cases e : x.1 = k
    · have e' : ko q.1 = some k := by rw [h1, e]
      simp only [List.find?_cons, e, e', decide_true, Option.map_some]
      exact ⟨fun y hy => by cases hy; exact ⟨_, rfl, h3⟩, fun hy => by cases hy⟩
    · have e' : ¬ ko q.1 = some k := by rw [h1]; exact fun z => e (Option.some.inj z)
      simp only [List.find?_cons, e, e', decide_false]
      exact ⟨f1, f2⟩
theorem DRp.isSome {ko : PyData → Option κ} {K : PySem.W.Frag} {G : Hp} (k : κ) {xs : List (κ × Addr × V)} {kvs : List (PyData × PyData)} (h : DRp ko K G xs kvs) : (valN xs k).isSome = (dFind ko kvs k).isSome := by
  obtain ⟨f1, f2⟩ := h.find k
  cases e : dFind ko kvs k with
  | none => rw [f2 e]; rfl
  | some y => obtain ⟨v, e2, _⟩ := f1 y e; rw [e2]; rfl
theorem DRp.put {ko : PyData → Option κ} {K : PySem.W.Frag} {G : Hp} {k : κ} {b : Addr} {key x : PyData} {v : V} (hk : ko key = some k) (hb : Dp K G (.ref b) key) (hv : Dp K G v x) {xs : List (κ × Addr × V)} {kvs : List (PyData × PyData)} (h : DRp ko K G xs kvs) : DRp ko K G (putX xs k b v) (dPutK ko kvs k key x) := by
  unfold putX dPutK
  rw [h.isSome k]
  by_cases hs : (dFind ko kvs k).isSome = true
  · rw [if_pos hs, if_pos hs]
    clear hs
    induction h with
    | nil => exact .nil
    | @cons p q ps qs h t ih =>
      rw [List.map_cons, List.map_cons]
      refine .cons ?_ ih
      by_cases e : p.1 = k
      · rw [if_pos e, if_pos (by rw [h.1, e])]
        exact ⟨h.1, h.2.1, hv⟩
      · rw [if_neg e, if_neg (by rw [h.1]; exact fun z => e (Option.some.inj z))]
        exact h
  · rw [if_neg hs, if_neg hs]
    exact Paired.snoc h ⟨hk, hb, hv⟩
theorem DRp.mem {ko : PyData → Option κ} {K : PySem.W.Frag} {G : Hp} : ∀ {xs : List (κ × Addr × V)} {kvs : List (PyData × PyData)}, DRp ko K G xs kvs → ∀ x ∈ xs, ∃ q, ko q = some x.1 ∧ Dp K G (.ref x.2.1) q
  | _, _, .nil, x, hx => by cases hx
  | _, _, .cons h t, x, hx => by
    rcases List.mem_cons.mp hx with rfl | hx
    · exact ⟨_, h.1, h.2.1⟩
    · exact DRp.mem t x hx
theorem DRp.len {ko : PyData → Option κ} {K : PySem.W.Frag} {G : Hp} {xs : List (κ × Addr × V)} {kvs : List (PyData × PyData)} (h : DRp ko K G xs kvs) : xs.length = kvs.length := Paired.len h
end
theorem flatKs_vs {K : PySem.W.Frag} {H : Hp} : ∀ {l : List PyData} {ks : List Key} {vs : List V}, flatKs l = some ks → DpAll K H vs l → vs = ks.map kV
  | [], ks, vs, h, d => by cases h; cases d; rfl
  | x :: l, ks, vs, h, d => by
    simp only [flatKs] at h
    cases d with
    | cons d1 d2 =>
      cases e1 : flatK x with
      | none => rw [e1] at h; cases h
      | some k =>
        cases e2 : flatKs l with
        | none => rw [e1, e2] at h; cases h
        | some ks' =>
          rw [e1, e2] at h
          cases h
          rw [List.map_cons, flatKs_vs e2 d2]
          congr 1
          cases x <;> cases e1
          · exact d1.int_inv
          · exact d1.str_inv
section
variable {X : Cx}
structure KO {κ : Type} [DecidableEq κ] (X : Cx) (kd : HeapKind X.prog X.w κ) (ko : PyData → Option κ) : Prop where
  ref : ∀ {H : Hp} {d : PyData} {k : κ} {v : V}, ko d = some k → Dp X.K H v d → ∃ b, v = .ref b
  key : ∀ {H : Hp} {d : PyData} {k : κ} {b : Addr}, ko d = some k → Dp X.K H (.ref b) d → KeyIn X kd H k b
theorem ko_tup : KO X (tupleKind (mixKind X.prog X.w)) fkO := by
  refine ⟨fun {H d k v} h dp => ?_, fun {H d k b} h dp => ?_⟩
  · cases d <;> first | cases h; done | skip
    obtain ⟨a, vs, rfl, _⟩ := dp.tup_inv
    exact ⟨a, rfl⟩
  · cases d <;> first | cases h; done | skip
    obtain ⟨a, vs, e, h1, h2⟩ := dp.tup_inv
    cases e
    rw [flatKs_vs h h2] at h1
    exact keyIn_tup h1
theorem ko_pair : KO X (pairKind (mixKind X.prog X.w)) pkO := by
  have inv : ∀ {d : PyData} {k : Key × List Key}, pkO d = some k → ∃ i l, d = .tuple [i, .tuple l] ∧ flatK i = some k.1 ∧ flatKs l = some k.2 := fun {d k} h => by
    unfold pkO at h
    split at h
    · rename_i i l
      cases e1 : flatK i with
      | none => rw [e1] at h; cases h
      | some a =>
        cases e2 : flatKs l with
        | none => rw [e1, e2] at h; cases h
        | some b =>
          rw [e1, e2] at h
          cases h
          exact ⟨i, l, rfl, e1, e2⟩
    · cases h
  refine ⟨fun {H d k v} h dp => ?_, fun {H d k b} h dp => ?_⟩
  · obtain ⟨i, l, rfl, _⟩ := inv h
    obtain ⟨a, vs, rfl, _⟩ := dp.tup_inv
    exact ⟨a, rfl⟩
  · obtain ⟨i, l, rfl, e1, e2⟩ := inv h
    obtain ⟨a, vs, e, h1, h2⟩ := dp.tup_inv
    cases e
    obtain ⟨v, u, rfl, d1, d2⟩ := DpAll.two h2
    obtain ⟨c, us, rfl, h3, h4⟩ := d2.tup_inv
    rw [flatKs_vs e2 h4] at h3
    have hv : v = kV k.1 := by
      obtain ⟨k1, k2⟩ := k
      cases i <;> cases e1
      · exact d1.int_inv
      · exact d1.str_inv
    rw [hv] at h1
    exact keyIn_pair h1 h3
end
section
variable {X : Cx} {T : Tab} {k : Nat} {Wx : WX} {a b e z : Expr} {pos apos cpos : Pos} {fa fb fz : Env → List Cell → R W}
def DctX (X : Cx) (nd : Bool) (K : PySem.W.Frag) (G H : Hp) (a : Addr) (kvs : List (PyData × PyData)) : Prop :=
  if nd then DR (pairKind (mixKind X.prog X.w)) pkO K G H a kvs else DR (tupleKind (mixKind X.prog X.w)) fkO K G H a kvs
theorem dctX (C : Cold X T k Wx) {nd : Bool} {G H : Hp} {a : Addr} {kvs : List (PyData × PyData)} : DctR T nd G H a kvs ↔ DctX X nd X.K G H a kvs := by
  unfold DctR DctX
  rw [← C.hP, ← C.hw, ← C.hK]
theorem cell_dct (C : Cold X T k Wx) {B G H : Hp} {α : List Addr} {s : List Cell} (S : StM T B G H α s) {i : Nat} {nd : Bool} {kvs : List (PyData × PyData)} {v : V} (e : s[i]? = some (.dct nd kvs)) (r : RW T G α (.h i) v) : ∃ a, v = .ref a ∧ α[i]? = some a ∧ G a = none ∧ B a = none ∧ DctX X nd X.K G H a kvs := by
  obtain ⟨a, ha, rfl⟩ := r
  obtain ⟨h1, h2, h3⟩ := S.cell i a _ ha e
  exact ⟨a, rfl, ha, h1, h2, (dctX C).mp h3⟩
theorem dctOf_ok {s : List Cell} {w : W} {nd : Bool} {kvs : List (PyData × PyData)} (h : dctOf s w = some (nd, kvs)) : ∃ i, w = .h i ∧ (s[i]? = some (.dct nd kvs) ∨ s[i]? = some (.lck nd kvs)) := by
  unfold dctOf at h
  split at h
  · rename_i i
    split at h
    · rename_i nd' kvs' e
      cases h
      exact ⟨i, rfl, .inl e⟩
    · rename_i nd' kvs' e
      cases h
      exact ⟨i, rfl, .inr e⟩
    · cases h
  · cases h
/-- for reading -/
theorem cell_dctR (C : Cold X T k Wx) {B G H : Hp} {α : List Addr} {s : List Cell} (S : StM T B G H α s) {i : Nat} {nd : Bool} {kvs : List (PyData × PyData)} {v : V} (e : s[i]? = some (.dct nd kvs) ∨ s[i]? = some (.lck nd kvs)) (r : RW T G α (.h i) v) : ∃ a, v = .ref a ∧ α[i]? = some a ∧ DctX X nd X.K G H a kvs := by
  obtain ⟨a, ha, rfl⟩ := r
  rcases e with e | e
  · obtain ⟨h1, h2, h3⟩ := S.cell i a _ ha e
    exact ⟨a, rfl, ha, (dctX C).mp h3⟩
  · obtain ⟨h1, h3⟩ := S.cell i a _ ha e
    exact ⟨a, rfl, ha, (dctX C).mp h3⟩
/-- the two kinds at once -/
theorem two_kinds (C : Cold X T k Wx) {P : Prop} (h1 : ∀ {κ : Type} [DecidableEq κ] (kd : HeapKind X.prog X.w κ) (ko : PyData → Option κ), KO X kd ko → kd.room X.A.in1 → P) : Bool → P
  | true => h1 _ pkO ko_pair (room_pair C.hu)
  | false => h1 _ fkO ko_tup (room_tup C.hu)
/-- d[key] at one kind -/
theorem gd_at2 {κ : Type} [DecidableEq κ] {kd : HeapKind X.prog X.w κ} {ko : PyData → Option κ} (O : KO X kd ko) {G H : Hp} (gh : Same G H) {a : Addr} {kvs : List (PyData × PyData)} (d : DR kd ko X.K G H a kvs) {key : PyData} {kk : κ} (hk : ko key = some kk) {y : V} (dy : Dp X.K H y key) {R : Addr → List (κ × Addr × V) → κ → Addr → Prop}
    (q : ∀ b xs, y = .ref b → GdIs kd H a xs → DRp ko X.K G xs kvs → R a xs kk b) : GdAt X kd (.ref a) y H R := by
  obtain ⟨xs, h1, h2⟩ := d
  obtain ⟨b, rfl⟩ := O.ref hk dy
  refine ⟨a, b, xs, kk, rfl, rfl, h1, fun x hx => ?_, O.key hk dy, q b xs rfl h1 h2⟩
  obtain ⟨qd, e1, e2⟩ := DRp.mem h2 x hx
  exact O.key e1 (Dp.mono gh _ _ e2)
/-! ### {} -/
theorem d_dnew (C : Cold X T k Wx) (nd : Bool) : PE X (.Dict [] [] pos) (tE T Wx fun _ s => .ok (.h s.length) (s ++ [.dct nd []])) := by
  cases nd with
  | true =>
    refine PE_imp (pe_gnew (kd := pairKind (mixKind X.prog X.w))) fun σ H Q ⟨B, G, α, ρ, s, S, E, P⟩ p hp => ?_
    have S1 := S.beside (o := gdO (pairKind (mixKind X.prog X.w)) p []) hp
    exact P.at Ext.push (S1.push (S.new_notin hp) (c := .dct true []) ⟨same_none S.gh hp, same_none S.bh hp, (dctX C).mpr (show DR _ _ _ _ _ _ _ from ⟨[], GdIs.of upd_same, .nil⟩)⟩) ⟨p, by rw [← S.len]; simp, rfl⟩
  | false =>
    refine PE_imp (pe_gnew (kd := tupleKind (mixKind X.prog X.w))) fun σ H Q ⟨B, G, α, ρ, s, S, E, P⟩ p hp => ?_
    have S1 := S.beside (o := gdO (tupleKind (mixKind X.prog X.w)) p []) hp
    exact P.at Ext.push (S1.push (S.new_notin hp) (c := .dct false []) ⟨same_none S.gh hp, same_none S.bh hp, (dctX C).mpr (show DR _ _ _ _ _ _ _ from ⟨[], GdIs.of upd_same, .nil⟩)⟩) ⟨p, by rw [← S.len]; simp, rfl⟩
end
/-! ### rules for a dict of either kind -/
section
variable {X : Cx} {o i value e f : Expr} {pos pos' apos cpos : Pos} {td ty tv tx : TE}
def GdX (X : Cx) (x y : V) (H : Hp) (R : ∀ (κ : Type) (inst : DecidableEq κ) (kd : HeapKind X.prog X.w κ), Addr → List (κ × Addr × V) → κ → Addr → Prop) : Prop :=
  ∃ (κ : Type) (inst : DecidableEq κ) (kd : HeapKind X.prog X.w κ), kd.room X.A.in1 ∧ GdAt X kd x y H (R κ inst kd)
theorem pe_xget (ho : PE X o td) (hi : PE X i ty) (hs : NoSl i) : PE X (.Subscript o i pos) (fun σ H Q => td σ H fun x H1 => ty σ H1 fun y H2 => GdX X x y H2 fun κ inst kd a xs k b => ∃ v, valN xs k = some v ∧ Q v H2) := by
  refine ⟨fun pins s σ H Q I h => ?_⟩
  refine subD_of PySem.F.slot_dict_getitem.lookup hs (thn (ho.run pins s σ H _ I h) fun u s1 ⟨x, H1, I1, rx, q1⟩ => thn (hi.run pins s1 σ H1 _ I1 q1) fun iv s2 ⟨y, H2, I2, ry, κ, inst, kd, hu, a, b, xs, k, ex, ey, g, hk, ky, v, l, q2⟩ => ?_)
  subst ex ey
  obtain rfl : u = Value.ref a := rx
  obtain rfl : iv = Value.ref b := ry
  exact ⟨gd_typeIs I2 g, gd_getItem hu I2 g hk ky l fun w' s3 I3 rw' => ⟨v, H2, I3, rw', q2⟩⟩
theorem pc_xin (hi : PE X i ty) (ho : PE X o td) : PC X .In i o (fun σ H Q => ty σ H fun y H1 => td σ H1 fun x H2 => GdX X x y H2 fun κ inst kd a xs k b => Q (.bl (valN xs k).isSome) H2) := by
  refine ⟨fun pins s σ H Q I h => ?_⟩
  refine thn (hi.run pins s σ H _ I h) fun iv s1 ⟨y, H1, I1, ry, q1⟩ => thn (ho.run pins s1 σ H1 _ I1 q1) fun u s2 ⟨x, H2, I2, rx, κ, inst, kd, hu, a, b, xs, k, ex, ey, g, hk, ky, q2⟩ => ?_
  subst ex ey
  obtain rfl : u = Value.ref a := rx
  obtain rfl : iv = Value.ref b := ry
  exact gd_in hu I2 g hk ky fun s3 I3 => ⟨.bl (valN xs k).isSome, H2, I3, rfl, q2⟩
theorem pc_xnotin (hi : PE X i ty) (ho : PE X o td) : PC X .NotIn i o (fun σ H Q => ty σ H fun y H1 => td σ H1 fun x H2 => GdX X x y H2 fun κ inst kd a xs k b => Q (.bl (!(valN xs k).isSome)) H2) := by
  refine ⟨fun pins s σ H Q I h => ?_⟩
  refine thn (hi.run pins s σ H _ I h) fun iv s1 ⟨y, H1, I1, ry, q1⟩ => thn (ho.run pins s1 σ H1 _ I1 q1) fun u s2 ⟨x, H2, I2, rx, κ, inst, kd, hu, a, b, xs, k, ex, ey, g, hk, ky, q2⟩ => ?_
  subst ex ey
  obtain rfl : u = Value.ref a := rx
  obtain rfl : iv = Value.ref b := ry
  exact gd_notIn hu I2 g hk ky fun s3 I3 => ⟨.bl (!(valN xs k).isSome), H2, I3, rfl, q2⟩
theorem ps_xput (ho : PE X o td) (hi : PE X i ty) (hv : PE X value tv) (hs : swapsWith value (some (.Subscript o i pos')) pos.line X.env = pure false) :
    PS X (.Assign [.Subscript o i pos'] value pos) (fun D σ H => tv σ H fun v H1 => td σ H1 fun x H2 => ty σ H2 fun y H3 => GdX X x y H3 fun κ inst kd a xs k b => xs.length < sizeLine ∧ D.nx σ (upd H3 a (gdO kd a (putX xs k b v)))) := by
  refine ⟨fun pins s σ H D I h => ?_⟩
  refine wpAny_Assign_Subscript (thn (hv.run pins s σ H _ I h) fun r s1 ⟨v, H1, I1, rv, q1⟩ => thn (ho.run pins s1 σ H1 _ I1 q1) fun u s2 ⟨x, H2, I2, rx, q2⟩ => thn (hi.run pins s2 σ H2 _ I2 q2) fun iv s3 ⟨y, H3, I3, ry, κ, inst, kd, hu, a, b, xs, k, ex, ey, g, hk, ky, hl, q3⟩ => ?_) hs
  subst ex ey
  obtain rfl : u = Value.ref a := rx
  obtain rfl : iv = Value.ref b := ry
  exact gd_setItem hu I3 g hk ky hl rv fun s4 I4 => ⟨σ, _, I4, q3⟩
theorem pe_xget2 (ho : PE X o td) (he : PE X e ty) (hf : PE X f tx) (m : M2 X o "get" apos e f cpos) : PE X (.Call (.Attribute o "get" apos) [e, f] [] cpos)
    (fun σ H Q => td σ H fun x H1 => (∃ (κ : Type) (inst : DecidableEq κ) (kd : HeapKind X.prog X.w κ) (a : Addr) (xs : List (κ × Addr × V)), x = .ref a ∧ GdIs kd H1 a xs) ∧ ty σ H1 fun y H2 => tx σ H2 fun z H3 => GdX X x y H3 fun κ inst kd a xs k b => Q ((valN xs k).getD z) H3) := by
  refine ⟨fun pins s σ H Q I h => ?_⟩
  refine wpAny_Call_method m.base m.few m.line PySem.F.plainAttrs_dict PySem.F.slot_dict_get PySem.F.type_dict_get (thn (ho.run pins s σ H _ I h) fun u s1 ⟨x, H1, I1, rx, ⟨κ0, inst0, kd0, a, xs, ex, ea⟩, q1⟩ => ?_)
  subst ex
  obtain rfl : u = Value.ref a := rx
  refine ⟨gd_typeIs I1 ea, gd_noDict I1 ea, ?_⟩
  rw [m.trees]
  refine Calls.callWith_builtin rfl (Calls.evalArgs_plain (Calls.spliced_cons (thn (he.run pins s1 σ H1 _ I1 q1) fun iv s2 ⟨y, H2, I2, ry, q2⟩ =>
    Calls.spliced_cons (thn (hf.run pins s2 σ H2 _ I2 q2) fun fv s3 ⟨z, H3, I3, rz, κ, inst, kd, hu, a', b, xs', k, ex', ey, g, hk, ky, q3⟩ => Calls.spliced_nil ?_))))
  cases ex'
  subst ey
  obtain rfl : iv = Value.ref b := ry
  exact gd_get2 hu I3 g hk ky rz fun w' s4 I4 rw' => ⟨_, H3, I4, rw', q3⟩
end
section
variable {X : Cx} {T : Tab} {k : Nat} {Wx : WX} {a b e z : Expr} {pos apos cpos : Pos} {fa fb fz : Env → List Cell → R W}
/-- d[key], at the store -/
theorem getDW_ok (C : Cold X T k Wx) {B G H : Hp} {α : List Addr} {s : List Cell} (S : StM T B G H α s) {w y : W} {u v : V} (rw' : RW T G α w u) (ry : RW T G α y v) {r : Option PyData} (h : getDW w y s = some r)
    {R : ∀ (κ : Type) (inst : DecidableEq κ) (kd : HeapKind X.prog X.w κ), Addr → List (κ × Addr × V) → κ → Addr → Prop}
    (q : ∀ (κ : Type) (inst : DecidableEq κ) (kd : HeapKind X.prog X.w κ) (a : Addr) (xs : List (κ × Addr × V)) (kk : κ) (b : Addr), (∀ x, r = some x → ∃ t, valN xs kk = some t ∧ Dp T.K G t x) → (r = none → valN xs kk = none) → R κ inst kd a xs kk b) : GdX X u v H R := by
  unfold getDW at h
  split at h
  · rename_i nd kvs key e1 e2
    obtain ⟨i, rfl, e3⟩ := dctOf_ok e1
    obtain ⟨a, rfl, _, d⟩ := cell_dctR C S e3 rw'
    have dk : Dp X.K H v key := by rw [C.hK]; exact see_ok S e2 ry
    have go : ∀ {κ : Type} [inst : DecidableEq κ] (kd : HeapKind X.prog X.w κ) (ko : PyData → Option κ), KO X kd ko → kd.room X.A.in1 → DR kd ko X.K G H a kvs → (ko key).map (dFind ko kvs) = some r → GdX X (.ref a) v H R := fun {κ inst} kd ko O hu d h => by
      obtain ⟨kk, hk, hr⟩ := Option.map_eq_some_iff.mp h
      refine ⟨κ, inst, kd, hu, gd_at2 O S.gh d hk dk fun b xs _ _ dp => q _ _ _ _ _ _ _ ?_ ?_⟩
      · intro x hx
        obtain ⟨f1, _⟩ := dp.find kk
        obtain ⟨t, e, dt⟩ := f1 x (by rw [hr, hx])
        exact ⟨t, e, by rw [← C.hK]; exact dt⟩
      · intro hx
        exact (dp.find kk).2 (by rw [hr, hx])
    cases nd with
    | true => exact go _ pkO ko_pair (room_pair C.hu) d h
    | false => exact go _ fkO ko_tup (room_tup C.hu) d h
  · cases h
def fDin (neg : Bool) (fa fb : Env → List Cell → R W) : Env → List Cell → R W := fun ρ s => (fa ρ s).bind fun x s => (fb ρ s).bind fun y s => match getDW y x s with
    | some r => .ok (.d (.bool (if neg then !r.isSome else r.isSome))) s
    | none => .no
def fDget (fa fb : Env → List Cell → R W) : Env → List Cell → R W := fun ρ s => (fa ρ s).bind fun x s => (fb ρ s).bind fun y s => match getDW x y s with
    | some (some r) => .ok (.d r) s
    | _ => .no
theorem isSome_iff {r : Option PyData} {t : Option V} (h1 : ∀ x, r = some x → ∃ v, t = some v) (h2 : r = none → t = none) : t.isSome = r.isSome := by
  cases r with
  | none => rw [h2 rfl]; rfl
  | some x => obtain ⟨v, e⟩ := h1 x rfl; rw [e]; rfl
theorem din_read (C : Cold X T k Wx) {neg : Bool} {σ : L2.St} {H : Hp} {Q : VK} (h : tE T Wx (fDin neg fa fb) σ H Q) : tE T Wx fa σ H fun y H1 => tE T Wx fb σ H1 fun x H2 => GdX X x y H2 fun κ inst kd a xs k b => Q (.bl (if neg then !(valN xs k).isSome else (valN xs k).isSome)) H2 := by
  refine rd_mono (rd_bind (rel := rW T) (f := fa) (k := fun (ρ : Env) (x : W) s => (fb ρ s).bind fun (y : W) s => match getDW y x s with | some r => R.ok (W.d (.bool (if neg then !r.isSome else r.isSome))) s | none => R.no) h) fun y H1 ⟨B, G, α, ρ, s, w1, r1, M⟩ => ?_
  obtain ⟨B2, G2, α2, ρ2, s2, S2, E2, P2⟩ := M.step (rel := rW T) (f := fb)
  refine ⟨B2, G2, α2, ρ2, s2, S2, E2, P2.mono fun x H2 ⟨G3, α3, s3, w3, x3, r3, M3⟩ => ?_⟩
  have P3 := M3.P
  cases e1 : getDW w3 w1 s3 with
  | none => rw [e1] at P3; exact P3.elim
  | some r =>
    rw [e1] at P3
    refine getDW_ok C M3.S r3 (x3.rw r1) e1 fun κ inst kd a xs kk b f1 f2 => ?_
    have := isSome_iff (r := r) (t := valN xs kk) (fun x hx => let ⟨t, e, _⟩ := f1 x hx; ⟨t, e⟩) f2
    rw [this]
    exact P3.now M3.S (show Dp T.K _ _ _ from .bl _)
theorem d_din (C : Cold X T k Wx) (ha : PE X a (tE T Wx fa)) (hb : PE X b (tE T Wx fb)) (hm : behindInMarks .In b = false) : PE X (.Compare a [.In] [b] pos) (tE T Wx (fDin false fa fb)) :=
  PE_imp (pe_cmp (pc_xin ha hb) hm) fun σ H Q h => din_read C h
theorem d_dnotin (C : Cold X T k Wx) (ha : PE X a (tE T Wx fa)) (hb : PE X b (tE T Wx fb)) (hm : behindInMarks .NotIn b = false) : PE X (.Compare a [.NotIn] [b] pos) (tE T Wx (fDin true fa fb)) :=
  PE_imp (pe_cmp (pc_xnotin ha hb) hm) fun σ H Q h => din_read C h
theorem d_dinT (C : Cold X T k Wx) (ha : PE X a (tE T Wx fa)) (hb : PE X b (tE T Wx fb)) (hm : behindInMarks .In b = false) : PT X (.Compare a [.In] [b] pos) (tT T Wx (fT (fDin false fa fb))) :=
  PT_imp (pt_cmp (pc_xin ha hb) hm) fun σ H Q h => din_read C (tE_bl h)
theorem d_dnotinT (C : Cold X T k Wx) (ha : PE X a (tE T Wx fa)) (hb : PE X b (tE T Wx fb)) (hm : behindInMarks .NotIn b = false) : PT X (.Compare a [.NotIn] [b] pos) (tT T Wx (fT (fDin true fa fb))) :=
  PT_imp (pt_cmp (pc_xnotin ha hb) hm) fun σ H Q h => din_read C (tE_bl h)
theorem d_dget (C : Cold X T k Wx) (ha : PE X a (tE T Wx fa)) (hb : PE X b (tE T Wx fb)) (hs : NoSl b) : PE X (.Subscript a b pos) (tE T Wx (fDget fa fb)) :=
  PE_imp (pe_xget ha hb hs) fun σ H Q h => by
    refine rd_mono (rd_bind (rel := rW T) (f := fa) (k := fun (ρ : Env) (x : W) s => (fb ρ s).bind fun (y : W) s => match getDW x y s with | some (some r) => R.ok (W.d r) s | _ => R.no) h) fun y H1 ⟨B, G, α, ρ, s, w1, r1, M⟩ => ?_
    obtain ⟨B2, G2, α2, ρ2, s2, S2, E2, P2⟩ := M.step (rel := rW T) (f := fb)
    refine ⟨B2, G2, α2, ρ2, s2, S2, E2, P2.mono fun x H2 ⟨G3, α3, s3, w3, x3, r3, M3⟩ => ?_⟩
    have P3 := M3.P
    cases e1 : getDW w1 w3 s3 with
    | none => rw [e1] at P3; exact P3.elim
    | some r =>
      rw [e1] at P3
      cases r with
      | none => exact P3.elim
      | some r =>
        refine getDW_ok C M3.S (x3.rw r1) r3 e1 fun κ inst kd a xs kk b f1 f2 => ?_
        obtain ⟨t, e, dt⟩ := f1 r rfl
        exact ⟨t, e, P3.now M3.S (show Dp T.K _ _ _ from dt)⟩
def fDgetD (fa fb fz : Env → List Cell → R W) : Env → List Cell → R W := fun ρ s => (fa ρ s).bind fun x s => if (dctOf s x).isSome then (fb ρ s).bind fun y s => (fz ρ s).bind fun v s => match getDW x y s with
    | some (some r) => .ok (.d r) s
    | some none => .ok v s
    | none => .no
    else .no
theorem d_dgetD (C : Cold X T k Wx) (ha : PE X a (tE T Wx fa)) (hb : PE X b (tE T Wx fb)) (hz : PE X z (tE T Wx fz)) (m : M2 X a "get" apos b z cpos) : PE X (.Call (.Attribute a "get" apos) [b, z] [] cpos) (tE T Wx (fDgetD fa fb fz)) :=
  PE_imp (pe_xget2 ha hb hz m) fun σ H Q h => by
    refine rd_mono (rd_bind (rel := rW T) (f := fa) h) fun u H1 ⟨B, G, α, ρ, s, w1, r1, M⟩ => ?_
    have M0 := M.P
    by_cases hd : (dctOf s w1).isSome = true
    · rw [if_pos hd] at M0
      refine ⟨?_, ?_⟩
      · obtain ⟨⟨nd, kvs⟩, e⟩ := Option.isSome_iff_exists.mp hd
        obtain ⟨i, rfl, e3⟩ := dctOf_ok e
        obtain ⟨a', rfl, _, d⟩ := cell_dctR C M.S e3 r1
        cases nd with
        | true => obtain ⟨xs, h1, _⟩ := d; exact ⟨_, _, _, a', xs, rfl, h1⟩
        | false => obtain ⟨xs, h1, _⟩ := d; exact ⟨_, _, _, a', xs, rfl, h1⟩
      · have M' : Mid T Wx (rW T) B G α ρ s σ H1 (fun s => (fb ρ s).bind fun y s => (fz ρ s).bind fun v s => match getDW w1 y s with | some (some r) => .ok (.d r) s | some none => .ok v s | none => .no) Q := ⟨M.S, M.E, M0⟩
        obtain ⟨B1, G1, α1, ρ1, s1, S, E, P⟩ := M'.step (rel := rW T) (f := fb)
        refine ⟨B1, G1, α1, ρ1, s1, S, E, P.mono fun y H2 ⟨G2, α2, s2, wy, x2, ry, M2⟩ => ?_⟩
        obtain ⟨B3, G3, α3, ρ3, s3, S3, E3, P3⟩ := M2.step (rel := rW T) (f := fz)
        refine ⟨B3, G3, α3, ρ3, s3, S3, E3, P3.mono fun v H3 ⟨G4, α4, s4, wv, x4, rv, M4⟩ => ?_⟩
        have P4 := M4.P
        cases e1 : getDW w1 wy s4 with
        | none => rw [e1] at P4; exact P4.elim
        | some r =>
          rw [e1] at P4
          refine getDW_ok C M4.S (x4.rw (x2.rw r1)) (x4.rw ry) e1 fun κ inst kd a xs kk b f1 f2 => ?_
          cases r with
          | none =>
            rw [f2 rfl]
            exact P4.now M4.S rv
          | some r =>
            obtain ⟨t, e, dt⟩ := f1 r rfl
            rw [e]
            exact P4.now M4.S (show Dp T.K _ _ _ from dt)
    · rw [if_neg hd] at M0
      exact M0.elim
def fSetD (fo fi fv : Env → List Cell → R W) : Env → List Cell → RS := fun ρ s => ((fv ρ s).bind fun v s => (fo ρ s).bind fun w s => (fi ρ s).bind fun y s => (frzR v s).bind fun x s => (frzR y s).bind fun key s => putDW w key x s).st ρ fun _ s => .ok (.nx, ρ) s
/-- d[key] = x, at the store -/
theorem putDW_ok (C : Cold X T k Wx) {B G H : Hp} {α : List Addr} {s : List Cell} (S : StM T B G H α s) {w : W} {u y v : V} (rw' : RW T G α w u) {key x : PyData} (dk : Dp T.K G y key) (dv : Dp T.K G v x) {s' : List Cell} (h : putDW w key x s = .ok () s') {D : Hp → Prop}
    (q : ∀ H', StM T B G H' α s' → D H') : GdX X u y H fun κ inst kd a xs k b => xs.length < sizeLine ∧ D (upd H a (gdO kd a (putX xs k b v))) := by
  unfold putDW at h
  split at h
  · rename_i i
    split at h
    · rename_i nd kvs e3
      split at h
      · rename_i hl
        obtain ⟨a, rfl, ha, hg, hb, d⟩ := cell_dct C S e3 rw'
        have go : ∀ {κ : Type} [inst : DecidableEq κ] (kd : HeapKind X.prog X.w κ) (ko : PyData → Option κ), KO X kd ko → kd.room X.A.in1 → DR kd ko X.K G H a kvs → (∀ xs H', DR kd ko X.K G H' a xs → DctX X nd X.K G H' a xs) →
            (∀ kk, ko key = some kk → s' = s.set i (.dct nd (dPutK ko kvs kk key x))) → (∃ kk, ko key = some kk) → GdX X (.ref a) y H fun κ inst kd a xs k b => xs.length < sizeLine ∧ D (upd H a (gdO kd a (putX xs k b v))) := fun {κ inst} kd ko O hu d up hs ⟨kk, hk⟩ => by
          refine ⟨κ, inst, kd, hu, gd_at2 O S.gh d hk (by rw [C.hK]; exact Dp.mono S.gh _ _ dk) fun b xs ey _ dp => ?_⟩
          refine ⟨by rw [dp.len]; exact hl, q _ ?_⟩
          rw [hs kk hk]
          refine S.set ha hg hb ⟨hg, hb, (dctX C).mpr (up _ _ ⟨_, GdIs.of upd_same, DRp.put hk ?_ ?_ dp⟩)⟩
          · rw [← ey, C.hK]; exact dk
          · rw [C.hK]; exact dv
        cases nd with
        | true =>
          cases e : pkO key with
          | none => rw [show dPut true kvs key x = none by unfold dPut; rw [e]; rfl] at h; cases h
          | some kk =>
            rw [show dPut true kvs key x = some (dPutK pkO kvs kk key x) by unfold dPut; rw [e]; rfl] at h
            cases h
            exact go _ pkO ko_pair (room_pair C.hu) d (fun xs H' z => z) (fun k' h' => by rw [e] at h'; cases h'; rfl) ⟨kk, e⟩
        | false =>
          cases e : fkO key with
          | none => rw [show dPut false kvs key x = none by unfold dPut; rw [e]; rfl] at h; cases h
          | some kk =>
            rw [show dPut false kvs key x = some (dPutK fkO kvs kk key x) by unfold dPut; rw [e]; rfl] at h
            cases h
            exact go _ fkO ko_tup (room_tup C.hu) d (fun xs H' z => z) (fun k' h' => by rw [e] at h'; cases h'; rfl) ⟨kk, e⟩
      · cases h
    · cases h
  · cases h
theorem putDW_no (w : W) (key x : PyData) (s : List Cell) : putDW w key x s = .no ∨ ∃ s', putDW w key x s = .ok () s' := by
  unfold putDW
  split
  · split
    · split
      · split
        · exact .inr ⟨_, rfl⟩
        · exact .inl rfl
      · exact .inl rfl
    · exact .inl rfl
  · exact .inl rfl
theorem d_setD (C : Cold X T k Wx) {o i value : Expr} {pos' : Pos} {fo fi fv : Env → List Cell → R W} (ho : PE X o (tE T Wx fo)) (hi : PE X i (tE T Wx fi)) (hv : PE X value (tE T Wx fv)) (hs : swapsWith value (some (.Subscript o i pos')) pos.line X.env = pure false) :
    PS X (.Assign [.Subscript o i pos'] value pos) (tS T Wx (fSetD fo fi fv)) :=
  PS_imp (ps_xput ho hi hv hs) fun D σ H h => by
    obtain ⟨B, G, α, ρ, s, S, E, P⟩ := h
    refine ⟨B, G, α, ρ, s, S, E, ?_⟩
    simp only [fSetD] at P
    cases e : fv ρ s with
    | no => rw [e] at P; exact P
    | ex z s1 => rw [e] at P; exact fun G' α' H' cls dx x S' r => P G' α' H' cls dx σ x S' (E.mono x) r
    | ok v s1 =>
      rw [e] at P
      simp only [R.bind_ok] at P
      intro G1 α1 H1 y x1 S1 rv
      refine ⟨B, G1, α1, ρ, s1, S1, E.mono x1, ?_⟩
      cases e2 : fo ρ s1 with
      | no => rw [e2] at P; exact P
      | ex z s2 => rw [e2] at P; exact fun G' α' H' cls dx x S' r => P G' α' H' cls dx σ (x1.trans x) S' (E.mono (x1.trans x)) r
      | ok w s2 =>
        rw [e2] at P
        simp only [R.bind_ok] at P
        intro G2 α2 H2 u x2 S2 rw2
        refine ⟨B, G2, α2, ρ, s2, S2, E.mono (x1.trans x2), ?_⟩
        cases e3 : fi ρ s2 with
        | no => rw [e3] at P; exact P
        | ex z s3 => rw [e3] at P; exact fun G' α' H' cls dx x S' r => P G' α' H' cls dx σ (x1.trans (x2.trans x)) S' (E.mono (x1.trans (x2.trans x))) r
        | ok kv s3 =>
          rw [e3] at P
          simp only [R.bind_ok] at P
          intro G3 α3 H3 iv x3 S3 rk
          have xx := x1.trans (x2.trans x3)
          simp only [frzR] at P
          cases e4 : frz s3 v with
          | none => rw [e4] at P; exact P.elim
          | some q =>
            obtain ⟨xd, s4⟩ := q
            rw [e4] at P
            simp only [R.bind_ok] at P
            obtain ⟨G4, x4, S4, dx⟩ := frz_ok S3 e4 ((x2.trans x3).rw rv)
            cases e5 : frz s4 kv with
            | none => rw [e5] at P; exact P.elim
            | some q =>
              obtain ⟨kd, s5⟩ := q
              rw [e5] at P
              simp only [R.bind_ok] at P
              obtain ⟨G5, x5, S5, dk⟩ := frz_ok S4 e5 (x4.rw rk)
              have x45 := x4.trans x5
              rcases putDW_no w kd xd s5 with e6 | ⟨s6, e6⟩
              · rw [e6] at P; exact P.elim
              · rw [e6] at P
                exact putDW_ok C S5 (x45.rw (x3.rw rw2)) dk (Dp.mono x5.g _ _ dx) e6 (D := fun H' => D.nx σ H') fun H' S6 => P G5 α3 H' σ (xx.trans x45) S6 (E.mono (xx.trans x45))
end
/-! ### C.m(self, ..) -/
section
variable {X : Cx} {T : Tab} {k : Nat} {Wx : WX} {Φ : Phi} {e : Expr} {es : List Expr} {p pos apos : Pos} {fes : Env → List Cell → R (List W)}
theorem pe_clsS {sp : Sp} {E : L2.St → XK} {x m : Str} {C f : Addr} {mc : Value} {fd : FuncData} {ps : List Str} {t : TA} {pl : Sem Bool} (hg : Gl X x) (hm : X.mg x = some (.ref C)) (hdb : (x == ("__debug__" : Str)) = false) (r : ClX.CRead X.K C mc) (fc : PySem.W.findCls X.K (.ref C) mc m = some (.val (.ref f))) (hk : PySem.W.keepIn X.K (.ref f) = true) (hb : Binds X.K fd ps [])
    (F : FnOk X.prog X.w X.K X.mg X.base (L2N.CX X.prog X.w) k f fd ps sp) (hr : Room k X.A) (hx : ∀ σ, PassesAt (L2N.CX X.prog X.w) X σ (E σ)) (ha : PA X (e :: es) t)
    (hst : starEach (e :: es) X.env = (false, eval e X.env) :: starEach es X.env) (hpl : (backTo pos (starEach es X.env)).any (·.1) = false)
    (ht : eval (.Call (.Attribute (.Name x p) m apos) (e :: es) [] pos) X.env = (do
      let ov ← eval (.Name x p) X.env
      standAt apos.atName
      let (f, first) ← holding [ov] (getMethod ov m pl)
      callWith pos f first (backTo pos (starEach (e :: es) X.env)) (backToKw pos (keywordEach [] X.env)))) :
    PE X (.Call (.Attribute (.Name x p) m apos) (e :: es) [] pos) (tCallS sp E t) := by
  refine ⟨fun pins s σ H Q I h => ?_⟩
  refine PySem.W.methodCall_KW (pl := pl) (ld_glob I hg hm ?_ hdb) ht
  refine PySem.W.method_cls I.kIn r.ga (ClX.getcval_ok I r (v := .ref f) ⟨fc, rfl⟩ fun s1 I1 => ?_)
  refine PySem.W.callWith_K (first := []) (h₀ := X.base) I.ok.mod.kin hk (thn (ha.run pos pins s1 σ H _ I1 h) fun us s2 ⟨vs, H2, I2, r, q2⟩ => ⟨I2.kIn, ?_⟩) hst hpl
  exact run_fnS F hr hb (hx σ) I2 r q2
def fCls (φ : Option Fs) (fes : Env → List Cell → R (List W)) : Env → List Cell → R W := fun ρ s => match φ with
  | some φ => (fes ρ s).bind fun ws s => callF φ ws s
  | none => .no
theorem d_cls {c m : Nat} (C : Cold X T k Wx) (Sd : SndX X T k Φ) (hg : Gl X (T.cn c)) (hdb : (T.cn c == ("__debug__" : Str)) = false) (ha : PA X (e :: es) (tA T Wx fes)) (he : StarOk X pos (e :: es)) (hm : MethOk X (.Name (T.cn c) p) (T.mn m) apos pos (e :: es)) :
    PE X (.Call (.Attribute (.Name (T.cn c) p) (T.mn m) apos) (e :: es) [] pos) (tE T Wx (fCls (Φ.cm c m) fes)) := by
  cases eΦ : Φ.cm c m with
  | none => exact d_no
  | some φ =>
    obtain ⟨Ca, f, fd, ps, mc, h1, h2, h3, h4, h5, h6, h7⟩ := Sd.cm c m φ eΦ
    obtain ⟨pl, hm⟩ := hm
    exact PE_imp (pe_clsS hg h1 hdb h2 h3 h4 h5 h7 C.room (fun σ => L2N.passAt C.tk σ) ha (he e es rfl).1 (he e es rfl).2 hm) fun σ H Q h =>
      rd_mono (rd_bind (rel := rWs T) (f := fes) (k := fun _ ws s => callF φ ws s) h) fun us H1 ⟨B, G, α, ρ, s, ws, r, M⟩ => callF_use M.S r M.P
end
end DM

set_option maxRecDepth 100000
/-! DM8c: dicts walked, copied, written out; raise, try. -/
namespace DM
open PySem PySem.Spec PyProof.Rows L2
section
variable {X : Cx} {T : Tab} {k : Nat} {Wx : WX} {a b e z : Expr} {pos apos cpos : Pos} {fa fb fz : Env → List Cell → R W}
theorem lckAt_ok {s : List Cell} {w : W} {i : Nat} {nd : Bool} {kvs : List (PyData × PyData)} (h : lckAt w s = some (i, nd, kvs)) : w = .h i ∧ s[i]? = some (.dct nd kvs) := by
  unfold lckAt at h
  split at h
  · split at h
    · rename_i e; cases h; exact ⟨rfl, e⟩
    · cases h
  · cases h
theorem DRp.keysD {κ : Type} [DecidableEq κ] {ko : PyData → Option κ} {K : PySem.W.Frag} {G : Hp} : ∀ {xs : List (κ × Addr × V)} {kvs : List (PyData × PyData)}, DRp ko K G xs kvs → DpAll K G (xs.map fun x => V.ref x.2.1) (kvs.map (·.1))
  | _, _, .nil => .nil
  | _, _, .cons h t => .cons h.2.1 (DRp.keysD t)
structure LckF (T : Tab) (B G : Hp) (α : List Addr) (s : List Cell) (i : Nat) (nd : Bool) (kvs : List (PyData × PyData)) (a : Addr) (o : HO) (J : L2.It) (vs : List V) : Prop where
  ha : α[i]? = some a
  hg : G a = none
  hb : B a = none
  e2 : s[i]? = some (.dct nd kvs)
  d : ∀ (G' H' : Hp), Same G G' → H' a = some o → DctR T nd G' H' a kvs
  wk : WkB (upd B a o) G J vs
  dk : DpAll T.K G vs (kvs.map (·.1))
/-- a dict is walked -/
theorem lck_read (C : Cold X T k Wx) {B G H : Hp} {α : List Addr} {s : List Cell} (S : StM T B G H α s) {w : W} {u : V} (r : RW T G α w u) {i : Nat} {nd : Bool} {kvs : List (PyData × PyData)} (e : lckAt w s = some (i, nd, kvs)) :
    ∃ (κ : Type) (inst : DecidableEq κ) (kd : HeapKind X.prog X.w κ) (a : Addr) (xs : List (κ × Addr × V)), u = .ref a ∧ GdIs kd H a xs ∧ ∀ o, LckF T B G α s i nd kvs a (lockO kd a xs o) (ItG kd a xs o) (xs.map fun x => V.ref x.2.1) := by
  obtain ⟨rfl, e2⟩ := lckAt_ok e
  obtain ⟨a, rfl, ha, hg, hb, d⟩ := cell_dct C S e2 r
  have go : ∀ {κ : Type} [inst : DecidableEq κ] (kd : HeapKind X.prog X.w κ) (ko : PyData → Option κ), (∀ G' H', DR kd ko X.K G' H' a kvs → DctX X nd X.K G' H' a kvs) → DR kd ko X.K G H a kvs → ∃ (κ : Type) (inst : DecidableEq κ) (kd : HeapKind X.prog X.w κ) (a' : Addr) (xs : List (κ × Addr × V)), V.ref a = .ref a' ∧ GdIs kd H a' xs ∧ ∀ o, LckF T B G α s i nd kvs a' (lockO kd a' xs o) (ItG kd a' xs o) (xs.map fun x => V.ref x.2.1) := fun {κ inst} kd ko up d => by
    obtain ⟨xs, h1, h2⟩ := d
    refine ⟨κ, inst, kd, a, xs, rfl, h1, fun o => ⟨ha, hg, hb, e2, (fun G' H' g h => (dctX C).mpr (up _ _ ⟨xs, lock_is h, Paired.imp2 (fun _ _ ⟨p, q, r⟩ => ⟨p, Dp.mono g _ _ q, Dp.mono g _ _ r⟩) h2⟩)), (fun j H' _ hB => ?_), (by rw [← C.hK]; exact DRp.keysD h2)⟩⟩
    have hH := hB a _ upd_same
    refine ⟨fun hj => ?_, fun hj => ⟨hH, by simpa using hj⟩⟩
    rw [List.length_map] at hj
    refine ⟨⟨hH, hj⟩, fun x H2 y => ?_⟩
    obtain ⟨y1, p, y2, y3⟩ := y
    exact ⟨y1, by rw [List.getElem?_map, y2, y3]; rfl⟩
  cases nd with
  | true => exact go _ pkO (fun _ _ h => h) d
  | false => exact go _ fkO (fun _ _ h => h) d
theorem Post.unlock {β γ : Type} {rel : Rel β γ} {B G : Hp} {α : List Addr} {σ : L2.St} {i : Nat} {nd : Bool} {kvs : List (PyData × PyData)} {r : R β} {Q : γ → Hp → Prop} {a : Addr} {o : HO} (P : Post T Wx rel B G α σ (unl i nd kvs r) Q) (ha : α[i]? = some a) (hg : G a = none) (hb : B a = none)
    (d : ∀ (G' H' : Hp), Same G G' → H' a = some o → DctR T nd G' H' a kvs) (hr : ∀ G α H b c, rel (upd B a o) G α H b c → rel B G α H b c) : Post T Wx rel (upd B a o) G α σ r Q := by
  cases r with
  | ok b s => exact fun G' α' H' c x S q => P G' α' H' c (x.unhold hb) (S.unlock x ha hg hb fun H' h => d _ _ x.g h) (hr _ _ _ _ _ q)
  | ex z s => exact fun G' α' H' c dx x S q => P G' α' H' c dx (x.unhold hb) (S.unlock x ha hg hb fun H' h => d _ _ x.g h) q.unhold
  | no => exact P
theorem PostS.unlock {B G : Hp} {α : List Addr} {i : Nat} {nd : Bool} {kvs : List (PyData × PyData)} {r : RS} {D : Ends} {a : Addr} {o : HO} (P : PostS T Wx B G α (unl i nd kvs r) D) (ha : α[i]? = some a) (hg : G a = none) (hb : B a = none)
    (d : ∀ (G' H' : Hp), Same G G' → H' a = some o → DctR T nd G' H' a kvs) : PostS T Wx (upd B a o) G α r D := by
  cases r with
  | ok q s =>
    obtain ⟨oo, ρ⟩ := q
    cases oo with
    | nx => exact fun G' α' H' σ' x S E => P G' α' H' σ' (x.unhold hb) (S.unlock x ha hg hb fun H' h => d _ _ x.g h) E
    | brk => exact fun G' α' H' σ' x S E => P G' α' H' σ' (x.unhold hb) (S.unlock x ha hg hb fun H' h => d _ _ x.g h) E
    | ct => exact fun G' α' H' σ' x S E => P G' α' H' σ' (x.unhold hb) (S.unlock x ha hg hb fun H' h => d _ _ x.g h) E
    | ret w => exact fun G' α' H' v x S E => P G' α' H' v (x.unhold hb) (S.unlock x ha hg hb fun H' h => d _ _ x.g h) E
    | ex z => exact fun G' α' H' c dx σ' x S E q => P G' α' H' c dx σ' (x.unhold hb) (S.unlock x ha hg hb fun H' h => d _ _ x.g h) E q.unhold
  | ex z s => exact P
  | no => exact P
theorem rF_base {B G H : Hp} {α : List Addr} {a : Addr} {o : HO} {l : List PyData} {v : V} (hb : B a = none) (h : rF T (upd B a o) G α H l v) : rF T B G α H l v := by
  obtain ⟨c, vs, h1, h2, h3, h4, h5, h6⟩ := h
  refine ⟨c, vs, h1, h2, h3, ?_, h5, h6⟩
  cases q : B c with
  | none => rfl
  | some u => rw [upd_ne (ne_of_none q hb), q] at h4; cases h4
/-! ### for k in d; [.. for k in d] -/
variable {tg elt iter : Expr} {ifs : List Expr} {scope : Scope} {own : List (Str × Nat)} {t : Tg}
def fForD (fd : Env → List Cell → R W) (t : Tg) (fb : Env → List Cell → RS) : Env → List Cell → RS := fun ρ s => (fd ρ s).st ρ fun w s => match lckAt w s with
    | some (i, nd, kvs) => unl i nd kvs (forL (fun ρ x => asgT ρ t (.d x)) fb (kvs.map (·.1)) ρ (s.set i (.lck nd kvs)))
    | none => .no
theorem d_forD (C : Cold X T k Wx) {body : List Stmt} {fd : Env → List Cell → R W} {fb : Env → List Cell → RS} (hp : PassesOwn (model X.prog X.w) X.A X.env X.xe) (hd : PE X iter (tE T Wx fd)) (hg : PG X tg (gT T.K t)) (hb : PSs X body (tS T Wx fb))
    (hs : ∀ x, foldedSetIterable iter X.env x = pure x) : PS X (.For tg iter body [] pos) (tS T Wx (fForD fd t fb)) :=
  PS_imp (ps_for hp C.calm (pi_gkeys hd) hg hb hs) fun D σ H h => rd_mono (st_read (rel := rW T) (k := fun ρ w s => match lckAt w s with | some (i, nd, kvs) => unl i nd kvs (forL (fun ρ x => asgT ρ t (.d x)) fb (kvs.map (·.1)) ρ (s.set i (.lck nd kvs))) | none => .no) h) fun u H1 ⟨B, G, α, ρ, s, w, r, S, E, P⟩ => by
    cases e : lckAt w s with
    | none => rw [e] at P; exact P.elim
    | some q =>
      obtain ⟨i, nd, kvs⟩ := q
      rw [e] at P
      obtain ⟨κ, inst, kd, a, xs, h1, h2, h3⟩ := lck_read C S r e
      exact ⟨κ, inst, kd, a, xs, h1, h2, fun o => let ⟨ha, hg, hb, e2, d, wk, dk⟩ := h3 o; for_walk wk dk (S.lock ha e2 (d _ _ (Same.refl G) upd_same)) E (PostS.unlock P ha hg hb d)⟩
def fCompD (fd : Env → List Cell → R W) (t : Tg) (own : List Nat) (fc : Env → List Cell → R Bool) (fe : Env → List Cell → R W) : Env → List Cell → R (List PyData) := fun ρ s => (fd ρ s).bind fun w s => match lckAt w s with
    | some (i, nd, kvs) => if kvs.length < sizeLine then unl i nd kvs (compL (turnC t own fc fe ρ) (kvs.map (·.1)) (s.set i (.lck nd kvs))) else .no
    | none => .no
theorem d_compD (C : Cold X T k Wx) {fd : Env → List Cell → R W} {fcnd : Env → List Cell → R Bool} {fe : Env → List Cell → R W} (hd : PE X iter (tE T Wx fd)) (ok : BlkOk X.N X.env.scope scope own)
    (hg : ∀ (s : Shared) (H : Hp) (C : Addr) (cl : List (Str × Addr)) (fp : List Addr), PG (X.blk s H scope (compEnvC scope cl C X.env) fp) tg (gT T.K t))
    (ht : ∀ (s : Shared) (H : Hp) (C : Addr) (cl : List (Str × Addr)) (fp : List Addr), PTs (X.blk s H scope (compEnvC scope cl C X.env) fp) ifs (tT T W0 fcnd))
    (he : ∀ (s : Shared) (H : Hp) (C : Addr) (cl : List (Str × Addr)) (fp : List Addr), PE (X.blk s H scope (compEnvC scope cl C X.env) fp) elt (tE T W0 fe)) (hs : ∀ x, foldedSetIterable iter X.env x = pure x) (hsl : ∀ i ∈ tgSlots t, i ∈ own.map (·.2)) :
    PE X (.ListComp elt [⟨tg, iter, ifs, 0⟩] scope pos) (tF T Wx (fCompD fd t (own.map (·.2)) fcnd fe)) :=
  PE_imp (pe_lc C.calm C.hN (pi_gkeys hd) ok hg ht he hs) fun σ H Q h => by
    refine rd_mono (rd_bind (rel := rW T) (f := fd) h) fun u H1 ⟨B, G, α, ρ, s, w, r, M⟩ => ?_
    have P := M.P
    cases e : lckAt w s with
    | none => rw [e] at P; exact P.elim
    | some q =>
      obtain ⟨i, nd, kvs⟩ := q
      rw [e] at P
      by_cases hz : kvs.length < sizeLine
      · simp only [if_pos hz] at P
        obtain ⟨κ, inst, kd, a, xs, h1, h2, h3⟩ := lck_read C M.S r e
        exact ⟨κ, inst, kd, a, xs, h1, h2, fun o D hD => let ⟨ha, hg, hb, e2, d, wk, dk⟩ := h3 o; comp_walk hsl wk dk (M.S.lock ha e2 (d _ _ (Same.refl G) upd_same)) M.E (by rw [List.length_map]; exact hz) (Post.unlock P ha hg hb d fun G α H b c q => rF_base hb q) hD⟩
      · simp only [if_neg hz] at P
        exact P.elim
/-! ### dict(d) -/
def rCopy (X : Cx) : List V → Hp → VK → Prop := fun xs H Q => ∃ (κ : Type) (inst : DecidableEq κ) (kd : HeapKind X.prog X.w κ) (a : Addr) (ys : List (κ × Addr × V)), xs = [.ref a] ∧ GdIs kd H a ys ∧ (∀ x ∈ ys, KeyIn X kd H x.1 x.2.1 ∧ TupIn X H x.2.1) ∧ (ys.map fun x => kd.hash x.1).Nodup ∧
  (∀ B : Around, B.units ≤ X.A.units + 8 → kd.room B) ∧ ∀ p, H p = none → Q (.ref p) (upd H p (gdO kd p ys))
theorem cr_dcopy : CallR X (.type "dict") (rCopy X) := by
  intro pins s σ H xs us Q I r q
  obtain ⟨κ, inst, kd, a, ys, rfl, g, hk, hn, hu, q⟩ := q
  obtain ⟨u, rfl, rx⟩ := vals1 r
  cases rx
  exact gd_copy hu I g hk hn fun p s' hp I' => ⟨.ref p, _, I', rfl, q p hp⟩
theorem boot_dictT : bootBuiltins ("dict" : Str) = some (.type "dict") := by decide +kernel
theorem tupIn_of {H : Hp} {b : Addr} {l : List PyData} (d : Dp X.K H (.ref b) (.tuple l)) : TupIn X H b := fun pins σ s I => by
  obtain ⟨a, vs, e, h1, _⟩ := d.tup_inv
  cases e
  obtain ⟨its, r, ⟨o, e1, e2, n, e3⟩, _⟩ := I.tuple h1
  exact ⟨o, e1, e2⟩
theorem tupIn_fk {H : Hp} {b : Addr} {x : PyData} {k : List Key} (h : fkO x = some k) (d : Dp X.K H (.ref b) x) : TupIn X H b := by
  cases x <;> first | (cases h; done) | exact tupIn_of d
theorem tupIn_pk {H : Hp} {b : Addr} {x : PyData} {k : Key × List Key} (h : pkO x = some k) (d : Dp X.K H (.ref b) x) : TupIn X H b := by
  unfold pkO at h
  split at h
  · exact tupIn_of d
  · cases h
theorem flatKs_ints : ∀ ns : List Int, flatKs (ns.map .int) = some (ns.map Sum.inl)
  | [] => rfl
  | n :: ns => by
    show (match flatK (.int n), flatKs (ns.map .int) with | some k, some ks => some (k :: ks) | _, _ => none) = _
    rw [flatKs_ints ns]
    rfl
theorem hashK_ok {P : Program} {w : World} {x : PyData} {h : Int} {k : List Key} (e : hashK x = some h) (ek : fkO x = some k) : (tupleKind (mixKind P w)).hash k = h := by
  cases x <;> first | (cases e; done) | skip
  rename_i l
  simp only [hashK] at e
  obtain ⟨ns, e1, e2⟩ := Option.map_eq_some_iff.mp e
  rw [intsOf_map e1] at ek
  have : k = ns.map Sum.inl := by
    have := (flatKs_ints ns).symm.trans ek
    exact (Option.some.inj this).symm
  subst this
  rw [← e2]
  show reduceHash (Builtin.Tuple.tupleHashOf ((ns.map Sum.inl).map (keyH w))) = _
  rw [List.map_map]
  rfl
theorem hashKs_ok {P : Program} {w : World} {K : PySem.W.Frag} {G : Hp} : ∀ {xs : List (List Key × Addr × V)} {kvs : List (PyData × PyData)} {hs : List Int}, DRp fkO K G xs kvs → hashKs (kvs.map (·.1)) = some hs → (xs.map fun x => (tupleKind (mixKind P w)).hash x.1) = hs
  | _, _, hs, .nil, e => by cases e; rfl
  | _, _, hs, .cons (a := x) (b := q) h t, e => by
    simp only [List.map_cons, hashKs] at e
    split at e
    · rename_i h1 hs1 e1 e2
      cases e
      rw [List.map_cons, hashKs_ok t e2, hashK_ok e1 h.1]
    · cases e
def fDcopy (fa : Env → List Cell → R W) : Env → List Cell → R W := fun ρ s => (fa ρ s).bind fun w s => match dctOf s w with
    | some (nd, kvs) => if copyOk nd kvs then .ok (.h s.length) (s ++ [.dct nd kvs]) else .no
    | none => .no
theorem d_dcopy {p : Pos} (C : Cold X T k Wx) (hg : Gl X "dict") (hm : X.mg "dict" = none) (ha : PE X a (tE T Wx fa)) (he : starEach [a] X.env = (false, eval a X.env) :: starEach [] X.env) : PE X (.Call (.Name "dict" p) [a] [] pos) (tE T Wx (fDcopy fa)) :=
  PE_imp (pe_callTy cr_dcopy hg hm boot_dictT (pa_cons ha pa_nil he) (by decide) (by decide) he (by rfl)) fun σ H Q h => by
    refine rd_mono (rd_bind (rel := rW T) (f := fa) h) fun u H1 ⟨B, G, α, ρ, s, w, r, M⟩ => ?_
    have P := M.P
    cases e : dctOf s w with
    | none => rw [e] at P; exact P.elim
    | some q =>
      obtain ⟨nd, kvs⟩ := q
      rw [e] at P
      by_cases hz : copyOk nd kvs = true
      · simp only [if_pos hz] at P
        obtain ⟨i, rfl, e3⟩ := dctOf_ok e
        obtain ⟨a', rfl, ha', d⟩ := cell_dctR C M.S e3 r
        have go : ∀ {κ : Type} [inst : DecidableEq κ] (kd : HeapKind X.prog X.w κ) (ko : PyData → Option κ), KO X kd ko → (∀ {H : Hp} {b : Addr} {x : PyData} {k : κ}, ko x = some k → Dp X.K H (.ref b) x → TupIn X H b) → (∀ B : Around, B.units ≤ X.A.units + 8 → kd.room B) → DR kd ko X.K G H1 a' kvs → (∀ xs, DRp ko X.K G xs kvs → (xs.map fun x => kd.hash x.1).Nodup) →
            (∀ (xs : List (κ × Addr × V)) H' p, H' p = some (gdO kd p xs) → DRp ko X.K G xs kvs → DctX X nd X.K G H' p kvs) → rCopy X [.ref a'] H1 Q := fun {κ inst} kd ko O tu hu d hn up => by
          obtain ⟨xs, h1, h2⟩ := d
          refine ⟨κ, inst, kd, a', xs, rfl, h1, fun x hx => ?_, hn _ h2, hu, fun p hp => ?_⟩
          · obtain ⟨qd, e1, e2⟩ := DRp.mem h2 x hx
            have e2 := Dp.mono M.S.gh _ _ e2
            exact ⟨O.key e1 e2, tu e1 e2⟩
          · have S1 := M.S.beside (o := gdO kd p xs) hp
            exact P.at Ext.push (S1.push (M.S.new_notin hp) (c := .dct nd kvs) ⟨same_none M.S.gh hp, same_none M.S.bh hp, (dctX C).mpr (up _ _ _ upd_same h2)⟩) ⟨p, by rw [← M.S.len]; simp, rfl⟩
        have hu := C.hu
        cases nd with
        | true =>
          have : kvs = [] := by simpa [copyOk] using hz
          subst this
          exact go _ pkO ko_pair (fun h d => tupIn_pk h d) (fun B hB => by show B.units + 2 < cLine; omega) d (fun xs h => by cases h; exact List.nodup_nil) fun xs H' p hp h => (show DR _ _ _ _ _ _ _ from ⟨xs, GdIs.of hp, h⟩)
        | false =>
          unfold copyOk at hz
          rw [if_neg Bool.false_ne_true] at hz
          cases eh : hashKs (kvs.map (·.1)) with
          | none => rw [eh] at hz; cases hz
          | some hs =>
            rw [eh] at hz
            exact go _ fkO ko_tup (fun h d => tupIn_fk h d) (fun B hB => by show B.units < cLine; omega) d (fun xs h => by rw [hashKs_ok h eh]; exact of_decide_eq_true hz) fun xs H' p hp h => (show DR _ _ _ _ _ _ _ from ⟨xs, GdIs.of hp, h⟩)
      · simp only [if_neg hz] at P
        exact P.elim
end
/-! ### {k: v} -/
section
variable {X : Cx} {T : Tab} {k : Nat} {Wx : WX} {a b : Expr} {pos : Pos} {fa fb : Env → List Cell → R W}
theorem frz_len {s s' : List Cell} {w : W} {x : PyData} (h : frz s w = some (x, s')) : s'.length = s.length := by
  unfold frz at h
  split at h
  · cases h; rfl
  · split at h <;> cases h <;> simp
  · cases h
theorem dup_eq {α α' t : List Addr} (e : α' = α ++ t) (h : α'.length = α.length) : α' = α := by
  have : t = [] := by
    have := congrArg List.length e
    simp at this
    exact List.length_eq_zero_iff.mp (by omega)
  rw [e, this, List.append_nil]
def fDlit (fk fv : Env → List Cell → R W) : Env → List Cell → R W := fun ρ s0 => (fk ρ s0).bind fun y s => (fv ρ s).bind fun x s => (frzR y s).bind fun key s => (frzR x s).bind fun xv s => if (fkO key).isSome && decide (s.length = s0.length) then .ok (.h s.length) (s ++ [.dct false [(key, xv)]]) else .no
theorem d_dlit (C : Cold X T k Wx) (ha : PE X a (tE T Wx fa)) (hb : PE X b (tE T Wx fb)) : PE X (.Dict [some a] [b] pos) (tE T Wx (fDlit fa fb)) :=
  PE_imp (pe_gdisp1 (kd := tupleKind (mixKind X.prog X.w)) (by have := C.hu; show X.A.units < cLine; omega) ha hb) fun σ H Q ⟨B, G, α, ρ, s, S, E, P⟩ p hp => by
    have hB : B p = none := same_none S.bh hp
    have hG : G p = none := same_none S.gh hp
    have hn : p ∉ α := S.new_notin hp
    refine ⟨upd B p (gdO (tupleKind (mixKind X.prog X.w)) p []), G, α, ρ, s, (S.beside hp).hold upd_same hn, E, ?_⟩
    simp only [fDlit] at P
    cases e1 : fa ρ s with
    | no => rw [e1] at P; exact P
    | ex z s1 =>
      rw [e1] at P
      exact fun G' α' H' cls dx x S' r => P G' α' H' cls dx (x.unhold hB) (S'.unhold hB) r.unhold
    | ok y s1 =>
      rw [e1] at P
      simp only [R.bind_ok] at P
      intro G1 α1 H1 v1 x1 S1 r1
      refine ⟨_, G1, α1, ρ, s1, S1, E.mono x1, ?_⟩
      cases e2 : fb ρ s1 with
      | no => rw [e2] at P; exact P
      | ex z s2 =>
        rw [e2] at P
        exact fun G' α' H' cls dx x S' r => P G' α' H' cls dx ((x1.trans x).unhold hB) (S'.unhold hB) r.unhold
      | ok w s2 =>
        rw [e2] at P
        simp only [R.bind_ok, frzR] at P
        intro G2 α2 H2 v2 x2 S2 r2
        have r1' := x2.rw r1
        cases e3 : frz s2 y with
        | none => rw [e3] at P; exact P.elim
        | some q =>
          obtain ⟨key, s3⟩ := q
          rw [e3] at P
          simp only [R.bind_ok] at P
          obtain ⟨G3, x3, S3, dk⟩ := frz_ok S2 e3 r1'
          cases e4 : frz s3 w with
          | none => rw [e4] at P; exact P.elim
          | some q =>
            obtain ⟨xv, s4⟩ := q
            rw [e4] at P
            simp only [R.bind_ok] at P
            obtain ⟨G4, x4, S4, dv⟩ := frz_ok S3 e4 (x3.rw r2)
            split at P
            · rename_i hh
              rw [Bool.and_eq_true, decide_eq_true_eq] at hh
              obtain ⟨kk, hk⟩ := Option.isSome_iff_exists.mp hh.1
              have xx : Ext (upd B p (gdO (tupleKind (mixKind X.prog X.w)) p [])) G α G4 α2 := x1.trans (x2.trans (x3.trans x4))
              have e5 : α2 = α := by
                obtain ⟨t, e⟩ := xx.a
                exact dup_eq e (by rw [S4.len, S.len]; exact hh.2)
              have dk4 : Dp X.K G4 v1 key := by rw [C.hK]; exact Dp.mono x4.g _ _ dk
              obtain ⟨b', rfl⟩ := (ko_tup (X := X)).ref hk dk4
              have hG4 : G4 p = none := xx.held hG
              refine ⟨S4.bh _ _ upd_same, b', kk, rfl, (ko_tup (X := X)).key hk (Dp.mono S4.gh _ _ dk4), ?_⟩
              have hn4 : p ∉ α2 := by rw [e5]; exact hn
              have S5 := S4.unhold hB
              have S6 := S5.side (o := gdO (tupleKind (mixKind X.prog X.w)) p [(kk, b', v2)]) hB hG4 hn4
              refine P (G4) (α2 ++ [p]) _ _ ((xx.unhold hB).trans Ext.push) (S6.push hn4 (c := .dct false [(key, xv)]) ⟨hG4, hB, (dctX C).mpr (show DR _ _ _ _ _ _ _ from ⟨_, GdIs.of upd_same, .cons ⟨hk, dk4, by rw [C.hK]; exact dv⟩ .nil⟩)⟩) ⟨p, by rw [← S4.len]; simp, rfl⟩
            · exact P.elim
end
/-! ### raise C('..') -/
section
variable {X : Cx} {T : Tab} {k : Nat} {Wx : WX} {pos pos2 p p2 : Pos}
def fRaise (b : Bool) (c : Nat) : Env → List Cell → RS := fun ρ s => if b then .ok (.ex ⟨c, []⟩, ρ) s else .no
theorem d_raise {c : Nat} {C0 : Addr} {b : Bool} {m : Str} {j : Nat} (C : Cold X T k Wx) (hC : b = true → ∃ C0, T.cls c = some C0 ∧ XcOk X.K X.mg (T.cn c) C0) (hg : Gl X (T.cn c)) (hdb : (T.cn c == ("__debug__" : Str)) = false) :
    PS X (.Raise (some (.Call (.Name (T.cn c) p) [.Constant (.str m) j p2] [] pos)) none pos2) (tS T Wx (fRaise b c)) := by
  cases b with
  | false => exact d_stNo
  | true =>
    obtain ⟨C0, h1, ⟨bmB, B, n1, n2, F, q⟩, gC, kC, hs, ht⟩ := hC rfl
    exact PS_imp (L2N.ps_raise C.calm C.tk (L2N.pmk_own F q gC kC (raises_own hs ht) hg hdb)) fun D σ H ⟨B, G, α, ρ, s, S, E, P⟩ => P G α H (.ref C0) none σ Ext.refl' S E ⟨C0, h1, rfl, rfl⟩
end
/-! ### try: .. except C: return e -/
section
variable {X : Cx} {T : Tab} {k : Nat} {Wx : WX} {pos np pos' rp : Pos} {body : List Stmt} {e : Expr}
def fTry (sub : Nat → Option Bool) (fb : Env → List Cell → RS) (fe : Env → List Cell → R W) : Env → List Cell → RS := fun ρ s => R.tr (fb ρ s) fun x ρ s => match sub x.c with
    | some true => R.only (fe ρ s) ρ
    | some false => .ok (.ex x, ρ) s
    | none => .no
theorem d_try {c : Nat} {D0 : Addr} {sub : Nat → Option Bool} {fb : Env → List Cell → RS} {fe : Env → List Cell → R W} (hs : X.stack = X.env :: X.outer) (hf : X.env.frame = some X.env.locals) (hc : Names X (T.cn c) (.ref D0)) (tk : L2N.Takes X Wx)
    (hsub : ∀ c b C, sub c = some b → T.cls c = some C → PySem.W.exmOne X.K (.ref C) (.ref D0) = some b)
    (hb : ∀ (W : WX) (pn : List (Addr × Obj)) (xe : Value → Shared → Prop), L2N.Takes (X.tr pn xe) W → PassesOwn (model X.prog X.w) X.A X.env xe → PSs (X.tr pn xe) body (tS T W fb))
    (he : ∀ (a : Addr) (oe : Obj) (pn : List (Addr × Obj)), PE (X.suite a ((a, oe) :: pn)) e (tE T W0 fe)) :
    PS X (.Try body [.ExceptHandler (some (.Name (T.cn c) np)) none [.Return (some e) rp] pos'] [] [] pos) (tS T Wx (fTry sub fb fe)) :=
  PS_imp (L2N.ps_try_many (l := [(.ref D0, fun _ _ _ => tS T W0 (fSq (fRet fe) fun ρ s => .ok (.nx, ρ) s))]) hs hf tk (fun W pn xe tk' hp => hb W pn xe tk' hp) (.cons hc (fun a oe cls d pn hz hd => d_consS (d_ret (he a oe pn)) d_nilS) .nil)) fun D σ H ⟨B, G, α, ρ, s, S, E, P⟩ => by
    refine ⟨B, G, α, ρ, s, S, E, ?_⟩
    simp only [fTry] at P
    cases eb : fb ρ s with
    | no => rw [eb] at P; exact P
    | ex z s1 => rw [eb] at P; exact P
    | ok q s1 =>
      obtain ⟨o, ρ1⟩ := q
      rw [eb] at P
      cases o with
      | nx => exact P
      | brk => exact P
      | ct => exact P
      | ret w => exact P
      | ex z =>
        intro G1 α1 H1 cls dx σ1 x1 S1 E1 r1
        obtain ⟨C, hC, rfl, hx⟩ := id r1
        simp only [R.tr_xx] at P
        cases es : sub z.c with
        | none => rw [es] at P; exact P.elim
        | some b =>
          rw [es] at P
          refine ⟨b, hsub _ _ _ es hC, fun hb a na => ?_, fun hb => ?_⟩
          · subst hb
            refine ⟨B, G1, α1, ρ1, s1, S1, E1, ?_⟩
            simp only [fSq, fRet]
            simp only at P
            cases ee : fe ρ1 s1 with
            | no => rw [ee] at P; exact P
            | ex z2 s2 => rw [ee] at P; exact P.elim
            | ok w s2 =>
              rw [ee] at P
              exact fun G' α' H' v x S r => P G' α' H' v (x1.trans x) S r
          · subst hb
            exact P G1 α1 H1 (.ref C) dx σ1 x1 S1 E1 r1
end
end DM

set_option maxRecDepth 100000
/-! DM9: a def keeps its promise. -/
namespace DM
open PySem PySem.Spec PyProof.Rows L2
/-- what is wanted of an exception in a def's body -/
abbrev WD (E : XK) : WX := fun cls d _ H => E cls d H
theorem startR {T : Tab} {G : Hp} {α : List Addr} {N : List Str} : ∀ {ws : List W} {vs : List V}, RWs T G α ws vs → vs.length ≤ N.length → EnvR T G α (startE N.length ws) (L2.start N vs) := by
  intro ws vs r hl
  have e : ws.length = vs.length := Paired.len r
  refine ⟨by unfold startE L2.start; simp [e], fun i w h => ?_⟩
  unfold startE at h
  unfold L2.start
  by_cases hi : i < ws.length
  · rw [List.getElem?_append_left (by simpa using hi), List.getElem?_map] at h
    have h1 : ws[i]? = some ws[i] := List.getElem?_eq_getElem hi
    rw [h1] at h
    simp at h
    have go : ∀ {ws : List W} {vs : List V} {i : Nat} {w : W}, RWs T G α ws vs → ws[i]? = some w → ∃ v, vs[i]? = some v ∧ RW T G α w v := by
      intro ws
      induction ws with
      | nil => intro vs i w r h; simp at h
      | cons a ws ih =>
        intro vs i w r h
        cases r with
        | cons r1 r2 =>
          cases i with
          | zero => simp at h; subst h; exact ⟨_, by simp, r1⟩
          | succ i => simp at h; obtain ⟨v, e1, e2⟩ := ih r2 h; exact ⟨v, by simpa using e1, e2⟩
    obtain ⟨v, e1, e2⟩ := go r (by rw [h1, h])
    refine ⟨v, ?_, e2⟩
    rw [List.getElem?_append_left (by simpa using (List.getElem?_eq_some_iff.mp e1).1), List.getElem?_map, e1]
    rfl
  · rw [List.getElem?_append_right (by simpa using hi), List.getElem?_replicate] at h
    split at h <;> cases h
section
variable {P : Program} {w : World} {K : PySem.W.Frag} {mg : Str → Option Value} {base : Heap} {T : Tab}
theorem _root_.L2.Fun.okN {x qual : Str} {st : Stmt} {f : Addr} {fd : FuncData} {N ps : List Str} {k : Nat} {sp : Sp} (F : Fun K x qual st f fd) (S : FnScope N ps (defScope st)) (len : ∀ vs H Q E, sp vs H Q E → vs.length = ps.length)
    (hbody : ∀ (cdv : Value) (A : Around) (outer : List PySem.Env) (s : Shared) (H : Hp) (vs : List V) (Q : VK) (E : XK), Room k (A.deeper (envOfC qual (defScope st) s.heap.objs.size f cdv)) → sp vs H Q E →
      ∃ t, PSs (cxOf (L2N.CX P w) P w K mg base N qual (defScope st) f cdv A outer s H E) (defBody st) t ∧ t { nx := fun _ H' => Q .non H', rt := Q } (L2.start N vs) H) : FnOk P w K mg base (L2N.CX P w) (k + 1) f fd ps sp := by
  obtain ⟨oc, od, kV, doc, pm, an, cdv, ct, osl, rfl, lk, hcd⟩ := F.ex
  exact fn_of lk hcd S len fun A outer s H vs Q E hr hsp => hbody cdv A outer s H vs Q E hr hsp
abbrev cxD (P : Program) (w : World) (K : PySem.W.Frag) (mg : Str → Option Value) (base : Heap) (N : List Str) (qual : Str) (st : Stmt) (f : Addr) (cdv : Value) (A : Around) (outer : List PySem.Env) (s : Shared) (H : Hp) (E : XK) : Cx := cxOf (L2N.CX P w) P w K mg base N qual (defScope st) f cdv A outer s H E
theorem RW.noH {G : Hp} {α α' : List Addr} : ∀ {w : W} {v : V}, (∀ i, w ≠ .h i) → RW T G α w v → RW T G α' w v
  | .d _, _, _, h => h
  | .h i, _, hn, _ => absurd rfl (hn i)
  | .o _ _, _, _, h => h
  | .dc _, _, _, h => h
/-- a def without a look at the store -/
theorem ok_P {x qual : Str} {st : Stmt} {f : Addr} {fd : FuncData} {N ps : List Str} {k : Nat} {g : List W → Option Ro} {run : Nat → Env → List Cell → RS} (F : Fun K x qual st f fd) (S : FnScope N ps (defScope st))
    (body : ∀ (n : Nat) (cdv : Value) (A : Around) (outer : List PySem.Env) (s : Shared) (H : Hp) (E : XK), Room k (A.deeper (envOfC qual (defScope st) s.heap.objs.size f cdv)) → PSs (cxD P w K mg base N qual st f cdv A outer s H E) (defBody st) (tS T (WD E) (run n)))
    (spec : ∀ ws ro, ws.length = ps.length → g ws = some ro → ∃ n, endP (run n (startE N.length ws) []) = some ro) : FnOk P w K mg base (L2N.CX P w) (k + 1) f fd ps (spP T ps.length g) := by
  refine F.okN S (fun vs H Q E h => h.1) (fun cdv A outer s H vs Q E hr h => ?_)
  obtain ⟨hl, G, ws, gh, r, h⟩ := h
  cases eg : g ws with
  | none => rw [eg] at h; exact h.elim
  | some ro =>
    rw [eg] at h
    have hw : ws.length = ps.length := by rw [← RWs.len r]; exact hl
    obtain ⟨n, hn⟩ := spec ws ro hw eg
    have hpl : ps.length ≤ N.length := by have := congrArg List.length S.pre; rw [List.length_take] at this; omega
    refine ⟨_, body n cdv A outer s H E hr, H, G, [], startE N.length ws, [], ⟨gh, Same.refl H, rfl, .nil, fun i a c h => by simp at h⟩, startR r (by omega), ?_⟩
    cases er : run n (startE N.length ws) [] with
    | no => rw [er] at hn; cases hn
    | ex z s' => rw [er] at hn; cases hn
    | ok q s' =>
      obtain ⟨o, ρ'⟩ := q
      rw [er] at hn
      have back : ∀ {G' : Hp} {α' : List Addr}, Ext H G [] G' α' → Ext H G [] G' [] := fun x => ⟨x.g, ⟨[], rfl⟩, x.b⟩
      cases o with
      | brk => cases hn
      | ct => cases hn
      | nx =>
        cases hn
        intro G' α' H' σ' x S' E'
        exact h .non H' G' S'.bh (back x) S'.gh (show Dp T.K G' _ _ from .non)
      | ex z =>
        cases hn
        intro G' α' H' cls dx σ' x S' E' rx
        exact h H' cls dx S'.bh (rx.wk (fun _ h => h) fun _ _ _ => List.not_mem_nil)
      | ret wv =>
        intro G' α' H' v x S' rv
        have hn : finP wv s' = some ro := hn
        cases wv with
        | h i =>
          simp only [finP] at hn
          cases ec : s'[i]? with
          | none => rw [ec] at hn; cases hn
          | some c =>
            rw [ec] at hn
            cases c with
            | lst l =>
              cases hn
              obtain ⟨a, vs', rfl, ha, hg, hb, hH, hd⟩ := cell_list S' ec rv
              exact h (.ref a) H' G' S'.bh (back x) S'.gh ⟨a, vs', rfl, hH, hg, hb, by simp, hd⟩
            | fzl l =>
              cases hn
              obtain ⟨a, ha, rfl⟩ := rv
              obtain ⟨vs', hG, hd⟩ := S'.cell i a _ ha ec
              exact h (.ref a) H' G' S'.bh (back x) S'.gh (show Dp T.K G' _ _ from .lst (SqL.of hG) hd)
            | _ => cases hn
        | d y => cases hn; exact h v H' G' S'.bh (back x) S'.gh rv
        | o c fs => cases hn; exact h v H' G' S'.bh (back x) S'.gh rv
        | dc y => cases hn; exact h v H' G' S'.bh (back x) S'.gh rv
/-! ### upon the store -/
theorem closedW_of {G : Hp} {α : List Addr} {w : W} {v : V} (h : RW T G α w v) : closedW α.length w = true := by
  cases w with
  | h i => obtain ⟨a, ha, _⟩ := h; exact decide_eq_true (List.getElem?_eq_some_iff.mp ha).1
  | _ => rfl
theorem closedFs_of {G : Hp} {α : List Addr} {c : Nat} : ∀ {fvs : List (Str × V)} {fs : List (Nat × W)}, FsW T c G α fvs fs → (fs.all fun p => closedW α.length p.2) = true
  | _, _, .nil => rfl
  | _, _, .cons ⟨_, _, h⟩ t => by rw [List.all_cons, closedW_of h, closedFs_of t]; rfl
theorem closedS_of {B G H : Hp} {α : List Addr} {s : List Cell} (S : StM T B G H α s) : closedS s.length s = true := by
  unfold closedS
  rw [List.all_eq_true]
  intro c hc
  obtain ⟨i, hi, e⟩ := List.getElem_of_mem hc
  obtain ⟨a, ha, h⟩ := S.at (show s[i]? = some c by rw [List.getElem?_eq_getElem hi, e])
  cases c with
  | ins c fs =>
    obtain ⟨_, _, C, dx, fvs, _, _, h⟩ := h
    have := closedFs_of h
    rw [S.len] at this
    exact this
  | _ => rfl
theorem RW.trim {G : Hp} {α : List Addr} {w : W} {v : V} {k : Nat} (h : RW T G α w v) (c : closedW k w = true) : RW T G (α.take k) w v := by
  cases w with
  | h i =>
    obtain ⟨a, ha, e⟩ := h
    exact ⟨a, by rw [List.getElem?_take_of_lt (of_decide_eq_true c)]; exact ha, e⟩
  | d y => exact h
  | o c fs => exact h
  | dc y => exact h
theorem FsW.trim {G : Hp} {α : List Addr} {c k : Nat} : ∀ {fvs : List (Str × V)} {fs : List (Nat × W)}, FsW T c G α fvs fs → (fs.all fun p => closedW k p.2) = true → FsW T c G (α.take k) fvs fs
  | _, _, .nil, _ => .nil
  | _, _, .cons ⟨a, b, h⟩ t, z => by
    rw [List.all_cons, Bool.and_eq_true] at z
    exact .cons ⟨a, b, RW.trim h z.1⟩ (FsW.trim t z.2)
theorem StM.trim {B G H : Hp} {α : List Addr} {s : List Cell} (S : StM T B G H α s) {k : Nat} (c : closedS k (s.take k) = true) : StM T B G H (α.take k) (s.take k) := by
  refine ⟨S.gh, S.bh, by simp [S.len], S.nd.sublist (List.take_sublist _ _), fun i a cc h1 h2 => ?_⟩
  have hi : i < k := by
    have := (List.getElem?_eq_some_iff.mp h1).1
    simp at this; omega
  rw [List.getElem?_take_of_lt hi] at h1 h2
  have hc := S.cell i a cc h1 h2
  have hm : closedC k cc = true := by
    unfold closedS at c
    rw [List.all_eq_true] at c
    exact c cc (List.mem_of_getElem? (by rw [List.getElem?_take_of_lt hi]; exact h2))
  cases cc with
  | ins c fs =>
    obtain ⟨g1, g2, C, dx, fvs, g3, g4, g5⟩ := hc
    exact ⟨g1, g2, C, dx, fvs, g3, g4, FsW.trim g5 hm⟩
  | lst l => exact hc
  | dct nd l => exact hc
  | lck nd l => exact hc
  | fzl l => exact hc
  | gone => exact hc
theorem Ext.trim {B G G' : Hp} {α α' : List Addr} {k : Nat} (x : Ext B G α G' α') (h : α.length ≤ k) : Ext B G α G' (α'.take k) := by
  obtain ⟨t, rfl⟩ := x.a
  exact ⟨x.g, ⟨t.take (k - α.length), by rw [List.take_append, List.take_of_length_le h]⟩, x.b⟩
theorem ok_M {x qual : Str} {st : Stmt} {f : Addr} {fd : FuncData} {N ps : List Str} {k ext : Nat} {g : List W → List Cell → R Rv} {run : Nat → Env → List Cell → RS} (F : Fun K x qual st f fd) (S : FnScope N ps (defScope st))
    (body : ∀ (n : Nat) (cdv : Value) (A : Around) (outer : List PySem.Env) (s : Shared) (H : Hp) (E : XK), Room k (A.deeper (envOfC qual (defScope st) s.heap.objs.size f cdv)) → PSs (cxD P w K mg base N qual st f cdv A outer s H E) (defBody st) (tS T (WD E) (run n)))
    (spec : ∀ ws s, ws.length = ps.length → closedS s.length s = true → g ws s ≠ .no → ∃ n, endM (s.length + ext) (run n (startE N.length ws) s) = g ws s) : FnOk P w K mg base (L2N.CX P w) (k + 1) f fd ps (spM T ps.length g) := by
  refine F.okN S (fun vs H Q E h => h.1) (fun cdv A outer s H vs Q E hr h => ?_)
  obtain ⟨hl, B, G, α, ws, st', S0, r, h⟩ := h
  have hw : ws.length = ps.length := by rw [← RWs.len r]; exact hl
  have hne : g ws st' ≠ .no := fun z => by rw [z] at h; exact h
  obtain ⟨n, hn⟩ := spec ws st' hw (closedS_of S0) hne
  have hpl : ps.length ≤ N.length := by have := congrArg List.length S.pre; rw [List.length_take] at this; omega
  refine ⟨_, body n cdv A outer s H E hr, B, G, α, startE N.length ws, st', S0, startR r (by omega), ?_⟩
  rw [← hn] at h hne
  have hk : α.length ≤ st'.length + ext := by rw [S0.len]; omega
  have base' : ∀ {G' H' : Hp} {α' : List Addr} {s' : List Cell}, Ext B G α G' α' → StM T B G' H' α' s' → (closedS (st'.length + ext) (s'.take (st'.length + ext)) && decide (st'.length + ext ≤ s'.length)) = true →
      Ext B G α G' (α'.take (st'.length + ext)) ∧ StM T B G' H' (α'.take (st'.length + ext)) (s'.take (st'.length + ext)) := fun x S' c => by
    rw [Bool.and_eq_true] at c
    exact ⟨x.trim hk, S'.trim c.1⟩
  cases er : run n (startE N.length ws) st' with
  | no => rw [er] at hne; exact absurd rfl hne
  | ex z s' => rw [er] at hne; exact absurd rfl hne
  | ok q s' =>
    obtain ⟨o, ρ'⟩ := q
    rw [er] at h hne
    cases o with
    | brk => exact absurd rfl hne
    | ct => exact absurd rfl hne
    | ex z =>
      simp only [endM] at h hne
      by_cases hc : (closedS (st'.length + ext) (s'.take (st'.length + ext)) && decide (st'.length + ext ≤ s'.length)) = true
      · rw [if_pos hc] at h
        intro G' α' H' cls dx σ' x S' E' rx
        obtain ⟨x2, S2⟩ := base' x S' hc
        exact h G' _ H' cls dx x2 S2 (rx.wk (fun _ h => h) fun _ _ h hm => h (List.mem_of_mem_take hm))
      · rw [if_neg hc] at hne
        exact absurd rfl hne
    | nx =>
      simp only [endM, finM] at h hne
      by_cases hc : (closedS (st'.length + ext) (s'.take (st'.length + ext)) && decide (st'.length + ext ≤ s'.length)) = true
      · rw [if_pos hc] at h
        intro G' α' H' σ' x S' E'
        obtain ⟨x2, S2⟩ := base' x S' hc
        exact h G' _ H' .non x2 S2 (show Dp T.K G' _ _ from .non)
      · rw [if_neg hc] at hne
        exact absurd rfl hne
    | ret wv =>
      simp only [endM, finM] at h hne
      by_cases hc : (closedS (st'.length + ext) (s'.take (st'.length + ext)) && decide (st'.length + ext ≤ s'.length)) = true
      · rw [if_pos hc] at h hne
        intro G' α' H' v x S' rv
        obtain ⟨x2, S2⟩ := base' x S' hc
        cases wv with
        | h i =>
          simp only at h hne
          by_cases hi : i < st'.length + ext
          · rw [if_pos hi] at h
            exact h G' _ H' v x2 S2 (show RW T G' _ (.h i) v from RW.trim rv (decide_eq_true hi))
          · rw [if_neg hi] at h hne
            cases ec : s'[i]? with
            | none => rw [ec] at hne; exact absurd rfl hne
            | some c =>
              rw [ec] at h hne
              cases c with
              | lst l =>
                obtain ⟨a, vs', rfl, ha, hg, hb, hH, hd⟩ := cell_list S' ec rv
                refine h G' _ H' _ x2 S2 ⟨a, vs', rfl, hH, hg, hb, fun hm => ?_, hd⟩
                obtain ⟨j, hj, ej⟩ := List.getElem_of_mem hm
                have hj' : j < st'.length + ext := by simp at hj; omega
                have e1 : α'[j]? = some a := by rw [← List.getElem?_take_of_lt hj', List.getElem?_eq_getElem hj, ej]
                obtain ⟨l1, q1⟩ := List.getElem?_eq_some_iff.mp e1
                obtain ⟨l2, q2⟩ := List.getElem?_eq_some_iff.mp ha
                have := (List.getElem_inj S'.nd).mp (q1.trans q2.symm)
                omega
              | fzl l =>
                obtain ⟨a, ha, rfl⟩ := rv
                obtain ⟨vs', hG, hd⟩ := S'.cell i a _ ha ec
                exact h G' _ H' _ x2 S2 (show Dp T.K G' _ _ from .lst (SqL.of hG) hd)
              | dct _ _ => exact absurd rfl hne
              | lck _ _ => exact absurd rfl hne
              | ins _ _ => exact absurd rfl hne
              | gone => exact absurd rfl hne
        | d y => exact h G' _ H' v x2 S2 rv
        | o c fs => exact h G' _ H' v x2 S2 rv
        | dc y => exact h G' _ H' v x2 S2 rv
      · rw [if_neg hc] at hne
        exact absurd rfl hne
/-! ### an __init__ whose instance is frozen -/
theorem fldsD_ok {B G H : Hp} {α : List Addr} {s : List Cell} {c : Nat} (S : StM T B G H α s) : ∀ {fs : List (Nat × W)} {fds : List (Nat × PyData)} {fvs : List (Str × V)}, fldsD s fs = some fds → FsW T c G α fvs fs →
    ∃ Gv, Same G Gv ∧ Same Gv H ∧ (∀ b, G b = none → Gv b ≠ none → B b = none ∧ ∃ vs, H b = some (.lst vs)) ∧ FsD T c Gv fvs fds
  | [], fds, fvs, h, r => by cases h; cases r; exact ⟨G, Same.refl G, S.gh, fun b h1 h2 => absurd h1 h2, .nil⟩
  | (f, w) :: fs, fds, fvs, h, r => by
    simp only [fldsD] at h
    cases r with
    | @cons p _ fvs _ r1 r2 =>
      cases e1 : see s w with
      | none => rw [e1] at h; cases h
      | some x =>
        cases e2 : fldsD s fs with
        | none => rw [e1, e2] at h; cases h
        | some l =>
          rw [e1, e2] at h
          cases h
          obtain ⟨Gv, g1, g2, g3, g4⟩ := fldsD_ok S e2 r2
          obtain ⟨q1, q2, q3⟩ := r1
          cases w with
          | d y => cases e1; exact ⟨Gv, g1, g2, g3, .cons ⟨q1, q2, Dp.mono g1 _ _ q3⟩ g4⟩
          | o _ _ => cases e1
          | dc _ => cases e1
          | h i =>
            simp only [see] at e1
            obtain ⟨a, ha, hp⟩ := q3
            cases e3 : s[i]? with
            | none => rw [e3] at e1; cases e1
            | some cc =>
              rw [e3] at e1
              have hc := S.cell i a cc ha e3
              cases cc with
              | lst m =>
                cases e1
                obtain ⟨hg, hb, vs, hH, hd⟩ := hc
                by_cases hga : Gv a = none
                · refine ⟨upd Gv a (.lst vs), g1.trans (Same.upd hga), fun b u e => ?_, fun b h1 h2 => ?_, .cons ⟨q1, q2, by rw [hp]; exact .lst (SqL.of upd_same) (DpAll.mono (g1.trans (Same.upd hga)) _ _ hd)⟩ (FsD.mono (Same.upd hga) g4)⟩
                  · by_cases hb : b = a
                    · subst hb; rw [upd_same] at e; cases e; exact hH
                    · rw [upd_ne hb] at e; exact g2 b u e
                  · by_cases hb' : b = a
                    · subst hb'; exact ⟨hb, vs, hH⟩
                    · rw [upd_ne hb'] at h2; exact g3 b h1 h2
                · obtain ⟨o, ho⟩ := Option.ne_none_iff_exists'.mp hga
                  have := g2 _ _ ho
                  rw [hH] at this
                  cases this
                  exact ⟨Gv, g1, g2, g3, .cons ⟨q1, q2, by rw [hp]; exact .lst (SqL.of ho) (DpAll.mono g1 _ _ hd)⟩ g4⟩
              | fzl m =>
                cases e1
                obtain ⟨vs, hG, hd⟩ := hc
                exact ⟨Gv, g1, g2, g3, .cons ⟨q1, q2, by rw [hp]; exact .lst (SqL.of (g1 _ _ hG)) (DpAll.mono g1 _ _ hd)⟩ g4⟩
              | dct _ _ => cases e1
              | lck _ _ => cases e1
              | ins _ _ => cases e1
              | gone => cases e1
theorem ok_I {x qual : Str} {st : Stmt} {f : Addr} {fd : FuncData} {N ps : List Str} {k c n : Nat} {g : List W → Option (Except Xc (List (Nat × PyData)))} {run : Nat → Env → List Cell → RS} (F : Fun K x qual st f fd) (S : FnScope N ps (defScope st)) (hps : ps.length = n + 1)
    (body : ∀ (n : Nat) (cdv : Value) (A : Around) (outer : List PySem.Env) (s : Shared) (H : Hp) (E : XK), Room k (A.deeper (envOfC qual (defScope st) s.heap.objs.size f cdv)) → PSs (cxD P w K mg base N qual st f cdv A outer s H E) (defBody st) (tS T (WD E) (run n)))
    (spec : ∀ ws r, ws.length = n → g ws = some r → ∃ m, endI c (run m (startE N.length (.h 0 :: ws)) [.ins c []]) = some r) : FnOk P w K mg base (L2N.CX P w) (k + 1) f fd ps (spI T c n g) := by
  refine F.okN S (fun vs H Q E ⟨G, ws, y, dx, C, us, h1, h2, _⟩ => by rw [h1, hps]; simp [h2]) (fun cdv A outer s H vs Q E hr h => ?_)
  obtain ⟨G, ws, y, dx, C, us, rfl, hl, hC, hy, hgy, gh, r, h⟩ := h
  cases eg : g ws with
  | none => rw [eg] at h; exact h.elim
  | some ro =>
    rw [eg] at h
    have hw : ws.length = n := by rw [← RWs.len r]; exact hl
    obtain ⟨m, hn⟩ := spec ws ro hw eg
    have hpl : ps.length ≤ N.length := by have := congrArg List.length S.pre; rw [List.length_take] at this; omega
    have hbut : Same (Hbut H y) H := fun b o e => by
      by_cases hb : b = y
      · subst hb
        have : Hbut H b b = none := by unfold Hbut; rw [if_pos rfl]
        rw [this] at e; cases e
      · rw [Hbut_ne hb] at e; exact e
    have hby : Hbut H y y = none := by unfold Hbut; rw [if_pos rfl]
    have S0 : StM T (Hbut H y) G H [y] [.ins c []] := ⟨gh, hbut, rfl, by simp, fun i a cc h1 h2 => by
      cases i with
      | zero =>
        simp at h1 h2
        subst h1; subst h2
        exact ⟨hgy, hby, C, dx, [], hy, hC, .nil⟩
      | succ i => simp at h1⟩
    refine ⟨_, body m cdv A outer s H E hr, Hbut H y, G, [y], startE N.length (.h 0 :: ws), [.ins c []], S0, startR (ws := .h 0 :: ws) (.cons ⟨y, rfl, rfl⟩ (RWs.mono (Same.refl G) ⟨[y], rfl⟩ r)) (by simp; omega), ?_⟩
    cases er : run m (startE N.length (.h 0 :: ws)) [.ins c []] with
    | no => rw [er] at hn; cases hn
    | ex z s' => rw [er] at hn; cases hn
    | ok q s' =>
      obtain ⟨o, ρ'⟩ := q
      rw [er] at hn
      cases o with
      | brk => cases hn
      | ct => cases hn
      | ret _ => cases hn
      | ex z =>
        cases hn
        intro G' α' H' cls d σ' x S' E' rx
        exact h H' cls d S'.bh (rx.wk (fun _ h => h) fun _ _ _ => List.not_mem_nil)
      | nx =>
        intro G' α' H' σ' x S' E'
        simp only [endI] at hn
        cases e0 : s'[0]? with
        | none => rw [e0] at hn; cases hn
        | some cc =>
          rw [e0] at hn
          cases cc with
          | ins c' fs =>
            simp only at hn
            by_cases hcc : c' = c
            · subst hcc
              rw [if_pos rfl] at hn
              cases ef : fldsD s' fs with
              | none => rw [ef] at hn; cases hn
              | some fds =>
                rw [ef] at hn
                cases hn
                have ha0 : α'[0]? = some y := by
                  obtain ⟨t, rfl⟩ := x.a
                  simp
                obtain ⟨hg0, hb0, C', dx', fvs, hH, hC', hF⟩ := S'.cell 0 y _ ha0 e0
                rw [hC] at hC'
                cases hC'
                obtain ⟨Gv, g1, g2, g3, g4⟩ := fldsD_ok S' ef hF
                refine h H' Gv fvs dx' S'.bh ⟨x.g.trans g1, ⟨[], rfl⟩, fun b h1 h2 => ?_⟩ g2 hH g4
                -- no new knowledge where H stood
                have hG'b : G' b = none := by
                  by_cases hb : b = y
                  · subst hb; exact hg0
                  · exact x.b b (by rw [Hbut_ne hb]; exact h1) h2
                cases q : Gv b with
                | none => rfl
                | some u =>
                  obtain ⟨hbb, vs', hv⟩ := g3 b hG'b (by rw [q]; exact fun z => by cases z)
                  by_cases hb : b = y
                  · subst hb; rw [hH] at hv; cases hv
                  · rw [Hbut_ne hb] at hbb; exact absurd hbb h1
            · rw [if_neg hcc] at hn; cases hn
          | _ => cases hn
end
end DM

set_option maxRecDepth 100000
/-! DM10: a def's text as a text of the machine; it computes what the text does. -/
namespace DM
open PySem PySem.Spec PyProof.Rows L2

/-- what a text is read against: the slots, the scope, the names -/
structure CC where
  N : List Str
  sc : Scope
  own : Str → Bool
  fns : List Str
  cls : List Str
  mns : List Str
  fls : List Str
  blt : List Str
  gl : List (Str × PyData)
  mu : List Str
  lsts : List Str
  dcts : List Str
  retF : Bool

def ixOf (x : Str) : List Str → Option Nat
  | [] => none
  | y :: r => if x = y then some 0 else (ixOf x r).map (· + 1)
theorem ixOf_some {x : Str} : ∀ {l : List Str} {i : Nat}, ixOf x l = some i → l[i]? = some x
  | [], _, h => by cases h
  | y :: r, i, h => by
    unfold ixOf at h
    by_cases e : x = y
    · rw [if_pos e] at h; cases h; simp [e]
    · rw [if_neg e] at h
      cases q : ixOf x r with
      | none => rw [q] at h; cases h
      | some j => rw [q] at h; cases h; simpa using ixOf_some q
def isVis (sc : Scope) (x : Str) : Bool := match sc.names.lookup x with
  | some .local => true
  | some .cell => true
  | some .free => true
  | _ => false
theorem isVis_ok {sc : Scope} {x : Str} (h : isVis sc x = true) : Vis sc x := by
  unfold isVis at h
  unfold Vis
  split at h <;> simp_all
def isLoc (sc : Scope) (x : Str) : Bool := match sc.names.lookup x with
  | some .local => true
  | some .cell => true
  | _ => false
theorem isLoc_ok {sc : Scope} {x : Str} (h : isLoc sc x = true) : L2.Loc sc x := by
  unfold isLoc at h
  unfold L2.Loc
  split at h <;> simp_all
def isG (sc : Scope) (x : Str) : Bool := match sc.names.lookup x with
  | some .globalImplicit => !(x == ("__debug__" : Str))
  | _ => false
theorem isG_ok {sc : Scope} {x : Str} (h : isG sc x = true) : sc.names.lookup x = some .globalImplicit ∧ (x == ("__debug__" : Str)) = false := by
  unfold isG at h
  split at h
  · rename_i e; exact ⟨e, by simpa using h⟩
  · cases h
/-! ### forms -/
def isStar : Expr → Bool
  | .Starred .. => true
  | _ => false
theorem star_cons {e : Expr} {es : List Expr} {env : PySem.Env} (h : isStar e = false) : starEach (e :: es) env = (false, eval e env) :: starEach es env := by
  cases e <;> first | rfl | cases h
def noStar (es : List Expr) : Bool := es.all fun e => !isStar e
theorem noStar_cons {e : Expr} {es : List Expr} (h : noStar (e :: es) = true) : isStar e = false ∧ noStar es = true := by
  unfold noStar at h ⊢
  rw [List.all_cons, Bool.and_eq_true] at h
  exact ⟨by simpa using h.1, h.2⟩
theorem star_any {env : PySem.Env} : ∀ {es : List Expr}, noStar es = true → (starEach es env).any (·.1) = false
  | [], _ => rfl
  | e :: es, h => by
    obtain ⟨h1, h2⟩ := noStar_cons h
    rw [star_cons h1, List.any_cons, star_any h2]
    rfl
theorem back_any {env : PySem.Env} {pos : Pos} {es : List Expr} (h : noStar es = true) : (backTo pos (starEach es env)).any (·.1) = false := by
  unfold backTo
  rw [List.any_map]
  exact star_any h
theorem starOk {X : Cx} {pos : Pos} {es : List Expr} (h : noStar es = true) : StarOk X pos es := fun e es' e' => by
  subst e'
  obtain ⟨h1, h2⟩ := noStar_cons h
  exact ⟨star_cons h1, back_any h2⟩
def supC : Expr → Bool
  | .Call (.Name _ _) [] [] _ => true
  | _ => false
theorem base_ok {o : Expr} {a : Str} {env : PySem.Env} (h : supC o = false) : attributeBase o a env (eval o env) = eval o env := by
  cases o <;> try rfl
  rename_i f args kws p
  cases f <;> try rfl
  cases args <;> try rfl
  cases kws <;> try rfl
  cases h
def isSlice : Expr → Bool
  | .Slice .. => true
  | _ => false
theorem plainIx {b : Expr} (h : isSlice b = false) : PlainIx b := by
  intro o i
  cases b <;> first | rfl | cases h
def isSet : Expr → Bool
  | .Set .. => true
  | _ => false
theorem behind_ok {op : CmpOp} {b : Expr} (h : isSet b = false) : behindInMarks op b = false := by
  cases b <;> first | rfl | cases h
theorem folded_ok {e : Expr} {env : PySem.Env} (h : isSet e = false) : ∀ x, foldedSetIterable e env x = pure x := by
  intro x
  cases e <;> first | rfl | cases h
theorem meth_form {X : Cx} {o : Expr} {m : Str} {apos pos : Pos} {es : List Expr} (h1 : supC o = false) (h2 : noStar es = true) (h3 : es.length < 30) (h4 : (apos.endLine == pos.line) = true) : MethOk X o m apos pos es := by
  refine ⟨(do return (← importBound o X.env).getD true), ?_⟩
  have hf : methodCallForm (es.length + ([] : List Keyword).length) (backTo pos (starEach es X.env)) (backToKw pos (keywordEach [] X.env)) = true := by
    unfold methodCallForm
    have : ((backTo pos (starEach es X.env)).all fun x => !x.1) = true := by
      have q := back_any (env := X.env) (pos := pos) h2
      rw [List.any_eq_false] at q
      rw [List.all_eq_true]
      intro x hx
      have := q x hx
      simpa using this
    rw [this]
    simp [backToKw, keywordEach]
    omega
  have e0 : eval (.Call (.Attribute o m apos) es [] pos) X.env = (do
    let ov ← attributeBase o m X.env (eval o X.env)
    standAt apos.atName
    methodCall o m apos pos X.env ov (es.length + ([] : List Keyword).length) (backTo pos (starEach es X.env)) (backToKw pos (keywordEach [] X.env))) := by rfl
  rw [e0, base_ok h1]
  congr 1
  funext ov
  congr 1
  funext _
  unfold methodCall calleeOf methodCallPos
  rw [hf, h4]
  rfl
def isIte : Expr → Bool
  | .IfExp .. => true
  | _ => false

/-! ### operators -/
def opK : Operator → Option BinK
  | .Add => some .add
  | .Sub => some .sub
  | .Mult => some .mul
  | .FloorDiv => some .fdiv
  | .Mod => some .mod
  | .Pow => some .pow
  | _ => none
theorem opK_ok {o : Operator} {k : BinK} (h : opK o = some k) : o = opOf k := by cases o <;> first | (cases h; rfl) | cases h
def cmpKk : CmpOp → Option CmpK
  | .Eq => some .eq
  | .NotEq => some .ne
  | .Lt => some .lt
  | .LtE => some .le
  | .Gt => some .gt
  | .GtE => some .ge
  | .Is => some .isN
  | .IsNot => some .notN
  | .In => some .in_
  | .NotIn => some .notIn
theorem cmpKk_ok {o : CmpOp} {k : CmpK} (h : cmpKk o = some k) : o = cmpOf k := by cases o <;> (cases h; rfl)

/-! ### expressions -/
/-- a dict's form -/
def isDx (c : CC) : Expr → Bool
  | .Name x _ => c.dcts.contains x
  | .Attribute _ f _ => c.dcts.contains f
  | _ => false
/-- fields that hold a dict whose keys are pairs -/
def isNd (f : Str) : Bool := decide (f = "bad") || decide (f = "known")
def isEmptyD : Expr → Bool
  | .Dict [] [] _ => true
  | _ => false
/-- a class of the program -/
def clsE (c : CC) : Expr → Option Nat
  | .Name x _ => if isG c.sc x then ixOf x c.cls else none
  | _ => none
def isLx (c : CC) : Nat → Expr → Bool
  | n + 1, .BinOp a .Add b _ => isLx c n a || isLx c n b
  | n + 1, .BinOp a .Mult _ _ => isLx c n a
  | n + 1, .Subscript a (.Slice ..) _ => isLx c n a
  | _, .List .. => true
  | _, .ListComp .. => true
  | _, .Name x _ => c.lsts.contains x
  | _, .Attribute _ f _ => c.lsts.contains f
  | _, .Call (.Name x _) _ _ _ => decide (x = "list")
  | _, _ => false
/-- a fresh list's form -/
def isFx (c : CC) (e : Expr) : Bool := match e with
  | .List .. => true
  | .ListComp .. => true
  | .Call .. => true
  | .BinOp .. => isLx c 9 e
  | .Subscript a (.Slice ..) _ => isLx c 9 a
  | _ => false
def esOf (g : Expr → E) : List Expr → Es
  | [] => .nil
  | e :: es => .cons (g e) (esOf g es)
/-- an argument: a name whose list is kept from then on -/
def argE (c : CC) (g : Expr → E) (e : Expr) : E := match e with
  | .Name x _ => if c.lsts.contains x && c.mu.contains x then .frz (g e) else g e
  | _ => g e
def nt (g : Expr → E) (e : Expr) : E := if isIte e then .no else g e
def andE (g : Expr → E) : List Expr → E
  | [] => .no
  | [a] => nt g a
  | a :: b :: r => .and (nt g a) (andE g (b :: r))
def orE (g : Expr → E) : List Expr → E
  | [] => .no
  | [a] => nt g a
  | a :: b :: r => .or (nt g a) (orE g (b :: r))
def parE (g : Expr → E) : Option Expr → Oe
  | none => .none
  | some e => .some (g e)
def tyK (x : Str) : Option TyK := if x = "str" then some .str else if x = "int" then some .int else if x = "bool" then some .bool else if x = "tuple" then some .tuple else if x = "list" then some .list else if x = "dict" then some .dict else none
theorem tyK_ok {x : Str} {t : TyK} (h : tyK x = some t) : x = Str.ofString (tyS t) := by
  unfold tyK at h
  repeat' split at h
  all_goals first | (cases h; subst_vars; rfl) | cases h
/-- a call by name -/
def callE (c : CC) (g : Expr → E) (h : Expr → F) (x : Str) (args : List Expr) (whole : Expr) : E :=
  if isG c.sc x && noStar args then match ixOf x c.fns with
    | some i => .call i (esOf (argE c g) args)
    | none => match ixOf x c.cls with
      | some i => (match args with | [] => .no | _ :: _ => .mk i (esOf (argE c g) args))
      | none => if c.blt.contains x then (match args with
          | [] => .no
          | [a] => if x = "len" then .bi .len (esOf g args) else if x = "int" then .bi .int (esOf g args) else if x = "tuple" then .tupOf (g a) else if x = "list" then .fr (h whole) else if x = "sum" then .bi .sum (esOf g args) else if x = "max" then .bi .maxl (esOf g args) else if x = "dict" then (if isDx c a then .dcopy (g a) else .no) else .no
          | [a, b] => if x = "max" then .bi .max2 (esOf g args) else if x = "min" then .bi .min2 (esOf g args) else if x = "isinstance" then (match b with
              | .Name y _ => (match tyK y with | some t => if isG c.sc y && c.blt.contains y then .isi t (g a) else .no | none => .no)
              | _ => .no) else .no
          | _ => .no) else .no
  else .no
/-- a method's call -/
def methE (c : CC) (g : Expr → E) (o : Expr) (m : Str) (apos pos : Pos) (args : List Expr) : E :=
  if noStar args && !supC o && decide (args.length < 30) && (apos.endLine == pos.line) then match clsE c o with
    | some i => (match args with
      | [] => .no
      | _ :: _ => (match ixOf m c.mns with | some j => .cls i j (esOf g args) | none => .no))
    | none =>
    if m = "append" then (match args with | [b] => .app (g o) (g b) | _ => .no)
    else if m = "pop" then (match args with | [] => .pop (g o) | _ => .no)
    else if m = "get" then (match args with | [b, z] => if isDx c o then .dgetD (g o) (g b) (g z) else .no | _ => .no)
    else if m = "clear" then (match args with | [] => .clr (g o) | _ => .no)
    else match ixOf m c.mns with
      | some i => .meth (g o) i (esOf g args)
      | none => .no
  else .no
def binE (c : CC) (g : Expr → E) (h : Expr → F) (a : Expr) (op : Operator) (b : Expr) (whole : Expr) : E :=
  match opK op with
    | some .mul => if isLx c 9 a then .fr (h whole) else .bin .mul (g a) (g b)
    | some k => .bin k (g a) (g b)
    | none => .no
def cmpE (c : CC) (g : Expr → E) (a : Expr) (ops : List CmpOp) (es : List Expr) : E := match ops, es with
  | [o], [b] => if isDx c b then (match o with | .In => .din false (g a) (g b) | .NotIn => .din true (g a) (g b) | _ => .no) else (match cmpKk o with | some k => if isSet b then .no else .cmp k (g a) (g b) | none => .no)
  | [o, o'], [b, d] => (match cmpKk o, cmpKk o' with | some k, some k' => if isSet d then .no else .chain k k' (g a) (g b) (g d) | _, _ => .no)
  | _, _ => .no
def constE : Const → E
  | .none => .cst .none
  | .bool b => .cst (.bool b)
  | .int i => .cst (.int i)
  | .str x => .cst (.str x)
  | _ => .no
def nameE (c : CC) (x : Str) : E :=
  if isVis c.sc x then (if (x == ("__debug__" : Str)) || (x == ("__classdict__" : Str)) then .no else match ixOf x c.N with | some i => .var i | none => .no)
  else if isG c.sc x then (match c.gl.lookup x with | some d => .cst d | none => .no) else .no
def subE (c : CC) (g : Expr → E) (a b : Expr) : E := match b with
  | .Slice lo hi none _ => .slc (g a) (parE g lo) (parE g hi)
  | .Slice .. => .no
  | b => if isDx c a then .dget (g a) (g b) else .idx (g a) (g b)
def compE0 (g : CC → Expr → E) (h : CC → Expr → F) (c : CC) (e : Expr) : E := match e with
  | .Name x _ => nameE c x
  | .Constant v _ _ => constE v
  | .BinOp a op b _ => binE c (g c) (h c) a op b e
  | .UnaryOp .Not a _ => .not (nt (g c) a)
  | .UnaryOp .USub a _ => .neg (g c a)
  | .BoolOp .And es _ => andE (g c) es
  | .BoolOp .Or es _ => orE (g c) es
  | .IfExp t a b _ => .ite (nt (g c) t) (g c a) (g c b)
  | .Compare a ops es _ => cmpE c (g c) a ops es
  | .Call (.Name x _) args [] _ => callE c (g c) (h c) x args e
  | .Call (.Attribute o m apos) args [] pos => methE c (g c) o m apos pos args
  | .Attribute o f _ => if supC o then .no else match ixOf f c.fls with | some i => .fld (g c o) i | none => .no
  | .Subscript a b _ => subE c (g c) a b
  | .Tuple es _ _ => if noStar es then .tup (esOf (g c) es) else .no
  | .Dict [] [] _ => .dnew false
  | .Dict [some a] [b] _ => .dlit (g c a) (g c b)
  | .List _ _ => .fr (h c e)
  | .ListComp _ _ _ _ => .fr (h c e)
  | _ => .no
/-! ### iterables, targets, comprehensions -/
def iterE (c : CC) (g : Expr → E) (e : Expr) : It := match e with
  | .Call (.Name x _) [a] [] _ => if decide (x = "range") && isG c.sc x && c.blt.contains x && !isStar a then .rng1 (g a) else .seq (g e)
  | .Call (.Name x _) [a, b] [] _ => if decide (x = "range") && isG c.sc x && c.blt.contains x && !isStar a && !isStar b then .rng2 (g a) (g b) else .seq (g e)
  | .Call (.Name x _) [a, b, d] [] _ => if decide (x = "range") && isG c.sc x && c.blt.contains x && noStar [a, b, d] then .rng3 (g a) (g b) (g d) else .seq (g e)
  | e => .seq (g e)
def tgN (c : CC) (x : Str) : Option Nat := if isLoc c.sc x && (c.own x || decide (c.sc.names.lookup x = some .local)) then ixOf x c.N else none
def tgNs (c : CC) : List Expr → Option (List Nat)
  | [] => some []
  | .Name x _ :: r => match tgN c x, tgNs c r with
    | some i, some is => some (i :: is)
    | _, _ => none
  | _ => none
def tgOf (c : CC) (e : Expr) : Option Tg := match e with
  | .Name x _ => (tgN c x).map .n
  | .Tuple es _ _ => (tgNs c es).map .t
  | _ => none
def ownOf (N : List Str) (scope : Scope) : List (Str × Nat) := scope.names.filterMap fun y => match y.2 with
  | .local => (ixOf y.1 N).map fun i => (y.1, i)
  | .cell => (ixOf y.1 N).map fun i => (y.1, i)
  | _ => none
def blkCC (c : CC) (scope : Scope) : CC := { c with sc := relS scope c.sc, own := fun x => scope.names.lookup x == some .cell }
def fno : F := .list .no
def ifsE (g : Expr → E) : List Expr → Oe
  | [] => .none
  | [t] => .some (nt g t)
  | _ => .some .no
def compC (g : CC → Expr → E) (c : CC) (elt tg iter : Expr) (ifs : List Expr) (scope : Scope) : F := match tgOf (blkCC c scope) tg with
  | some t => if blkC c.N c.sc scope (ownOf c.N scope) && !isSet iter && ((tgSlots t).all fun i => decide (i ∈ (ownOf c.N scope).map (·.2))) then
      if isDx c iter then .compD (g c iter) t ((ownOf c.N scope).map (·.2)) (ifsE (g (blkCC c scope)) ifs) (g (blkCC c scope) elt) else
      .comp (iterE c (g c) iter) t ((ownOf c.N scope).map (·.2)) (ifsE (g (blkCC c scope)) ifs) (g (blkCC c scope) elt)
    else fno
  | none => fno
/-- list(e) -/
def lstF (c : CC) (g : Expr → E) (a : Expr) : F := match a with
  | .Call (.Name y p) [b] [] q => if decide (y = "range") && isG c.sc y && c.blt.contains y && !isStar b then .lrng (g b) else .list (g (.Call (.Name y p) [b] [] q))
  | a => .list (g a)
def compF0 (g : CC → Expr → E) (h : CC → Expr → F) (c : CC) (e : Expr) : F := match e with
  | .List es _ => if noStar es then .lst (esOf (g c) es) else fno
  | .ListComp elt [⟨tg, iter, ifs, 0⟩] scope _ => compC g c elt tg iter ifs scope
  | .Call (.Name x _) args [] _ => if isG c.sc x && noStar args then (match ixOf x c.fns with
    | some i => .call i (esOf (argE c (g c)) args)
    | none => (match args with | [a] => if decide (x = "list") && c.blt.contains x then lstF c (g c) a else fno | _ => fno)) else fno
  | .Call (.Attribute o m apos) args [] pos => if noStar args && !supC o && decide (args.length < 30) && (apos.endLine == pos.line) then (match ixOf m c.mns with
    | some i => .meth (g c o) i (esOf (g c) args)
    | none => fno) else fno
  | .Subscript a (.Slice lo hi none _) _ => .sll (g c a) (parE (g c) lo) (parE (g c) hi)
  | .BinOp a .Add b _ => .add (g c a) (g c b)
  | .BinOp a .Mult b _ => .mul (h c a) (g c b)
  | _ => fno
/-! ### what stands in a handler -/
def hot1 (c : CC) : Expr → E
  | .Name x _ => nameE c x
  | .Constant v _ _ => constE v
  | .List [] _ => .fr (.lst .nil)
  | _ => .no
def hotE (c : CC) : Expr → E
  | .Compare a [o] [b] _ => (match cmpKk o with | some k => if isSet b then .no else .cmp k (hot1 c a) (hot1 c b) | none => .no)
  | e => hot1 c e
/-! with the exception's name n -/
def hAnd (g : Expr → HE) : List Expr → HE
  | [] => .no
  | [a] => g a
  | a :: b :: r => .and (g a) (hAnd g (b :: r))
def hOr (g : Expr → HE) : List Expr → HE
  | [] => .no
  | [a] => g a
  | a :: b :: r => .or (g a) (hOr g (b :: r))
def hCall (c : CC) (n g : Str) : List Expr → HE
  | [.Name y _, w] => if decide (y = n) && isG c.sc g && !isStar w then (match ixOf g c.fns with | some i => .is i (hot1 c w) | none => .no) else .no
  | [.Attribute (.Name y _) f _] => if decide (y = n) && isG c.sc g then (match ixOf g c.fns, ixOf f c.fls with | some i, some j => .whole i j | _, _ => .no) else .no
  | [.Attribute (.Name y _) f _, .Name t _] => if decide (y = n) && decide (g = "isinstance") && decide (t = "str") && isG c.sc g && isG c.sc t && c.blt.contains g && c.blt.contains t then (match ixOf f c.fls with | some j => .isStr j | none => .no) else .no
  | _ => .no
def hCmp (c : CC) (n : Str) (a : Expr) (o : CmpOp) (b : Expr) (e : Expr) : HE := match a with
  | .Attribute (.Name y _) f _ => if decide (y = n) then (match cmpKk o, ixOf f c.fls with | some k, some j => if isSet b then .no else .cmpF k j (hot1 c b) | _, _ => .no) else .p (hotE c e)
  | _ => .p (hotE c e)
def hanE (c : CC) (n : Str) : Nat → Expr → HE
  | 0, _ => .no
  | m + 1, e => match e with
    | .BoolOp .And es _ => hAnd (hanE c n m) es
    | .BoolOp .Or es _ => hOr (hanE c n m) es
    | .Call (.Name g _) args [] _ => hCall c n g args
    | .Compare a [o] [b] _ => hCmp c n a o b e
    | e => .p (hotE c e)
def comp : Nat → (CC → Expr → E) × (CC → Expr → F)
  | 0 => (fun _ _ => .no, fun _ _ => fno)
  | n + 1 => (compE0 (comp n).1 (comp n).2, compF0 (comp n).1 (comp n).2)
end DM

set_option maxRecDepth 100000
set_option maxHeartbeats 2000000
/-! HT6: exceptions of the program that have an __init__ of their own. -/
namespace DH
open PySem PySem.Spec PyProof.Rows L2 L2H HotX DM
section
variable {X : Cx} {e : Expr} {es : List Expr} {ta : TA} {p1 p2 pos : Pos}
/-- C.__init__(self, ..), C's __init__ ValueError's -/
theorem pe_teinit {x : Str} {C0 : Addr} {mc : Value} {pl : Sem Bool} (hg : Gl X x) (hm : X.mg x = some (.ref C0)) (hdb : (x == ("__debug__" : Str)) = false) (r : ClX.CRead X.K C0 mc) (fc : PySem.W.findCls X.K (.ref C0) mc "__init__" = some (.val (.builtin "ValueError.__init__"))) (ha : PA X (e :: es) ta)
    (hc : eval (.Call (.Attribute (.Name x p1) "__init__" p2) (e :: es) [] pos) X.env = (do
      let ov ← eval (.Name x p1) X.env
      standAt p2.atName
      let (f, first) ← holding [ov] (getMethod ov "__init__" pl)
      callWith pos f first (backTo pos (starEach (e :: es) X.env)) (backToKw pos (keywordEach [] X.env))) := by rfl)
    (he : starEach (e :: es) X.env = (false, eval e X.env) :: starEach es X.env := by rfl) (hpl : (backTo pos (starEach es X.env)).any (·.1) = false := by rfl) :
    PE X (.Call (.Attribute (.Name x p1) "__init__" p2) (e :: es) [] pos) (tVeI X.K ta) := by
  refine ⟨fun pins s σ H Q I h => ?_⟩
  refine PySem.W.methodCall_KW (pl := pl) (ld_glob I hg hm ?_ hdb) hc
  refine PySem.W.method_cls I.kIn r.ga (PySem.W.cls_value I.kIn r.rd fc (by decide +kernel) ?_)
  have I1 := I.tok (s.toks + 1)
  show wpAny _ _ (callWith pos (Value.builtin "ValueError.__init__") [] (backTo pos (starEach (e :: es) X.env)) []) _ _ _
  refine PyProof.Rows.callWith_method1 (thn (ha.run pos pins _ σ H _ I1 h) fun us s2 ⟨vs, H1, I2, r1, a, C, ws, ev, hl, T, ea, q⟩ => ?_) he hpl
  subst ev
  cases r1 with
  | @cons _ u0 _ ur ra rw' =>
    obtain rfl : u0 = Value.ref a := ra
    have hlen : ur.length ≤ sizeLine := by
      rw [← Paired.length rw', sizeLine_eq]
      omega
    exact oinit_ok T I2 ea hlen fun s' J => ⟨.non, H1, J, rfl, q⟩
/-- C(e, ..) that is to be raised -/
theorem pmk_oexN {CX : CXT} {x : Str} {C fI : Addr} {k : Nat} {fd : FuncData} {ps : List Str} {sp : Sp} (T : OexC X.K C) (iC : PySem.W.findIn X.K (.ref C) "__init__" = some (some (.ref fI))) (tI : PySem.W.typeIn X.K (.ref fI) = some (.type "function"))
    (F1 : FnOk X.prog X.w X.K X.mg X.base CX k fI fd ps sp) (hr : Room (k + 1) X.A) (hb : Binds X.K fd ps []) (hx : Passes CX X (fun _ _ _ => False)) (hg : Gl X x) (hm : X.mg x = some (.ref C)) (ha : PA X (e :: es) ta)
    (hdb : (x == ("__debug__" : Str)) = false) (he : starEach (e :: es) X.env = (false, eval e X.env) :: starEach es X.env) (hpl : (backTo pos (starEach es X.env)).any (·.1) = false) :
    L2N.PMk X (.Call (.Name x p1) (e :: es) [] pos) (tMkO C sp [] ta) := by
  intro pins s σ H Q I h
  obtain ⟨nm, q, N, bs, bm, sn, sub, ab, col, dd, k0, k1, k2, k3, k5, hC, hbm⟩ := T.cls
  refine wpAny_Call_Name_kw (ld_glob I hg hm ?_ hdb)
  refine PySem.W.callWith_K (h₀ := X.base) I.ok.mod.kin T.kC (thn (ha.run pos pins s σ H _ I h) fun us s1 ⟨vs, H1, I1, r1, hz, q1⟩ => ⟨I1.kIn, ?_⟩) he hpl
  show wpAny _ _ (call (.ref C) us) _ _ _
  obtain ⟨hp, g, dr, tk, os⟩ := s1
  have hsz : hp.objs.size ≤ hp.objs.size + 1 := Nat.le_succ _
  have hn : H1 (hp.objs.size + 1) = none := I1.hok.fresh hsz
  have hq := q1 (hp.objs.size + 1) hn
  rw [List.append_nil] at hq
  have kk : ∀ b o, hp.get? b = some o → ((hp.push (PySem.W.kdv_tup us)).push (PySem.HandSPX.excO C hp.objs.size)).get? b = some o := fun b o e => Heap.get?_push_of_some _ (Heap.get?_push_of_some _ e)
  have hget : ((hp.push (PySem.W.kdv_tup us)).push (PySem.HandSPX.excO C hp.objs.size)).get? (hp.objs.size + 1) = some (PySem.HandSPX.excO C hp.objs.size) := by heap_get
  have I2 : Inv X pins σ (upd H1 (hp.objs.size + 1) (exo (hp.objs.size + 1) C none)) ⟨(hp.push (PySem.W.kdv_tup us)).push (PySem.HandSPX.excO C hp.objs.size), g, dr, tk, os⟩ :=
    I1.laid (t' := tk) (a := hp.objs.size + 1) (o := exo (hp.objs.size + 1) C none) (h' := (hp.push (PySem.W.kdv_tup us)).push (PySem.HandSPX.excO C hp.objs.size)) kk hsz (exo_ok hget)
  have r2 : Vals (V.ref (hp.objs.size + 1) :: vs) (Value.ref (hp.objs.size + 1) :: us) := .cons rfl r1
  have hl : (Value.ref (hp.objs.size + 1) :: us ++ []).length = ps.length := by
    have e := r2.length
    rw [F1.len _ _ _ _ hq] at e
    rw [List.append_nil]
    exact e.symm
  have hus : us.length ≤ sizeLine := by
    rw [← Paired.length r1, sizeLine_eq]
    omega
  have b2 := hb _ (Value.ref (hp.objs.size + 1) :: us) I2.kIn hl
  rw [List.append_nil] at b2
  refine wpAny_call (PySem.HandSPX.call_own F.excBase_ValueError (fun Y => PySem.HandSPX.refsVE_contains Y bm hbm) (I1.kIn _ _ hC) (PySem.W.looks_findIn I1.kIn iC) (fun self => PySem.W.bind_fn I1.kIn self tI) hus
    (codeAny_mono (F1.run _ X.stack _ _ ⟨Value.ref (hp.objs.size + 1) :: us, []⟩ (Value.ref (hp.objs.size + 1) :: us) _ _ (fun _ _ _ => False) (hr.make C us []) (I2.env0.make C us []) b2 r2 hq) fun r s' hq' => ?_))
  cases r with
  | error er => exact hx pins σ _ _ er s' I2 hq'
  | ok fl =>
    cases fl with
    | ret u =>
      obtain ⟨v, H2, os2, bare2, un2, hok2, rv, ev, d, fs, ea, ed, hd1, q2⟩ := hq'
      subst ev
      obtain ⟨h2, g2, d2, t2, os'⟩ := s'
      obtain ⟨t0, G, J, kG, ge, hoe, na⟩ := mk_end0 (d2 := d2) (t2 := t2) I1 hsz kk un2 hok2 os2 bare2 ea ed hd1
      refine ⟨rv, hp.objs.size + 1, _, _, ⟨G, g2, d2, t2, os'⟩, _, .ref C, some d, rfl, J, kG, ge, hoe, ⟨rfl, rfl, fun vs hv => ?_⟩, rfl, rfl, na, rfl, bare2, raises_own T.exC T.tyC, q2⟩
      cases hv
      rfl
    | next => exact False.elim hq'
    | brk => exact False.elim hq'
    | cont => exact False.elim hq'
end
end DH

set_option maxRecDepth 100000
set_option maxHeartbeats 2000000
/-! HT7: the __init__ of the program's exceptions: one field or two. -/
namespace DH
open PySem PySem.Spec PyProof.Rows L2 L2H HotX DM
abbrev bsBody (p1 p2 p3 p4 p5 p6 q1 q2 q3 q4 r1 r2 r3 r4 : Pos) : List Stmt :=
  [.Expr (.Call (.Attribute (.Name "TileError" p1) "__init__" p2) [.Name "self" p3, .Name "why" p4] [] p5) p6,
   .Assign [.Attribute (.Name "self" q1) "at" q2] (.Name "at" q3) q4,
   .Assign [.Attribute (.Name "self" r1) "why" r2] (.Name "why" r3) r4]
abbrev btBody (p1 p2 p3 p4 p5 p6 q1 q2 q3 q4 : Pos) (j : Nat) (m : Str) : List Stmt :=
  [.Expr (.Call (.Attribute (.Name "TileError" p1) "__init__" p2) [.Name "self" p3, .Constant (.str m) j p4] [] p5) p6,
   .Assign [.Attribute (.Name "self" q1) "row" q2] (.Name "row" q3) q4]
section
variable {P : Program} {w : World} {K : PySem.W.Frag} {mg : Str → Option Value} {base : Heap} {CX : CXT} {T : Tab} {x qual : Str} {st : Stmt} {f : Addr} {fd : FuncData} {k : Nat}
theorem bset_ok {c fa fw : Nat} {CT : Addr} {mc : Value} (hT : T.K = K) (F : Fun K x qual st f fd) (S : FnScope ["self", "at", "why"] ["self", "at", "why"] (defScope st)) {p1 p2 p3 p4 p5 p6 q1 q2 q3 q4 r1 r2 r3 r4 : Pos} (hb : defBody st = bsBody p1 p2 p3 p4 p5 p6 q1 q2 q3 q4 r1 r2 r3 r4) (hpos : (p2.endLine == p5.line) = true)
    (hsc : (defScope st).names.lookup ("TileError" : Str) = some .globalImplicit) (hv : (vsB (defScope st) "self" && vsB (defScope st) "at" && vsB (defScope st) "why") = true) (hm : mg "TileError" = some (.ref CT)) (r : ClX.CRead K CT mc) (fc : PySem.W.findCls K (.ref CT) mc "__init__" = some (.val (.builtin "ValueError.__init__")))
    (ea : T.fn fa = "at") (ew : T.fn fw = "why") : FnOk P w K mg base CX (k + 1) f fd ["self", "at", "why"] (spX T c [fa, fw]) := by
  obtain ⟨oc, od, kV, doc, pm, an, cdv, ct, osl, rfl, lk, hcd⟩ := F.ex
  refine fn_of lk hcd S (fun vs H Q E ⟨a, C, us, e, hl, _⟩ => by rw [e, List.length_cons, hl]; rfl) fun A outer s H vs Q E hr ⟨a, C, us, e, hl, hC, O, hn, ha, hq⟩ => ?_
  rw [hT] at O hn
  simp only [Bool.and_eq_true] at hv
  obtain ⟨⟨v0, v1⟩, v2⟩ := hv
  subst e
  obtain ⟨u1, u2, rfl⟩ : ∃ u1 u2, us = [u1, u2] := by
    match us, hl with
    | [u1, u2], _ => exact ⟨u1, u2, rfl⟩
  generalize hX : cxOf CX P w K mg base ["self", "at", "why"] qual (defScope st) f cdv A outer s H E = X
  have XK : X.K = K := by rw [← hX]; rfl
  have n0 : X.N[0]? = some ("self" : Str) := by rw [← hX]; rfl
  have n1 : X.N[1]? = some ("at" : Str) := by rw [← hX]; rfl
  have n2 : X.N[2]? = some ("why" : Str) := by rw [← hX]; rfl
  have w0 : Vis X.env.scope "self" := by rw [← hX]; exact vsB_ok v0
  have w1 : Vis X.env.scope "at" := by rw [← hX]; exact vsB_ok v1
  have w2 : Vis X.env.scope "why" := by rw [← hX]; exact vsB_ok v2
  have g : Gl X "TileError" := by rw [← hX]; exact hsc
  have m : X.mg "TileError" = some (.ref CT) := by rw [← hX]; exact hm
  obtain ⟨pl, hc⟩ := meth_form (X := X) (o := .Name "TileError" p1) (m := "__init__") (apos := p2) (pos := p5) (es := [.Name "self" p3, .Name "why" p4]) rfl rfl (by show 2 < 30; decide) hpos
  have s1 := ps_expr (pos := p6) (pe_teinit (X := X) (p1 := p1) (p2 := p2) (pos := p5) g m (by decide) (by rw [XK]; exact r) (by rw [XK]; exact fc) (pa_cons (pe_var (pos := p3) n0 w0) (pa_cons (pe_var (pos := p4) n2 w2) pa_nil)) hc)
  have s2 := ps_ost (X := X) (f := "at") (p' := q2) (pos := q4) (pe_var (pos := q1) n0 w0) (pe_var (pos := q3) n1 w1)
  have s3 := ps_ost (X := X) (f := "why") (p' := r2) (pos := r4) (pe_var (pos := r1) n0 w0) (pe_var (pos := r3) n2 w2)
  refine ⟨_, by rw [hb]; exact pss_cons s1 (pss_cons s2 (pss_cons s3 pss_nil)), ?_⟩
  rw [XK]
  refine ⟨.ref a, rfl, u2, rfl, a, C, [u2], rfl, by show 1 ≤ 1000; decide, O, ha, u1, rfl, .ref a, rfl, a, C, rfl, O, by rw [← ea]; exact hn fa (by simp), .inl ⟨ha, fun dx hdx hne => ?_⟩⟩
  refine ⟨u2, rfl, .ref a, rfl, a, C, rfl, O, by rw [← ew]; exact hn fw (by simp), .inr ⟨dx, _, upd_same, by rw [upd_ne hne]; exact upd_same, by show 1 ≤ 900; decide, ?_⟩⟩
  refine hq _ dx (fun b o hb e => ?_) hdx hne ?_ ?_
  · rw [upd_ne (by rintro rfl; rw [hdx] at e; cases e), upd_ne hb, upd_ne (by rintro rfl; rw [hdx] at e; cases e)]
    exact e
  · rw [upd_ne (Ne.symm hne), upd_same]
  · rw [upd_same]
    show some (exd dx [("why", u2), ("at", u1)]) = some (exd dx (([T.fn fa, T.fn fw].zip [u1, u2]).reverse))
    rw [ea, ew]
    rfl
theorem btxt_ok {c fr : Nat} {CT : Addr} {mc : Value} (hT : T.K = K) (F : Fun K x qual st f fd) (S : FnScope ["self", "row"] ["self", "row"] (defScope st)) {p1 p2 p3 p4 p5 p6 q1 q2 q3 q4 : Pos} {j : Nat} {ms : Str} (hb : defBody st = btBody p1 p2 p3 p4 p5 p6 q1 q2 q3 q4 j ms) (hpos : (p2.endLine == p5.line) = true)
    (hsc : (defScope st).names.lookup ("TileError" : Str) = some .globalImplicit) (hv : (vsB (defScope st) "self" && vsB (defScope st) "row") = true) (hm : mg "TileError" = some (.ref CT)) (r : ClX.CRead K CT mc) (fc : PySem.W.findCls K (.ref CT) mc "__init__" = some (.val (.builtin "ValueError.__init__")))
    (er : T.fn fr = "row") : FnOk P w K mg base CX (k + 1) f fd ["self", "row"] (spX T c [fr]) := by
  obtain ⟨oc, od, kV, doc, pm, an, cdv, ct, osl, rfl, lk, hcd⟩ := F.ex
  refine fn_of lk hcd S (fun vs H Q E ⟨a, C, us, e, hl, _⟩ => by rw [e, List.length_cons, hl]; rfl) fun A outer s H vs Q E hr ⟨a, C, us, e, hl, hC, O, hn, ha, hq⟩ => ?_
  rw [hT] at O hn
  simp only [Bool.and_eq_true] at hv
  obtain ⟨v0, v1⟩ := hv
  subst e
  obtain ⟨u1, rfl⟩ : ∃ u1, us = [u1] := by
    match us, hl with
    | [u1], _ => exact ⟨u1, rfl⟩
  generalize hX : cxOf CX P w K mg base ["self", "row"] qual (defScope st) f cdv A outer s H E = X
  have XK : X.K = K := by rw [← hX]; rfl
  have n0 : X.N[0]? = some ("self" : Str) := by rw [← hX]; rfl
  have n1 : X.N[1]? = some ("row" : Str) := by rw [← hX]; rfl
  have w0 : Vis X.env.scope "self" := by rw [← hX]; exact vsB_ok v0
  have w1 : Vis X.env.scope "row" := by rw [← hX]; exact vsB_ok v1
  have g : Gl X "TileError" := by rw [← hX]; exact hsc
  have m : X.mg "TileError" = some (.ref CT) := by rw [← hX]; exact hm
  obtain ⟨pl, hc⟩ := meth_form (X := X) (o := .Name "TileError" p1) (m := "__init__") (apos := p2) (pos := p5) (es := [.Name "self" p3, .Constant (.str ms) j p4]) rfl rfl (by show 2 < 30; decide) hpos
  have s1 := ps_expr (pos := p6) (pe_teinit (X := X) (p1 := p1) (p2 := p2) (pos := p5) g m (by decide) (by rw [XK]; exact r) (by rw [XK]; exact fc) (pa_cons (pe_var (pos := p3) n0 w0) (pa_cons (show PE X (.Constant (.str ms) j p4) (tC (.str ms)) from pe_str) pa_nil)) hc)
  have s2 := ps_ost (X := X) (f := "row") (p' := q2) (pos := q4) (pe_var (pos := q1) n0 w0) (pe_var (pos := q3) n1 w1)
  refine ⟨_, by rw [hb]; exact pss_cons s1 (pss_cons s2 pss_nil), ?_⟩
  rw [XK]
  refine ⟨.ref a, rfl, a, C, [.str ms], rfl, by show 1 ≤ 1000; decide, O, ha, u1, rfl, .ref a, rfl, a, C, rfl, O, by rw [← er]; exact hn fr (by simp), .inl ⟨ha, fun dx hdx hne => ?_⟩⟩
  refine hq _ dx (fun b o hb e => ?_) hdx hne upd_same ?_
  · rw [upd_ne hb, upd_ne (by rintro rfl; rw [hdx] at e; cases e)]
    exact e
  · rw [upd_ne hne, upd_same]
    show some (exd dx [("row", u1)]) = some (exd dx (([T.fn fr].zip [u1]).reverse))
    rw [er]
    rfl
end
end DH

set_option maxRecDepth 100000
/-! DM8d: try: .. except C as e: return ..; raise C(e, ..). -/
namespace DM
open PySem PySem.Spec PyProof.Rows L2 L2H DH
/-- the exception that is handled -/
def Hd (T : Tab) (B : Hp) (x : Xc) (cls : Value) (d : Option Addr) : Prop := ∃ C, T.cls x.c = some C ∧ cls = .ref C ∧ match d with
  | none => x.fs = []
  | some dd => ∃ fvs, B dd = some (.xd fvs) ∧ FsX T fvs x.fs
/-- a reading, the exception's name at slot i -/
def th (T : Tab) (i : Nat) (a : Addr) (x : Xc) (cls : Value) (d : Option Addr) (f : Env → List Cell → R W) : TE := fun σ H Q => ∃ (B G : Hp) (α : List Addr) (ρ : Env) (s : List Cell), Hd T B x cls d ∧ σ[i]? = some (some (.ref a)) ∧ StM T B G H α s ∧ EnvR T G α ρ σ ∧ Post T W0 (rW T) B G α σ (f ρ s) Q
theorem Hd.xd {T : Tab} {B G H : Hp} {α : List Addr} {s : List Cell} {x : Xc} {cls : Value} {d : Option Addr} (h : Hd T B x cls d) (S : StM T B G H α s) : XdIn H d := fun dd e => by
  obtain ⟨C, _, _, h⟩ := h
  subst e
  obtain ⟨fvs, hb, _⟩ := h
  exact ⟨fvs, S.bh _ _ hb⟩
/-- a field of an exception -/
theorem getN_X {T : Tab} (ok : TabOk T) : ∀ {fvs : List (Str × V)} {fs : List (Nat × PyData)} {f : Nat} {y : PyData}, FsX T fvs fs → f < T.nf → getN f fs = some y → ∃ v, fvs.lookup (T.fn f) = some v ∧ ∀ G, Dp T.K G v y
  | _, [], _, _, _, _, e => nomatch e
  | _, q :: fs, f, y, .cons (a := p) r t, hf, e => by
    obtain ⟨h1, h2, h3⟩ := r
    obtain ⟨pn, pv⟩ := p
    simp only at h1 h3
    simp only [getN] at e
    by_cases hq : f = q.1
    · rw [if_pos hq] at e
      cases e
      refine ⟨pv, ?_, h3⟩
      rw [hq, h1, List.lookup_cons]
      simp
    · rw [if_neg hq] at e
      obtain ⟨v, g1, g2⟩ := getN_X ok t hf e
      refine ⟨v, ?_, g2⟩
      rw [List.lookup_cons]
      have hne : (T.fn f == pn) = false := by
        rw [beq_eq_false_iff_ne]
        intro z
        rw [h1] at z
        exact hq (ok.inj _ _ hf h2 z)
      rw [hne]
      exact g1
/-- what stands around a handler -/
structure HCx (X : Cx) (T : Tab) (k : Nat) (h : Hx) (i : Nat) (n : Str) (a : Addr) (oe : Obj) (cls : Value) (d : Option Addr) : Prop where
  hP : X.prog = T.P
  hw : X.w = T.w
  hK : X.K = T.K
  un : X.A.units + 65 < cLine
  room : Room k X.A
  tok : TabOk T
  zn : L2N.Zn cls d oe
  fl : ∃ vs, oe.data = .fields vs
  hN : X.N[i]? = some n
  vis : Vis X.env.scope n
  db : (n == ("__debug__" : Str)) = false
  cd : (n == ("__classdict__" : Str)) = false
  hx : HxOk X.prog X.w X.K X.mg X.base T k h
section
variable {X : Cx} {T : Tab} {k : Nat} {Φ : Phi} {i : Nat} {n : Str} {a : Addr} {oe : Obj} {cls : Value} {d : Option Addr} {pn : List (Addr × Obj)} {x : Xc} {w b : Expr} {q q2 q3 pos pos' : Pos} {fw fa fb : Env → List Cell → R W}
theorem passF {X : Cx} (σ : L2.St) : PassesAt (L2N.CX X.prog X.w) X σ (fun _ _ _ => False) := fun _ _ _ _ _ _ h => by
  obtain ⟨_, _, _, _, _, _, _, _, _, _, _, _, z⟩ := h
  exact z.elim
theorem HCx.hot (O : HCx X T k Φ.hx i n a oe cls d) : Hot1 (X.suite a ((a, oe) :: pn)).A (a, oe) := by
  obtain ⟨vs, e⟩ := O.fl
  exact ⟨rfl, vs, e, O.zn.2.2 vs e⟩
theorem HCx.var (O : HCx X T k Φ.hx i n a oe cls d) : PE (X.suite a ((a, oe) :: pn)) (.Name n q2) (tVar i) := pe_var (X := X.suite a ((a, oe) :: pn)) O.hN O.vis O.db O.cd
theorem th_bl {b : Bool} {σ : L2.St} {B G H : Hp} {α : List Addr} {s : List Cell} {Q : VK} (S : StM T B G H α s) (P : Post T W0 (rW T) B G α σ (.ok (.d (.bool b)) s) Q) : Q (.bl b) H := P.now S (show Dp T.K G _ _ from .bl b)
theorem h_p {e : Expr} (he : PE (X.suite a ((a, oe) :: pn)) e (tE T W0 fa)) : PE (X.suite a ((a, oe) :: pn)) e (th T i a x cls d fa) := PE_imp he fun σ H Q ⟨B, G, α, ρ, s, _, _, S, E, P⟩ => ⟨B, G, α, ρ, s, S, E, P⟩
theorem h_no {e : Expr} : PE (X.suite a ((a, oe) :: pn)) e (th T i a x cls d fun _ _ => .no) := ⟨fun _ _ _ _ _ _ ⟨_, _, _, _, _, _, _, _, _, P⟩ => P.elim⟩
def fIs (o : Option (List Bool)) (fw : Env → List Cell → R W) : Env → List Cell → R W := fun ρ s => match o with
    | some ks => (fw ρ s).bind fun v s => match v with
      | .d (.str tw) => if okD (.str tw) then .ok (.d (.bool (isAns ks tw))) s else .no
      | _ => .no
    | none => .no
theorem h_is (O : HCx X T k Φ.hx i n a oe cls d) {g : Nat} (hg : Gl X (T.gn g)) (hdb : (T.gn g == ("__debug__" : Str)) = false) (hw : PE (X.suite a ((a, oe) :: pn)) w (tE T W0 fw)) (hs : isStar w = false) :
    PE (X.suite a ((a, oe) :: pn)) (.Call (.Name (T.gn g) q) [.Name n q2, w] [] pos) (th T i a x cls d (fIs (Φ.hx.wd g x.c) fw)) := by
  cases eo : Φ.hx.wd g x.c with
  | none => exact h_no
  | some ks =>
    obtain ⟨f, fd, h1, h2, h3, h4⟩ := O.hx.wd g x.c ks eo
    refine ⟨fun pins s0 σ H Q I h => ?_⟩
    obtain ⟨B, G, α, ρ, s, hd, hσ, S, E, P⟩ := h
    obtain ⟨C, hC, hcls, hdd⟩ := id hd
    have F := h4 C hC (a, oe) d (hcls ▸ O.zn.zc) O.fl
    have st : starEach [w] (X.suite a ((a, oe) :: pn)).env = (false, eval w (X.suite a ((a, oe) :: pn)).env) :: starEach [] (X.suite a ((a, oe) :: pn)).env := star_cons hs
    refine (pe_callP (X := X.suite a ((a, oe) :: pn)) (E := fun _ _ _ _ => False) (q := q) F ⟨O.room.dp, O.room.un⟩ O.hot List.mem_cons_self hg h1 h2 h3 (fun σ => passF σ) (pa_cons O.var (pa_cons hw pa_nil st)) hdb (by rfl) (by rw [st]; rfl)).run pins s0 σ H Q I ?_
    refine ⟨.ref a, hσ, B, G, α, ρ, s, S, E, ?_⟩
    simp only [fIs] at P
    refine P.bind.mono fun v H1 ⟨wv, s1, G1, α1, xx, S1, r1, P1⟩ => ?_
    cases wv with
    | d y =>
      cases y with
      | str tw =>
        obtain rfl := (show Dp T.K G1 v (.str tw) from r1).str_inv
        simp only at P1
        split at P1
        · rename_i ho
          exact ⟨tw, rfl, ho, hd.xd S1, fun H' hs' => th_bl (S1.same hs') P1⟩
        · exact P1.elim
      | _ => exact P1.elim
    | _ => exact P1.elim
/-- e.f -/
theorem h_fld (O : HCx X T k Φ.hx i n a oe cls d) {f : Nat} {y : PyData} (hf : Φ.hx.xf x.c f = true) (e : getN f x.fs = some y) {t : TE} (hq : ∀ σ H Q, t σ H Q → ∃ B, Hd T B x cls d ∧ Same B H ∧ σ[i]? = some (some (.ref a)) ∧ ∀ v, (∀ G, Dp T.K G v y) → Q v H) : PE (X.suite a ((a, oe) :: pn)) (.Attribute (.Name n q2) (T.fn f) q3) t := by
  refine ⟨fun pins s0 σ H Q I h => ?_⟩
  obtain ⟨B, hd, hb, hσ, hv⟩ := hq σ H Q h
  obtain ⟨C, hC, hcls, hdd⟩ := id hd
  obtain ⟨xc, hno, hlt⟩ := O.hx.xf x.c f hf C hC
  refine (pe_xf (X := X) (a := a) (C := C) (cls := cls) (d := d) (pn := pn) (pos := q3) xc hno O.zn.zc O.fl O.var (base_ok rfl)).run pins s0 σ H Q I ?_
  cases d with
  | none =>
    simp only at hdd
    rw [hdd] at e
    cases e
  | some dd =>
    obtain ⟨fvs, hB, hF⟩ := hdd
    obtain ⟨v, l, dv⟩ := getN_X O.tok hF hlt e
    exact ⟨.ref a, hσ, rfl, hcls, dd, fvs, v, rfl, hb _ _ hB, l, hv v dv⟩
def fWhole (b : Bool) (o : Option PyData) : Env → List Cell → R W := fun _ s => if b then match o with
    | some y => .ok (.d (.bool (isiD .int y && !isiD .bool y))) s
    | none => .no
    else .no
theorem h_whole (O : HCx X T k Φ.hx i n a oe cls d) {g f : Nat} (hg : Gl X (T.gn g)) (hdb : (T.gn g == ("__debug__" : Str)) = false) :
    PE (X.suite a ((a, oe) :: pn)) (.Call (.Name (T.gn g) q) [.Attribute (.Name n q2) (T.fn f) q3] [] pos) (th T i a x cls d (fWhole (Φ.hx.wh g && Φ.hx.xf x.c f) (getN f x.fs))) := by
  cases eb : (Φ.hx.wh g && Φ.hx.xf x.c f) with
  | false => exact h_no
  | true =>
    rw [Bool.and_eq_true] at eb
    cases ey : getN f x.fs with
    | none => exact h_no
    | some y =>
      obtain ⟨fa, fd, z, h1, h2, h3, h4⟩ := O.hx.wh g eb.1
      have hv : PE (X.suite a ((a, oe) :: pn)) (.Attribute (.Name n q2) (T.fn f) q3) (fun σ H Q => ∃ B, Hd T B x cls d ∧ Same B H ∧ σ[i]? = some (some (.ref a)) ∧ ∀ v, (∀ G, Dp T.K G v y) → Q v H) := h_fld O eb.2 ey fun σ H Q h => h
      refine PE_imp (pe_callP (X := X.suite a ((a, oe) :: pn)) (E := fun _ _ _ _ => False) (q := q) (h4 (a, oe)) ⟨O.room.dp, O.room.un⟩ O.hot List.mem_cons_self hg h1 h2 h3 (fun σ => passF σ) (pa_cons hv pa_nil) hdb (by rfl) (by rfl)) fun σ H Q ⟨B, G, α, ρ, s, hd, hσ, S, E, P⟩ => ?_
      refine ⟨B, hd, S.bh, hσ, fun v dv => ⟨v, y, rfl, by rw [O.hK]; exact dv, fun H' hs' => ?_⟩⟩
      simp only [fWhole, if_true] at P
      exact th_bl (S.same hs') P
def fIsStr (b : Bool) (o : Option PyData) : Env → List Cell → R W := fun _ s => if b then match o with
    | some y => .ok (.d (.bool (isiD .str y))) s
    | none => .no
    else .no
theorem h_isStr (O : HCx X T k Φ.hx i n a oe cls d) {f : Nat} (gi : Gl X "isinstance") (mi : X.mg "isinstance" = none) (gt : Gl X "str") (mt : X.mg "str" = none) :
    PE (X.suite a ((a, oe) :: pn)) (.Call (.Name "isinstance" q) [.Attribute (.Name n q2) (T.fn f) q3, .Name "str" pos] [] pos') (th T i a x cls d (fIsStr (Φ.hx.xf x.c f) (getN f x.fs))) := by
  cases eb : Φ.hx.xf x.c f with
  | false => exact h_no
  | true =>
    cases ey : getN f x.fs with
    | none => exact h_no
    | some y =>
      have hv : PE (X.suite a ((a, oe) :: pn)) (.Attribute (.Name n q2) (T.fn f) q3) (fun σ H Q => ∃ B, Hd T B x cls d ∧ Same B H ∧ σ[i]? = some (some (.ref a)) ∧ ∀ v, (∀ G, Dp T.K G v y) → Q v H) := h_fld O eb ey fun σ H Q h => h
      refine PE_imp (pe_callB (X := X.suite a ((a, oe) :: pn)) (r := rIsi X.K) call_isi gi mi boot_isi (pa_cons hv (pa_cons (pe_bltn (X := X.suite a ((a, oe) :: pn)) gt mt (v := .ty "str") (boot_ty .str) rfl (by decide) (by decide)) pa_nil)) (by decide) (by decide) (by rfl) (by rfl)) fun σ H Q ⟨B, G, α, ρ, s, hd, hσ, S, E, P⟩ => ?_
      refine ⟨B, hd, S.bh, hσ, fun v dv => ⟨v, .ty "str", .type (tyD y), .type "str", isiD .str y, rfl, .ty _, tyX_of (by rw [O.hK]; exact dv H), kit_isi X.K .str y (Dp.nodict (dv H)), ?_⟩⟩
      simp only [fIsStr, if_true] at P
      exact th_bl S P
def fCmpF (b : Bool) (o : Option PyData) (op : CmpK) (fa : Env → List Cell → R W) : Env → List Cell → R W := fun ρ s => if b then match o with
    | some y => (fa ρ s).bind fun w s => match see s w with
      | some z => lift ((cmpD op y z).map fun b => .d (.bool b)) s
      | none => .no
    | none => .no
    else .no
theorem h_cmpF (O : HCx X T k Φ.hx i n a oe cls d) {f : Nat} (op : CmpK) (hb : PE (X.suite a ((a, oe) :: pn)) b (tE T W0 fb)) (hm : behindInMarks (cmpOf op) b = false) :
    PE (X.suite a ((a, oe) :: pn)) (.Compare (.Attribute (.Name n q2) (T.fn f) q3) [cmpOf op] [b] pos) (th T i a x cls d (fCmpF (Φ.hx.xf x.c f) (getN f x.fs) op fb)) := by
  cases eb : Φ.hx.xf x.c f with
  | false => exact h_no
  | true =>
    cases ey : getN f x.fs with
    | none => exact h_no
    | some y =>
      have hv : PE (X.suite a ((a, oe) :: pn)) (.Attribute (.Name n q2) (T.fn f) q3) (fun σ H Q => ∃ B, Hd T B x cls d ∧ Same B H ∧ σ[i]? = some (some (.ref a)) ∧ ∀ v, (∀ G, Dp T.K G v y) → Q v H) := h_fld O eb ey fun σ H Q h => h
      refine PE_imp (pe_cmpR (X := X.suite a ((a, oe) :: pn)) (op_cmp (X := X.suite a ((a, oe) :: pn)) O.un op) hv hb hm) fun σ H Q ⟨B, G, α, ρ, s, hd, hσ, S, E, P⟩ => ?_
      refine ⟨B, hd, S.bh, hσ, fun v dv => ⟨B, G, α, ρ, s, S, E, ?_⟩⟩
      simp only [fCmpF, if_true] at P
      refine P.bind.mono fun u H1 ⟨w1, s1, G1, α1, xx, S1, r1, P1⟩ => ?_
      cases es : see s1 w1 with
      | none => rw [es] at P1; exact P1.elim
      | some z =>
        rw [es] at P1
        obtain ⟨wz, hz, P2⟩ := Post.lift P1
        cases ec : cmpD op y z with
        | none => rw [ec] at hz; cases hz
        | some c =>
          rw [ec] at hz
          cases hz
          show rCmp X.K op v u H1 Q
          rw [O.hK]
          exact cmp_fin (dv H1) (see_ok S1 es r1) ec (th_bl S1 P2)
theorem th_test {kk : Env → Bool → List Cell → R W} {σ : L2.St} {H : Hp} {Q : VK} (h : th T i a x cls d (fun ρ s => (fT fa ρ s).bind (kk ρ)) σ H Q) : th T i a x cls d fa σ H fun v H1 => ∃ c, v = .bl c ∧ th T i a x cls d (fun ρ s => kk ρ c s) σ H1 Q := by
  obtain ⟨B, G, α, ρ, s, hd, hσ, S, E, P⟩ := h
  refine ⟨B, G, α, ρ, s, hd, hσ, S, E, ?_⟩
  simp only [fT] at P
  cases e : fa ρ s with
  | no => rw [e] at P; exact P
  | ex z s1 => rw [e] at P; exact P
  | ok w1 s1 =>
    rw [e] at P
    intro G1 α1 H1 v xx S1 r1
    simp only [R.bind_ok] at P
    cases w1 with
    | d y =>
      cases y with
      | bool c =>
        obtain rfl := (show Dp T.K G1 v (.bool c) from r1).bl_inv
        exact ⟨c, rfl, B, G1, α1, ρ, s1, hd, hσ, S1, E.mono xx, Post.ext P xx⟩
      | _ => exact P.elim
    | _ => exact P.elim
theorem th_congr {f g : Env → List Cell → R W} {σ : L2.St} {H : Hp} {Q : VK} (h : th T i a x cls d f σ H Q) (e : ∀ ρ s, f ρ s = g ρ s) : th T i a x cls d g σ H Q := by
  obtain ⟨B, G, α, ρ, s, hd, hσ, S, E, P⟩ := h
  exact ⟨B, G, α, ρ, s, hd, hσ, S, E, by rw [← e]; exact P⟩
theorem th_mono {f : Env → List Cell → R W} {σ : L2.St} {H : Hp} {Q Q' : VK} (h : th T i a x cls d f σ H Q) (m : ∀ v H, Q v H → Q' v H) : th T i a x cls d f σ H Q' := by
  obtain ⟨B, G, α, ρ, s, hd, hσ, S, E, P⟩ := h
  exact ⟨B, G, α, ρ, s, hd, hσ, S, E, P.mono m⟩
theorem h_and {e : Expr} {rest : List Expr} (ha : PE (X.suite a ((a, oe) :: pn)) e (th T i a x cls d fa)) (hb : PE (X.suite a ((a, oe) :: pn)) (.BoolOp .And (b :: rest) pos) (th T i a x cls d fb)) : PE (X.suite a ((a, oe) :: pn)) (.BoolOp .And (e :: b :: rest) pos) (th T i a x cls d (fAnd fa fb)) :=
  PE_imp (pe_and ha hb) fun σ H Q q => by
    have q2 := th_test (fa := fa) (kk := fun ρ c s => if c then fb ρ s else .ok (.d (.bool false)) s) (th_congr q fAnd_eq)
    refine th_mono q2 fun v H1 ⟨c, e, q3⟩ => ⟨c, e, ?_⟩
    cases c with
    | true => rw [if_pos rfl]; exact th_congr q3 fun _ _ => by simp
    | false =>
      rw [if_neg Bool.false_ne_true]
      obtain ⟨B, G, α, ρ, s, hd, hσ, S, E, P⟩ := q3
      exact th_bl S P
theorem h_or {e : Expr} {rest : List Expr} (ha : PE (X.suite a ((a, oe) :: pn)) e (th T i a x cls d fa)) (hb : PE (X.suite a ((a, oe) :: pn)) (.BoolOp .Or (b :: rest) pos) (th T i a x cls d fb)) : PE (X.suite a ((a, oe) :: pn)) (.BoolOp .Or (e :: b :: rest) pos) (th T i a x cls d (fOr fa fb)) :=
  PE_imp (pe_or ha hb) fun σ H Q q => by
    have q2 := th_test (fa := fa) (kk := fun ρ c s => if c then .ok (.d (.bool true)) s else fb ρ s) (th_congr q fOr_eq)
    refine th_mono q2 fun v H1 ⟨c, e, q3⟩ => ⟨c, e, ?_⟩
    cases c with
    | false => rw [if_neg Bool.false_ne_true]; exact th_congr q3 fun _ _ => by simp
    | true =>
      rw [if_pos rfl]
      obtain ⟨B, G, α, ρ, s, hd, hσ, S, E, P⟩ := q3
      exact th_bl S P
end
/-! ### try: .. except C as n: return .. -/
section
variable {X : Cx} {T : Tab} {k : Nat} {Wx : WX} {pos np pos' rp : Pos} {body : List Stmt} {e : Expr}
def fTryAs (sub : Nat → Option Bool) (i : Nat) (fb : Env → List Cell → RS) (fh : Xc → Env → List Cell → R W) : Env → List Cell → RS := fun ρ s => R.tr (fb ρ s) fun x ρ s => match sub x.c with
    | some true => if i < ρ.length then R.only (fh x (ρ.set i none) s) (ρ.set i none) else .no
    | some false => .ok (.ex x, ρ) s
    | none => .no
theorem envR_none {G : Hp} {α : List Addr} {ρ : Env} {σ : L2.St} {i : Nat} {v : Option V} (E : EnvR T G α ρ σ) : EnvR T G α (ρ.set i none) (σ.set i v) := by
  refine ⟨by simp [E.1], fun j w h => ?_⟩
  by_cases hj : i = j
  · subst hj
    by_cases hi : i < ρ.length
    · rw [List.getElem?_set_self hi] at h; cases h
    · rw [List.getElem?_eq_none (by simpa using hi)] at h; cases h
  · rw [List.getElem?_set_ne hj] at h
    rw [List.getElem?_set_ne hj]
    exact E.2 j w h
theorem PE_ex {X : Cx} {e : Expr} {β : Type} {t : β → TE} (h : ∀ b, PE X e (t b)) : PE X e (fun σ H Q => ∃ b, t b σ H Q) := ⟨fun pins s σ H Q I ⟨b, q⟩ => (h b).run pins s σ H Q I q⟩
theorem d_tryAs {c i : Nat} {n : Str} {D0 : Addr} {sub : Nat → Option Bool} {fb : Env → List Cell → RS} {fh : Xc → Env → List Cell → R W} (hs : X.stack = X.env :: X.outer) (hf : X.env.frame = some X.env.locals) (hN : X.N.Nodup) (hi : X.N[i]? = some n) (hln : X.env.kindOf n = some .local) (hc : Names X (T.cn c) (.ref D0)) (tk : L2N.Takes X Wx)
    (hsub : ∀ c b C, sub c = some b → T.cls c = some C → PySem.W.exmOne X.K (.ref C) (.ref D0) = some b)
    (hb : ∀ (W : WX) (pn : List (Addr × Obj)) (xe : Value → Shared → Prop), L2N.Takes (X.tr pn xe) W → PassesOwn (model X.prog X.w) X.A X.env xe → PSs (X.tr pn xe) body (tS T W fb))
    (he : ∀ (a : Addr) (oe : Obj) (cls : Value) (d : Option Addr) (pn : List (Addr × Obj)) (x : Xc), L2N.Zn cls d oe → (∃ vs, oe.data = .fields vs) → PE (X.suite a ((a, oe) :: pn)) e (th T i a x cls d (fh x))) :
    PS X (.Try body [.ExceptHandler (some (.Name (T.cn c) np)) (some n) [.Return (some e) rp] pos'] [] [] pos) (tS T Wx (fTryAs sub i fb fh)) :=
  PS_imp (L2N.ps_try_as (i := i) (ts := fun a cls d => tSeq (tRet fun σ H Q => ∃ x, th T i a x cls d (fh x) σ H Q) tNext) hs hf hN hi hln hc tk (fun W pn xe tk' hp => hb W pn xe tk' hp) (fun a oe cls d pn hz hd => pss_cons (ps_ret (PE_ex fun x => he a oe cls d pn x hz hd)) pss_nil)) fun D σ H ⟨B, G, α, ρ, s, S, E, P⟩ => by
    refine ⟨B, G, α, ρ, s, S, E, ?_⟩
    simp only [fTryAs] at P
    cases eb : fb ρ s with
    | no => rw [eb] at P; exact P
    | ex z s1 => rw [eb] at P; exact P
    | ok q s1 =>
      obtain ⟨o, ρ1⟩ := q
      rw [eb] at P
      cases o with
      | nx => exact P
      | brk => exact P
      | ct => exact P
      | ret w => exact P
      | ex z =>
        intro G1 α1 H1 cls dx σ1 x1 S1 E1 r1
        obtain ⟨C, hC, rfl, hx⟩ := id r1
        simp only [R.tr_xx] at P
        cases es : sub z.c with
        | none => rw [es] at P; exact P.elim
        | some b =>
          rw [es] at P
          refine ⟨b, hsub _ _ _ es hC, fun hb a na => ?_, fun hb => ?_⟩
          · subst hb
            have fin : ∀ (B' : Hp), Hd T B' z (.ref C) dx → StM T B' G1 H1 α1 s1 → (∀ {G' H' : Hp} {α' : List Addr} {s' : List Cell}, StM T B' G' H' α' s' → StM T B G' H' α' s') → (∀ {G' : Hp} {α' : List Addr}, Ext B' G1 α1 G' α' → Ext B G1 α1 G' α') →
                th T i a z (.ref C) dx (fh z) (σ1.set i (some (.ref a))) H1 D.rt := fun B' hh S' back bx => by
              by_cases hlt : i < ρ1.length
              · refine ⟨B', G1, α1, ρ1.set i none, s1, hh, List.getElem?_set_self (by rw [← E1.1]; exact hlt), S', envR_none E1, ?_⟩
                simp only [if_pos hlt] at P
                cases ee : fh z (ρ1.set i none) s1 with
                | no => rw [ee] at P; exact P
                | ex z2 s2 => rw [ee] at P; exact P.elim
                | ok w s2 =>
                  rw [ee] at P
                  exact fun G' α' H' v x S r => P G' α' H' v (x1.trans (bx x)) (back S) r
              · simp only [if_neg hlt] at P
                exact P.elim
            refine ⟨z, ?_⟩
            cases dx with
            | none => exact fin B ⟨C, hC, rfl, hx⟩ S1 (fun h => h) (fun h => h)
            | some dd =>
              obtain ⟨hB, hα, fvs, hH, hF⟩ := hx
              exact fin (upd B dd (.xd fvs)) ⟨C, hC, rfl, fvs, upd_same, hF⟩ (S1.hold hH hα) (fun h => h.unhold hB) (fun h => h.unhold hB)
          · subst hb
            exact P G1 α1 H1 (.ref C) dx σ1 x1 S1 E1 r1
/-! ### raise C(e, ..) -/
theorem paired_rev {α β : Type} {F : α → β → Prop} : ∀ {l : List α} {m : List β}, Paired F l m → Paired F l.reverse m.reverse
  | _, _, .nil => .nil
  | _, _, .cons (a := a) (b := b) (l₁ := l) (l₂ := m) r t => by
    rw [List.reverse_cons, List.reverse_cons]
    exact paired_app (paired_rev t) (.cons r .nil)
  where paired_app {α β : Type} {F : α → β → Prop} : ∀ {l l' : List α} {m m' : List β}, Paired F l m → Paired F l' m' → Paired F (l ++ l') (m ++ m')
    | _, _, _, _, .nil, h => h
    | _, _, _, _, .cons r t, h => .cons r (paired_app t h)
theorem flat_all {G : Hp} {α : List Addr} : ∀ {ws : List W} {vs : List V} {xs : List PyData}, RWs T G α ws vs → flatAll ws = some xs → Paired (fun v x => ∀ G, Dp T.K G v x) vs xs
  | _, _, xs, .nil, h => by cases h; exact .nil
  | w :: ws, _, xs, .cons (b := v) r t, h => by
    cases w with
    | d x =>
      simp only [flatAll] at h
      split at h
      · rename_i hf
        obtain ⟨ys, h1, rfl⟩ := Option.map_eq_some_iff.mp h
        exact .cons (fun G' => RW.flatOk (G' := G') (α' := []) hf r) (flat_all t h1)
      · cases h
    | _ => cases h
theorem zip_X : ∀ {fs : List Nat} {vs : List V} {xs : List PyData}, Paired (fun v x => ∀ G, Dp T.K G v x) vs xs → (∀ f ∈ fs, f < T.nf) → FsX T ((fs.map T.fn).zip vs) (fs.zip xs)
  | [], _, _, _, _ => by simp; exact .nil
  | f :: fs, _, _, .nil, _ => by simp; exact .nil
  | f :: fs, _, _, .cons r t, h => by
    rw [List.map_cons, List.zip_cons_cons, List.zip_cons_cons]
    exact .cons ⟨rfl, h f List.mem_cons_self, r⟩ (zip_X t fun g hg => h g (List.mem_cons_of_mem _ hg))
def fRaiseA (c : Nat) (o : Option (List Nat)) (fes : Env → List Cell → R (List W)) : Env → List Cell → RS := fun ρ s => match o with
    | some fs => (fes ρ s).st ρ fun ws s => match flatAll ws with
      | some xs => if xs.length = fs.length ∧ fs.length ≤ 9 then .ok (.ex ⟨c, (fs.zip xs).reverse⟩, ρ) s else .no
      | none => .no
    | none => .no
theorem d_raiseA {Φ : Phi} {c : Nat} {p pos2 : Pos} {es : List Expr} {fes : Env → List Cell → R (List W)} (C : Cold X T (k + 1) Wx) (O : HxOk X.prog X.w X.K X.mg X.base T k Φ.hx) (hg : Gl X (T.cn c)) (hdb : (T.cn c == ("__debug__" : Str)) = false) (ha : PA X (e :: es) (tA T Wx fes)) (he : StarOk X pos (e :: es)) :
    PS X (.Raise (some (.Call (.Name (T.cn c) p) (e :: es) [] pos)) none pos2) (tS T Wx (fRaiseA c (Φ.hx.xi c) fes)) := by
  cases eo : Φ.hx.xi c with
  | none => exact d_stNo
  | some fs =>
    obtain ⟨C0, fI, fd, ps, h1, h2, h3, h4, h5, h6, h7, h8⟩ := O.xi c fs eo
    refine PS_imp (L2N.ps_raise C.calm C.tk (pmk_oexN h3 h5 h6 h8 C.room h7 (fun _ _ _ _ _ _ _ h => by obtain ⟨_, _, _, _, _, _, _, _, _, _, _, _, z⟩ := h; exact z.elim) hg h2 ha hdb (he e es rfl).1 (he e es rfl).2)) fun D σ H h => ?_
    refine rd_mono (st_read (rel := rWs T) (f := fes) (k := fun ρ ws s => match flatAll ws with
      | some xs => if xs.length = fs.length ∧ fs.length ≤ 9 then .ok (.ex ⟨c, (fs.zip xs).reverse⟩, ρ) s else .no
      | none => .no) h) fun vs H1 ⟨B, G, α, ρ, s, ws, r, S, E, P⟩ => ?_
    cases ef : flatAll ws with
    | none => rw [ef] at P; exact P.elim
    | some xs =>
      rw [ef] at P
      simp only at P
      have fp := flat_all r ef
      by_cases hl : xs.length = fs.length ∧ fs.length ≤ 9
      · rw [if_pos hl] at P
        have hv : vs.length = fs.length := (Paired.len fp).trans hl.1
        refine ⟨by omega, fun a hn => ⟨a, C0, vs, by rw [List.append_nil], hv, h1, by rw [← C.hK]; exact h3, fun f hf => by rw [← C.hK]; exact (h4 f hf).1, upd_same, fun H' dx hs hdx hne hA hD => ⟨rfl, dx, _, hA, hD, by rw [upd_ne hne] at hdx; exact hdx, ?_⟩⟩⟩
        have hdx1 : H1 dx = none := by rw [upd_ne hne] at hdx; exact hdx
        have sm : Same H1 (upd (del H' a) dx (.xd ((fs.map T.fn).zip vs).reverse)) := fun b o e => by
          have hb1 : b ≠ dx := by rintro rfl; rw [hdx1] at e; cases e
          have hb2 : b ≠ a := by rintro rfl; rw [hn] at e; cases e
          rw [upd_ne hb1, del_ne hb2]
          exact hs b o hb2 (by rw [upd_ne hb2]; exact e)
        refine P G α _ (.ref C0) (some dx) σ Ext.refl' (S.same sm) E ⟨C0, h1, rfl, same_none S.bh hdx1, S.new_notin hdx1, _, upd_same, paired_rev (zip_X fp fun f hf => (h4 f hf).2)⟩
      · rw [if_neg hl] at P
        exact P.elim
end
end DM

set_option maxRecDepth 100000
/-! DM10b: a, b = x, y. -/
namespace DM
open PySem PySem.Spec PyProof.Rows L2
def isLo (sc : Scope) (x : Str) : Bool := decide (sc.names.lookup x = some .local)
def parOk2 (sc : Scope) (x y : Str) (px py : Pos) (a b : Expr) : Bool := isLo sc x && isLo sc y && (py.line == px.line) && !(x == y) && noStar [a, b] && !([a, b].all (foldedForSure 8)) && !([a, b].all (constantsAlone 8))
theorem starAny {es : List Expr} (h : noStar es = true) : (es.any fun | .Starred .. => true | _ => false) = false := by
  rw [List.any_eq_false]
  intro e he
  unfold noStar at h
  rw [List.all_eq_true] at h
  have := h e he
  cases e <;> first | (exact Bool.false_ne_true) | cases this
theorem swapped2 {x y : Str} {px py kp kp2 : Pos} {kt k2 : Nat} {a b : Expr} {env : PySem.Env} (hk : env.scope.kind = .function) (h : parOk2 env.scope x y px py a b = true) : swappedStores [.Tuple [.Name x px, .Name y py] kt kp] (.Tuple [a, b] k2 kp2) env = pure (some [x, y]) := by
  unfold parOk2 isLo at h
  simp only [Bool.and_eq_true, decide_eq_true_eq, Bool.not_eq_true'] at h
  obtain ⟨⟨⟨⟨⟨⟨hx, hy⟩, hl⟩, hne⟩, hs⟩, hf⟩, hc⟩ := h
  have hb : env.blockKind = .function := by unfold Env.blockKind; rw [hk]; rfl
  have kx : (env.kindOf x == some .local) = true := by unfold Env.kindOf; rw [hx]; rfl
  have ky : (env.kindOf y == some .local) = true := by unfold Env.kindOf; rw [hy]; rfl
  have hne' : (y == x) = false := by
    rw [beq_eq_false_iff_ne] at hne ⊢
    exact fun e => hne e.symm
  have hst := starAny hs
  unfold swappedStores
  simp only [hb, hst, hf, hc, List.filterMap_cons, kx, ky, Expr.pos, hl, beq_self_eq_true, Bool.and_self, if_true, List.head?_cons, Option.map_some, Option.getD_some, List.filterMap_nil]
  have q1 : ([x, y].eraseDups) = [x, y] := by
    simp [List.eraseDups_cons, hne']
  simp [q1]
  have sa := (noStar_cons hs).1
  have sb := (noStar_cons (noStar_cons hs).2).1
  rintro (h | h)
  · cases a <;> first | (cases h; done) | (cases sa; done)
  · cases b <;> first | (cases h; done) | (cases sb; done)
def parOk3 (sc : Scope) (x y z : Str) (px py pz : Pos) (a b c : Expr) : Bool := isLo sc x && isLo sc y && isLo sc z && (py.line == px.line) && (pz.line == px.line) && !(x == y) && !(x == z) && !(y == z) && noStar [a, b, c] && !([a, b, c].all (foldedForSure 8)) && !([a, b, c].all (constantsAlone 8))
theorem swapped3 {x y z : Str} {px py pz kp kp2 : Pos} {kt k2 : Nat} {a b c : Expr} {env : PySem.Env} (hk : env.scope.kind = .function) (h : parOk3 env.scope x y z px py pz a b c = true) : swappedStores [.Tuple [.Name x px, .Name y py, .Name z pz] kt kp] (.Tuple [a, b, c] k2 kp2) env = pure (some [x, y, z]) := by
  unfold parOk3 isLo at h
  simp only [Bool.and_eq_true, decide_eq_true_eq, Bool.not_eq_true'] at h
  obtain ⟨⟨⟨⟨⟨⟨⟨⟨⟨⟨hx, hy⟩, hz⟩, hl⟩, hl2⟩, n1⟩, n2⟩, n3⟩, hs⟩, hf⟩, hc⟩ := h
  have hb : env.blockKind = .function := by unfold Env.blockKind; rw [hk]; rfl
  have kx : (env.kindOf x == some .local) = true := by unfold Env.kindOf; rw [hx]; rfl
  have ky : (env.kindOf y == some .local) = true := by unfold Env.kindOf; rw [hy]; rfl
  have kz : (env.kindOf z == some .local) = true := by unfold Env.kindOf; rw [hz]; rfl
  have fl : ∀ {u v : Str}, (u == v) = false → (v == u) = false := fun h => by
    rw [beq_eq_false_iff_ne] at h ⊢
    exact fun e => h e.symm
  have m1 := fl n1
  have m2 := fl n2
  have m3 := fl n3
  unfold swappedStores
  simp only [hb, hf, hc, List.filterMap_cons, kx, ky, kz, Expr.pos, hl, hl2, beq_self_eq_true, Bool.and_self, if_true, List.head?_cons, Option.map_some, Option.getD_some, List.filterMap_nil]
  have q1 : ([x, y, z].eraseDups) = [x, y, z] := by
    simp [List.eraseDups_cons, m1, m2, m3]
  simp [q1]
  have sa := (noStar_cons hs).1
  have sb := (noStar_cons (noStar_cons hs).2).1
  have sc := (noStar_cons (noStar_cons (noStar_cons hs).2).2).1
  rintro (h | h | h)
  · cases a <;> first | (cases h; done) | (cases sa; done)
  · cases b <;> first | (cases h; done) | (cases sb; done)
  · cases c <;> first | (cases h; done) | (cases sc; done)
section
variable {X : Cx} {T : Tab} {k : Nat} {Wx : WX} {pos : Pos} {fes : Env → List Cell → R (List W)}
def fPar (is : List Nat) (fes : Env → List Cell → R (List W)) : Env → List Cell → RS := fun ρ s => (fes ρ s).st ρ fun ws s => match setWs ρ is ws with
    | some ρ => .ok (.nx, ρ) s
    | none => .no
theorem d_par2 {i j : Nat} {x y : Str} {a b : Expr} {px py pt : Pos} {kt k2 pt2} (hc : X.calm = true) (hN : X.N.Nodup) (hi : X.N[i]? = some x) (hj : X.N[j]? = some y) (hk : X.env.scope.kind = .function) (h : parOk2 X.env.scope x y px py a b = true) (ha : PA X [a, b] (tA T Wx fes)) :
    PS X (.Assign [.Tuple [.Name x px, .Name y py] kt pt] (.Tuple [a, b] k2 pt2) pos) (tS T Wx (fPar [i, j] fes)) := by
  have h0 := h
  unfold parOk2 isLo at h0
  simp only [Bool.and_eq_true, decide_eq_true_eq, Bool.not_eq_true', beq_eq_false_iff_ne] at h0
  refine PS_imp (ps_par hc hN hi hj ?_ h0.1.1.1.1.1.1 h0.1.1.1.1.1.2 ha (swapped2 hk h) rfl) fun D σ H q => ?_
  · rintro rfl
    rw [hi] at hj
    exact h0.1.1.1.2 (Option.some.inj hj)
  · refine rd_mono (st_read (rel := rWs T) (k := fun ρ ws s => match setWs ρ [i, j] ws with | some ρ => .ok (.nx, ρ) s | none => .no) q) fun vs H1 ⟨B, G, α, ρ, s, ws, r, S, E, P⟩ => ?_
    cases r with
    | nil => exact P.elim
    | cons r1 r =>
      cases r with
      | nil => exact P.elim
      | cons r2 r =>
        cases r with
        | nil => exact ⟨_, _, rfl, P G α H1 _ Ext.refl' S ((E.set i r1).set j r2)⟩
        | cons r3 r => exact P.elim
theorem d_par3 {i j l : Nat} {x y z : Str} {a b c : Expr} {px py pz pt : Pos} {kt k2 pt2} (hc : X.calm = true) (hN : X.N.Nodup) (hi : X.N[i]? = some x) (hj : X.N[j]? = some y) (hl : X.N[l]? = some z) (hk : X.env.scope.kind = .function) (h : parOk3 X.env.scope x y z px py pz a b c = true) (ha : PA X [a, b, c] (tA T Wx fes)) :
    PS X (.Assign [.Tuple [.Name x px, .Name y py, .Name z pz] kt pt] (.Tuple [a, b, c] k2 pt2) pos) (tS T Wx (fPar [i, j, l] fes)) := by
  have h0 := h
  unfold parOk3 isLo at h0
  simp only [Bool.and_eq_true, decide_eq_true_eq, Bool.not_eq_true', beq_eq_false_iff_ne] at h0
  obtain ⟨⟨⟨⟨⟨⟨⟨⟨⟨⟨hx, hy⟩, hz⟩, hl1⟩, hl2⟩, n1⟩, n2⟩, n3⟩, hs⟩, hf⟩, hcc⟩ := h0
  have ne : ∀ {i j : Nat} {x y : Str}, X.N[i]? = some x → X.N[j]? = some y → x ≠ y → i ≠ j := fun hi hj n e => by
    subst e
    rw [hi] at hj
    exact n (Option.some.inj hj)
  refine PS_imp (ps_par3 hc hN hi hj hl (ne hi hj n1) (ne hi hl n2) (ne hj hl n3) hx hy hz ha (swapped3 hk h) rfl) fun D σ H q => ?_
  refine rd_mono (st_read (rel := rWs T) (k := fun ρ ws s => match setWs ρ [i, j, l] ws with | some ρ => .ok (.nx, ρ) s | none => .no) q) fun vs H1 ⟨B, G, α, ρ, s, ws, r, S, E, P⟩ => ?_
  cases r with
  | nil => exact P.elim
  | cons r1 r =>
    cases r with
    | nil => exact P.elim
    | cons r2 r =>
      cases r with
      | nil => exact P.elim
      | cons r3 r =>
        cases r with
        | nil => exact ⟨_, _, _, rfl, P G α H1 _ Ext.refl' S (((E.set i r1).set j r2).set l r3)⟩
        | cons r4 r => exact P.elim
end
end DM

set_option maxRecDepth 100000
/-! DM11: expressions are read as the machine runs them. -/
namespace DM
open PySem PySem.Spec PyProof.Rows L2
structure Okk (X : Cx) (c : CC) (T : Tab) (k : Nat) (Wx : WX) (Φ : Phi) : Prop where
  C : Cold X T (k + 1) Wx
  ok : TabOk T
  Sd : SndX X T k Φ
  N : X.N = c.N
  sc : X.env.scope = c.sc
  kd : c.sc.kind = .function
  fn : X.fn = c.own
  gn : ∀ i x, c.fns[i]? = some x → T.gn i = x
  cn : ∀ i x, c.cls[i]? = some x → T.cn i = x
  mn : ∀ i x, c.mns[i]? = some x → T.mn i = x
  fl : ∀ i x, c.fls[i]? = some x → T.fn i = x
  blt : ∀ x, c.blt.contains x = true → X.mg x = none
  gl : ∀ x d, c.gl.lookup x = some d → ∃ u v, X.mg x = some u ∧ RelV v u ∧ ∀ G, Dp T.K G v d
section
variable {X : Cx} {c : CC} {T : Tab} {k : Nat} {Wx : WX} {Φ : Phi}
theorem Cold.mono {j : Nat} (C : Cold X T k Wx) (h : j ≤ k) : Cold X T j Wx := ⟨C.hP, C.hw, C.hK, C.calm, C.room.mono h, C.tk, C.hN⟩
theorem Okk.gl_ok (O : Okk X c T k Wx Φ) {x : Str} (h : isG c.sc x = true) : Gl X x ∧ (x == ("__debug__" : Str)) = false := by
  obtain ⟨h1, h2⟩ := isG_ok h
  exact ⟨by show X.env.scope.names.lookup x = _; rw [O.sc]; exact h1, h2⟩
theorem Okk.blk (O : Okk X c T k Wx Φ) (s : Shared) (H : Hp) (C : Addr) (cl : List (Str × Addr)) (fp : List Addr) (scope : Scope) (hs : scope.kind = .function) : Okk (X.blk s H scope (compEnvC scope cl C X.env) fp) (blkCC c scope) T k W0 Φ := by
  refine ⟨⟨O.C.hP, O.C.hw, O.C.hK, O.C.calm, O.C.room, fun u s' x => ?_, O.C.hN⟩, O.ok, O.Sd, O.N, ?_, hs, rfl, O.gn, O.cn, O.mn, O.fl, O.blt, O.gl⟩
  · obtain ⟨a, B, sI, pins, σ, H, cls, d, e, I, nb, up, sky, na, os, ag, w⟩ := x
    exact w
  · show relS scope X.env.scope = relS scope c.sc
    rw [O.sc]
variable {g : Expr → E} {h : Expr → F}
/-- values, tests, new lists -/
structure Rd (X : Cx) (T : Tab) (Wx : WX) (Φ : Phi) (g : Expr → E) (h : Expr → F) : Prop where
  e : ∀ e, PE X e (tE T Wx (runE Φ (g e)))
  t : ∀ e, isIte e = false → PT X e (tT T Wx (fT (runE Φ (g e))))
  f : ∀ e, PE X e (tF T Wx (runF Φ (h e)))
theorem runE_no : runE Φ .no = fun _ _ => .no := rfl
theorem d_noE {e : Expr} : PE X e (tE T Wx (runE Φ .no)) := d_no
theorem d_noF {e : Expr} : PE X e (tF T Wx (runF Φ fno)) := ⟨fun pins s σ H Q I ⟨B, G, α, ρ, s', S, E, P⟩ => P.elim⟩
theorem d_noT {e : Expr} : PT X e (tT T Wx (fT (runE Φ .no))) := ⟨fun pins s σ H Q I ⟨B, G, α, ρ, s', S, E, P⟩ => P.elim⟩
theorem Rd.ntT (R : Rd X T Wx Φ g h) (e : Expr) : PT X e (tT T Wx (fT (runE Φ (DM.nt g e)))) := by
  unfold DM.nt
  by_cases hi : isIte e = true
  · rw [if_pos hi]; exact d_noT
  · rw [if_neg hi]; exact R.t e (by simpa using hi)
theorem Rd.ntE (R : Rd X T Wx Φ g h) (e : Expr) : PE X e (tE T Wx (runE Φ (DM.nt g e))) := by
  unfold DM.nt
  by_cases hi : isIte e = true
  · rw [if_pos hi]; exact d_noE
  · rw [if_neg hi]; exact R.e e
theorem es_ok (R : Rd X T Wx Φ g h) : ∀ {es : List Expr}, noStar es = true → PA X es (tA T Wx (runEs Φ (esOf g es)))
  | [], _ => d_nil
  | e :: es, hs => d_cons (R.e e) (es_ok R (noStar_cons hs).2) (star_cons (noStar_cons hs).1)
theorem es_okA {g : Expr → E} (R : ∀ e, PE X e (tE T Wx (runE Φ (g e)))) : ∀ {es : List Expr}, noStar es = true → PA X es (tA T Wx (runEs Φ (esOf g es)))
  | [], _ => d_nil
  | e :: es, hs => d_cons (R e) (es_okA R (noStar_cons hs).2) (star_cons (noStar_cons hs).1)
theorem arg_ok (R : Rd X T Wx Φ g h) (e : Expr) : PE X e (tE T Wx (runE Φ (argE c g e))) := by
  unfold argE
  split
  · split
    · exact d_frz (R.e _)
    · exact R.e _
  · exact R.e _
theorem es_nil {es : List Expr} (e : es = []) : runEs Φ (esOf g es) = fun _ s => .ok [] s := by subst e; rfl
theorem par_ok (R : Rd X T Wx Φ g h) : ∀ e : Option Expr, PO X e (tO T Wx (runO Φ (parE g e)))
  | none => d_noPart
  | some e => d_part (R.e e)
theorem name_ok (O : Okk X c T k Wx Φ) {x : Str} {pos : Pos} : PE X (.Name x pos) (tE T Wx (runE Φ (nameE c x))) := by
  unfold nameE
  by_cases hv : isVis c.sc x = true
  · rw [if_pos hv]
    by_cases hd : ((x == ("__debug__" : Str)) || (x == ("__classdict__" : Str))) = true
    · rw [if_pos hd]; exact d_noE
    · rw [if_neg hd]
      have hd : (x == ("__debug__" : Str)) = false ∧ (x == ("__classdict__" : Str)) = false := by simpa using hd
      cases e : ixOf x c.N with
      | none => exact d_noE
      | some i => exact d_var (by rw [O.N]; exact ixOf_some e) (by rw [O.sc]; exact isVis_ok hv) hd.1 hd.2
  · rw [if_neg hv]
    by_cases hg : isG c.sc x = true
    · rw [if_pos hg]
      cases e : c.gl.lookup x with
      | none => exact d_noE
      | some d =>
        obtain ⟨u, v, h1, h2, h3⟩ := O.gl _ _ e
        exact d_cst (pe_glob (O.gl_ok hg).1 h1 h2 (O.gl_ok hg).2) h3
    · rw [if_neg hg]; exact d_noE
theorem const_ok {v : Const} {j : Nat} {pos : Pos} : PE X (.Constant v j pos) (tE T Wx (runE Φ (constE v))) := by
  cases v with
  | none => exact d_cst pe_non fun G => .non
  | bool b => exact d_cst pe_bl fun G => .bl b
  | int i => exact d_cst pe_int fun G => .int i
  | str x => exact d_cst pe_str fun G => .str x
  | _ => exact d_noE
theorem bin_ok (O : Okk X c T k Wx Φ) (R : Rd X T Wx Φ g h) {a b : Expr} {op : Operator} {pos : Pos} : PE X (.BinOp a op b pos) (tE T Wx (runE Φ (binE c g h a op b (.BinOp a op b pos)))) := by
  unfold binE
  have go : ∀ k', opK op = some k' → PE X (.BinOp a op b pos) (tE T Wx (runE Φ (.bin k' (g a) (g b)))) := fun k' e => by
    obtain rfl := opK_ok e
    exact d_bin O.C.hK k' (R.e a) (R.e b)
  cases e : opK op with
  | none => exact d_noE
  | some k' =>
    cases k' with
    | mul =>
      show PE X _ (tE T Wx (runE Φ (if isLx c 9 a = true then _ else _)))
      by_cases hl : isLx c 9 a = true
      · rw [if_pos hl]; exact d_fr (R.f _)
      · rw [if_neg hl]; exact go _ e
    | _ => exact go _ e
theorem and_ok (R : Rd X T Wx Φ g h) {pos : Pos} : ∀ es, PE X (.BoolOp .And es pos) (tE T Wx (runE Φ (andE g es)))
  | [] => d_noE
  | [a] => ⟨fun pins s σ H Q I q => (R.ntE a).run pins s σ H Q I q⟩
  | a :: b :: r => d_and (R.ntE a) (and_ok R (b :: r))
theorem or_ok (R : Rd X T Wx Φ g h) {pos : Pos} : ∀ es, PE X (.BoolOp .Or es pos) (tE T Wx (runE Φ (orE g es)))
  | [] => d_noE
  | [a] => ⟨fun pins s σ H Q I q => (R.ntE a).run pins s σ H Q I q⟩
  | a :: b :: r => d_or (R.ntE a) (or_ok R (b :: r))
theorem d_noW {e : Expr} : PW X e (tT T Wx (fT (runE Φ .no))) := ⟨fun whole pins s σ H Q I ⟨B, G, α, ρ, s', S, E, P⟩ => P.elim⟩
theorem andT_ok (R : Rd X T Wx Φ g h) {pos : Pos} : ∀ es, PW X (.BoolOp .And es pos) (tT T Wx (fT (runE Φ (andE g es))))
  | [] => d_noW
  | [a] => pw_and1 (R.ntT a)
  | a :: b :: r => d_andT (q := a) (R.ntT a) (andT_ok R (b :: r))
theorem orT_ok (R : Rd X T Wx Φ g h) {pos : Pos} : ∀ es, PW X (.BoolOp .Or es pos) (tT T Wx (fT (runE Φ (orE g es))))
  | [] => d_noW
  | [a] => pw_or1 (R.ntT a)
  | a :: b :: r => d_orT (R.ntT a) (orT_ok R (b :: r))
theorem cmp_ok (O : Okk X c T k Wx Φ) (R : Rd X T Wx Φ g h) {a : Expr} {ops : List CmpOp} {es : List Expr} {pos : Pos} : PE X (.Compare a ops es pos) (tE T Wx (runE Φ (cmpE c g a ops es))) := by
  unfold cmpE
  split
  · rename_i o b
    by_cases hd : isDx c b = true
    · rw [if_pos hd]
      have hset : isSet b = false := by cases b <;> first | rfl | cases hd
      cases o with
      | In => exact d_din O.C (R.e a) (R.e b) (behind_ok hset)
      | NotIn => exact d_dnotin O.C (R.e a) (R.e b) (behind_ok hset)
      | _ => exact d_noE
    rw [if_neg hd]
    cases e : cmpKk o with
    | none => exact d_noE
    | some k' =>
      obtain rfl := cmpKk_ok e
      simp only
      by_cases hs : isSet b = true
      · rw [if_pos hs]; exact d_noE
      · rw [if_neg hs]; exact d_cmp O.C.hK O.C.hu5 k' (R.e a) (R.e b) (behind_ok (by simpa using hs))
  · rename_i o o' b d
    split
    · rename_i k1 k2 e1 e2
      obtain rfl := cmpKk_ok e1
      obtain rfl := cmpKk_ok e2
      by_cases hs : isSet d = true
      · rw [if_pos hs]; exact d_noE
      · rw [if_neg hs]; exact d_chain O.C.hK O.C.hu5 k1 k2 (R.e a) (R.e b) (R.e d) (behind_ok (by simpa using hs))
    · exact d_noE
  · exact d_noE
theorem cmpT_ok (O : Okk X c T k Wx Φ) (R : Rd X T Wx Φ g h) {a : Expr} {ops : List CmpOp} {es : List Expr} {pos : Pos} : PT X (.Compare a ops es pos) (tT T Wx (fT (runE Φ (cmpE c g a ops es)))) := by
  unfold cmpE
  split
  · rename_i o b
    by_cases hd : isDx c b = true
    · rw [if_pos hd]
      have hset : isSet b = false := by cases b <;> first | rfl | cases hd
      cases o with
      | In => exact d_dinT O.C (R.e a) (R.e b) (behind_ok hset)
      | NotIn => exact d_dnotinT O.C (R.e a) (R.e b) (behind_ok hset)
      | _ => exact d_noT
    rw [if_neg hd]
    cases e : cmpKk o with
    | none => exact d_noT
    | some k' =>
      obtain rfl := cmpKk_ok e
      simp only
      by_cases hs : isSet b = true
      · rw [if_pos hs]; exact d_noT
      · rw [if_neg hs]; exact d_cmpT O.C.hK O.C.hu5 k' (R.e a) (R.e b) (behind_ok (by simpa using hs))
  · rename_i o o' b d
    split
    · rename_i k1 k2 e1 e2
      obtain rfl := cmpKk_ok e1
      obtain rfl := cmpKk_ok e2
      by_cases hs : isSet d = true
      · rw [if_pos hs]; exact d_noT
      · rw [if_neg hs]; exact d_chainT O.C.hK O.C.hu5 k1 k2 (R.e a) (R.e b) (R.e d) (behind_ok (by simpa using hs))
    · exact d_noT
  · exact d_noT
theorem ty_ok (O : Okk X c T k Wx Φ) {y : Str} {t : TyK} {pos : Pos} (e : tyK y = some t) (hg : isG c.sc y = true) (hb : c.blt.contains y = true) : PE X (.Name y pos) (tC (.ty (tyS t))) := by
  have hy := tyK_ok e
  have hn : y ≠ "__name__" := by subst hy; cases t <;> decide
  exact pe_bltn (O.gl_ok hg).1 (O.blt _ hb) (by rw [hy]; exact boot_ty t) rfl hn (O.gl_ok hg).2
theorem call_ok (O : Okk X c T k Wx Φ) (R : Rd X T Wx Φ g h) {x : Str} {p pos : Pos} {args : List Expr} : PE X (.Call (.Name x p) args [] pos) (tE T Wx (runE Φ (callE c g h x args (.Call (.Name x p) args [] pos)))) := by
  unfold callE
  by_cases hg : (isG c.sc x && noStar args) = true
  · rw [if_pos hg]
    rw [Bool.and_eq_true] at hg
    obtain ⟨hgl, hst⟩ := hg
    cases e : ixOf x c.fns with
    | some i =>
      have hx := O.gn _ _ (ixOf_some e)
      subst hx
      exact d_call (O.C.mono (Nat.le_succ k)) O.Sd (O.gl_ok hgl).1 (O.gl_ok hgl).2 (es_okA (arg_ok R) hst) es_nil (starOk hst)
    | none =>
      simp only
      cases e2 : ixOf x c.cls with
      | some i =>
        have hx := O.cn _ _ (ixOf_some e2)
        subst hx
        cases args with
        | nil => exact d_noE
        | cons a r => exact d_mk O.C O.Sd (O.gl_ok hgl).1 (O.gl_ok hgl).2 (es_okA (arg_ok R) hst) (starOk hst)
      | none =>
        simp only
        by_cases hb : c.blt.contains x = true
        · rw [if_pos hb]
          split
          · exact d_noE
          · rename_i a
            have h1 := star_cons (es := []) (env := X.env) (noStar_cons hst).1
            split
            · subst_vars; exact d_len O.C.hK (O.gl_ok hgl).1 (O.blt _ hb) (es_ok R hst) h1 rfl
            · split
              · subst_vars; exact d_int (O.gl_ok hgl).1 (O.blt _ hb) (es_ok R hst) h1 rfl
              · split
                · subst_vars; exact d_tupOf O.C.hK (O.gl_ok hgl).1 (O.blt _ hb) (R.e a) h1
                · split
                  · subst_vars; exact d_fr (R.f _)
                  · split
                    · subst_vars; exact d_sum O.C.calm O.C.hK (O.gl_ok hgl).1 (O.blt _ hb) (es_ok R hst) h1 rfl
                    · split
                      · subst_vars; exact d_maxl O.C.calm O.C.hu O.C.hK (O.gl_ok hgl).1 (O.blt _ hb) (es_ok R hst) h1 rfl
                      · split
                        · split
                          · subst_vars; exact d_dcopy O.C (O.gl_ok hgl).1 (O.blt _ hb) (R.e a) h1
                          · exact d_noE
                        · exact d_noE
          · rename_i a b
            have h1 := star_cons (es := [b]) (env := X.env) (noStar_cons hst).1
            have h2 := star_cons (es := []) (env := X.env) (noStar_cons (noStar_cons hst).2).1
            split
            · subst_vars; exact d_max2 O.C.calm (O.gl_ok hgl).1 (O.blt _ hb) (es_ok R hst) h1 (back_any (noStar_cons hst).2)
            · split
              · subst_vars; exact d_min2 O.C.calm (O.gl_ok hgl).1 (O.blt _ hb) (es_ok R hst) h1 (back_any (noStar_cons hst).2)
              · split
                · subst_vars
                  split
                  · rename_i y p2
                    split
                    · rename_i t et
                      split
                      · rename_i hh
                        rw [Bool.and_eq_true] at hh
                        exact d_isi O.C.hK t (O.gl_ok hgl).1 (O.blt _ hb) (R.e a) (ty_ok O et hh.1 hh.2) h1 h2 (back_any (noStar_cons hst).2)
                      · exact d_noE
                    · exact d_noE
                  · exact d_noE
                · exact d_noE
          · exact d_noE
        · rw [if_neg hb]; exact d_noE
  · rw [if_neg hg]; exact d_noE
theorem clsE_ok (O : Okk X c T k Wx Φ) {o : Expr} {i : Nat} (h : clsE c o = some i) : ∃ p, o = .Name (T.cn i) p ∧ Gl X (T.cn i) ∧ (T.cn i == ("__debug__" : Str)) = false := by
  unfold clsE at h
  split at h
  · rename_i x p
    split at h
    · rename_i hg
      have hx := O.cn _ _ (ixOf_some h)
      subst hx
      exact ⟨p, rfl, O.gl_ok hg⟩
    · cases h
  · cases h
theorem m2_ok {o b z : Expr} {apos pos : Pos} (h1 : noStar [b, z] = true) (h2 : supC o = false) (h4 : (apos.endLine == pos.line) = true) : M2 X o "get" apos b z pos := by
  have e1 := star_cons (es := [z]) (env := X.env) (noStar_cons h1).1
  have e2 := star_cons (es := []) (env := X.env) (noStar_cons (noStar_cons h1).2).1
  have et : backTo pos (starEach [b, z] X.env) = [(false, eval b X.env), (false, eval z X.env)] := by rw [e1, e2]; rfl
  exact ⟨base_ok h2, by rw [et]; rfl, h4, et⟩
theorem meth_ok (O : Okk X c T k Wx Φ) (R : Rd X T Wx Φ g h) {o : Expr} {m : Str} {apos pos : Pos} {args : List Expr} : PE X (.Call (.Attribute o m apos) args [] pos) (tE T Wx (runE Φ (methE c g o m apos pos args))) := by
  unfold methE
  split
  · rename_i hh
    simp only [Bool.and_eq_true, decide_eq_true_eq, Bool.not_eq_true'] at hh
    obtain ⟨⟨⟨h1, h2⟩, h3⟩, h4⟩ := hh
    split
    · rename_i i ec
      split
      · exact d_noE
      · rename_i b r
        split
        · rename_i j e
          obtain ⟨p, rfl, hgl, hdb⟩ := clsE_ok O ec
          have hx := O.mn _ _ (ixOf_some e)
          subst hx
          exact d_cls (O.C.mono (Nat.le_succ k)) O.Sd hgl hdb (es_ok R h1) (starOk h1) (meth_form h2 h1 h3 h4)
        · exact d_noE
    split
    · subst_vars
      split
      · rename_i b
        exact d_app O.C.hK (R.e o) (R.e b) (base_ok h2) h4 (star_cons (noStar_cons h1).1)
      · exact d_noE
    split
    · subst_vars
      split
      · exact d_pop O.C.hK (R.e o) (base_ok h2) h4
      · exact d_noE
    split
    · subst_vars
      split
      · rename_i b z
        split
        · exact d_dgetD O.C (R.e o) (R.e b) (R.e z) (m2_ok h1 h2 h4)
        · exact d_noE
      · exact d_noE
    split
    · subst_vars
      split
      · exact d_clr O.C.hK (R.e o) (base_ok h2) h4
      · exact d_noE
    · split
      · rename_i i e
        have hx := O.mn _ _ (ixOf_some e)
        subst hx
        exact d_meth (O.C.mono (Nat.le_succ k)) O.ok O.Sd (R.e o) (es_ok R h1) es_nil (starOk h1) (meth_form h2 h1 h3 h4)
      · exact d_noE
  · exact d_noE
theorem noSl {b : Expr} (h : isSlice b = false) : NoSl b := by
  intro o i
  cases b <;> first | rfl | cases h
theorem sub_ok (O : Okk X c T k Wx Φ) (R : Rd X T Wx Φ g h) {a b : Expr} {pos : Pos} : PE X (.Subscript a b pos) (tE T Wx (runE Φ (subE c g a b))) := by
  unfold subE
  split
  · exact d_slc O.C.hK (R.e a) (par_ok R _) (par_ok R _)
  · exact d_noE
  · rename_i hn1 hn2
    have hsl : isSlice b = false := by
      cases b <;> first | rfl | skip
      rename_i lo hi st p
      exact absurd rfl (hn2 _ _ _ _)
    split
    · exact d_dget O.C (R.e a) (R.e b) (noSl hsl)
    · exact d_idx O.C.hK (R.e a) (R.e b) (plainIx hsl)
theorem lst_ok (O : Okk X c T k Wx Φ) (R : Rd X T Wx Φ g h) {a : Expr} {p pos : Pos} (hg : Gl X "list") (hm : X.mg "list" = none) (hs : starEach [a] X.env = (false, eval a X.env) :: starEach [] X.env) : PE X (.Call (.Name "list" p) [a] [] pos) (tF T Wx (runF Φ (lstF c g a))) := by
  unfold lstF
  split
  · rename_i y p2 b q
    split
    · rename_i hh
      simp only [Bool.and_eq_true, decide_eq_true_eq, Bool.not_eq_true'] at hh
      obtain ⟨⟨⟨rfl, h1⟩, h2⟩, h3⟩ := hh
      exact d_lrng O.C.calm hg hm (O.gl_ok h1).1 (O.blt _ h2) (R.e b) (star_cons h3) hs
    · exact d_list O.C.hK hg hm (R.e _) hs
  · exact d_list O.C.hK hg hm (R.e _) hs
theorem iter_ok (O : Okk X c T k Wx Φ) (R : Rd X T Wx Φ g h) {e tg : Expr} : PI X tg e (tI T Wx (runI Φ (iterE c g e))) := by
  unfold iterE
  split
  · split
    · rename_i x p a p2 hh
      simp only [Bool.and_eq_true, decide_eq_true_eq, Bool.not_eq_true'] at hh
      obtain ⟨⟨⟨rfl, h1⟩, h2⟩, h3⟩ := hh
      exact d_rng1 (O.gl_ok h1).1 (O.blt _ h2) (R.e a) (star_cons h3)
    · exact d_seq O.C.hK (R.e _)
  · split
    · rename_i x p a b p2 hh
      simp only [Bool.and_eq_true, decide_eq_true_eq, Bool.not_eq_true'] at hh
      obtain ⟨⟨⟨⟨rfl, h1⟩, h2⟩, h3⟩, h4⟩ := hh
      have e2 : starEach [b] X.env = [(false, eval b X.env)] := star_cons h4
      exact d_rng2 (O.gl_ok h1).1 (O.blt _ h2) (R.e a) (R.e b) (by rw [star_cons h3, e2]) e2
    · exact d_seq O.C.hK (R.e _)
  · split
    · rename_i x p a b d p2 hh
      simp only [Bool.and_eq_true, decide_eq_true_eq] at hh
      obtain ⟨⟨⟨rfl, h1⟩, h2⟩, h3⟩ := hh
      obtain ⟨n1, n2⟩ := noStar_cons h3
      obtain ⟨n3, n4⟩ := noStar_cons n2
      exact d_rng3 (O.gl_ok h1).1 (O.blt _ h2) (R.e a) (R.e b) (R.e d) (star_cons n1) (star_cons n3) (star_cons (noStar_cons n4).1) (back_any n2)
    · exact d_seq O.C.hK (R.e _)
  · exact d_seq O.C.hK (R.e _)
/-! ### in a handler -/
theorem hot1_ok (O : Okk X c T k Wx Φ) (a : Addr) (pn : List (Addr × Obj)) (e : Expr) : PE (X.suite a pn) e (tE T W0 (runE Φ (hot1 c e))) := by
  unfold hot1
  split
  · rename_i x p
    unfold nameE
    by_cases hv : isVis c.sc x = true
    · rw [if_pos hv]
      by_cases hd : ((x == ("__debug__" : Str)) || (x == ("__classdict__" : Str))) = true
      · rw [if_pos hd]; exact d_noE
      · rw [if_neg hd]
        have hd : (x == ("__debug__" : Str)) = false ∧ (x == ("__classdict__" : Str)) = false := by simpa using hd
        cases e : ixOf x c.N with
        | none => exact d_noE
        | some i => exact d_var (X := X.suite a pn) (by show X.N[i]? = _; rw [O.N]; exact ixOf_some e) (by show Vis X.env.scope x; rw [O.sc]; exact isVis_ok hv) hd.1 hd.2
    · rw [if_neg hv]
      by_cases hg : isG c.sc x = true
      · rw [if_pos hg]
        cases e : c.gl.lookup x with
        | none => exact d_noE
        | some d =>
          obtain ⟨u, v, h1, h2, h3⟩ := O.gl _ _ e
          exact d_cst (pe_glob (X := X.suite a pn) (O.gl_ok hg).1 h1 h2 (O.gl_ok hg).2) h3
      · rw [if_neg hg]; exact d_noE
  · exact const_ok
  · exact d_fr (d_lst d_nil)
  · exact d_noE
theorem hot_ok (O : Okk X c T k Wx Φ) (a : Addr) (pn : List (Addr × Obj)) (e : Expr) : PE (X.suite a pn) e (tE T W0 (runE Φ (hotE c e))) := by
  unfold hotE
  split
  · rename_i x o y p
    cases e : cmpKk o with
    | none => exact d_noE
    | some k' =>
      obtain rfl := cmpKk_ok e
      simp only
      by_cases hs : isSet y = true
      · rw [if_pos hs]; exact d_noE
      · rw [if_neg hs]; exact d_cmp (X := X.suite a pn) O.C.hK O.C.hu5 k' (hot1_ok O a pn x) (hot1_ok O a pn y) (behind_ok (by simpa using hs))
  · exact hot1_ok O a pn _
/-! ### .. with the exception's name -/
section
variable {n : Str} {j : Nat} {a : Addr} {oe : Obj} {cls : Value} {d : Option Addr} {pn : List (Addr × Obj)} {x : Xc}
theorem hAnd_ok {g : Expr → HE} (hg : ∀ e, PE (X.suite a ((a, oe) :: pn)) e (th T j a x cls d (runH Φ x (g e)))) {pos : Pos} : ∀ es, PE (X.suite a ((a, oe) :: pn)) (.BoolOp .And es pos) (th T j a x cls d (runH Φ x (hAnd g es)))
  | [] => h_no
  | [e] => pe_one (hg e)
  | e :: b :: r => h_and (hg e) (hAnd_ok hg (b :: r))
theorem hOr_ok {g : Expr → HE} (hg : ∀ e, PE (X.suite a ((a, oe) :: pn)) e (th T j a x cls d (runH Φ x (g e)))) {pos : Pos} : ∀ es, PE (X.suite a ((a, oe) :: pn)) (.BoolOp .Or es pos) (th T j a x cls d (runH Φ x (hOr g es)))
  | [] => h_no
  | [e] => pe_one (hg e)
  | e :: b :: r => h_or (hg e) (hOr_ok hg (b :: r))
theorem h_noH {e : Expr} : PE (X.suite a ((a, oe) :: pn)) e (th T j a x cls d (runH Φ x .no)) := h_no
theorem hCall_ok (O : Okk X c T k Wx Φ) (H : HCx X T k Φ.hx j n a oe cls d) {g : Str} {q pos : Pos} (args : List Expr) : PE (X.suite a ((a, oe) :: pn)) (.Call (.Name g q) args [] pos) (th T j a x cls d (runH Φ x (hCall c n g args))) := by
  unfold hCall
  split
  · rename_i y q2 w
    split
    · rename_i hh
      simp only [Bool.and_eq_true, decide_eq_true_eq, Bool.not_eq_true'] at hh
      obtain ⟨⟨rfl, hg⟩, hs⟩ := hh
      split
      · rename_i i e
        have hx := O.gn _ _ (ixOf_some e)
        subst hx
        exact h_is H (O.gl_ok hg).1 (O.gl_ok hg).2 (hot1_ok O a _ w) hs
      · exact h_noH
    · exact h_noH
  · rename_i y q2 f q3
    split
    · rename_i hh
      simp only [Bool.and_eq_true, decide_eq_true_eq] at hh
      obtain ⟨rfl, hg⟩ := hh
      split
      · rename_i i l e e2
        have hx := O.gn _ _ (ixOf_some e)
        subst hx
        have hf := O.fl _ _ (ixOf_some e2)
        subst hf
        exact h_whole H (O.gl_ok hg).1 (O.gl_ok hg).2
      · exact h_noH
    · exact h_noH
  · rename_i y q2 f q3 t q4
    split
    · rename_i hh
      simp only [Bool.and_eq_true, decide_eq_true_eq] at hh
      obtain ⟨⟨⟨⟨⟨⟨rfl, rfl⟩, rfl⟩, hg⟩, ht⟩, b1⟩, b2⟩ := hh
      split
      · rename_i l e2
        have hf := O.fl _ _ (ixOf_some e2)
        subst hf
        exact h_isStr H (O.gl_ok hg).1 (O.blt _ b1) (O.gl_ok ht).1 (O.blt _ b2)
      · exact h_noH
    · exact h_noH
  · exact h_noH
theorem hCmp_ok (O : Okk X c T k Wx Φ) (H : HCx X T k Φ.hx j n a oe cls d) {l : Expr} {o : CmpOp} {b : Expr} {pos : Pos} : PE (X.suite a ((a, oe) :: pn)) (.Compare l [o] [b] pos) (th T j a x cls d (runH Φ x (hCmp c n l o b (.Compare l [o] [b] pos)))) := by
  unfold hCmp
  split
  · rename_i y q2 f q3
    split
    · rename_i hh
      obtain rfl := of_decide_eq_true hh
      split
      · rename_i k' l e e2
        obtain rfl := cmpKk_ok e
        have hf := O.fl _ _ (ixOf_some e2)
        subst hf
        split
        · exact h_noH
        · rename_i hs
          exact h_cmpF H k' (hot1_ok O a _ b) (behind_ok (by simpa using hs))
      · exact h_noH
    · exact h_p (hot_ok O a _ _)
  · exact h_p (hot_ok O a _ _)
theorem hanE_ok (O : Okk X c T k Wx Φ) (H : HCx X T k Φ.hx j n a oe cls d) : ∀ (m : Nat) (e : Expr), PE (X.suite a ((a, oe) :: pn)) e (th T j a x cls d (runH Φ x (hanE c n m e)))
  | 0, e => h_noH
  | m + 1, e => by
    unfold hanE
    split
    · exact hAnd_ok (hanE_ok O H m) _
    · exact hOr_ok (hanE_ok O H m) _
    · exact hCall_ok O H _
    · exact hCmp_ok O H
    · exact h_p (hot_ok O a _ _)
end
end
end DM

set_option maxRecDepth 100000
/-! DM12: comprehensions; all expressions. -/
namespace DM
open PySem PySem.Spec PyProof.Rows L2
section
variable {X : Cx} {c : CC} {T : Tab} {k : Nat} {Wx : WX} {Φ : Phi}
theorem tgN_ok (O : Okk X c T k Wx Φ) {x : Str} {i : Nat} {pos : Pos} (e : tgN c x = some i) : PG X (.Name x pos) (gName i) := by
  unfold tgN at e
  split at e
  · rename_i hh
    simp only [Bool.and_eq_true, Bool.or_eq_true, decide_eq_true_eq] at hh
    refine pg_name O.C.hN (by rw [O.N]; exact ixOf_some e) (by rw [O.sc]; exact isLoc_ok hh.1) ?_
    rw [O.sc, O.fn]
    exact hh.2
  · cases e
theorem tgNs_ok (O : Okk X c T k Wx Φ) : ∀ {es : List Expr} {is : List Nat}, tgNs c es = some is → PGs X es (gAll is) ∧ (assignEach es X.env).length = is.length ∧ (assignEach es X.env).findIdx? (·.1) = none
  | [], is, e => by cases e; exact ⟨pgs_nil, rfl, rfl⟩
  | a :: r, is, e => by
    cases a <;> first | (cases e; done) | skip
    rename_i x p
    simp only [tgNs] at e
    split at e
    · rename_i i is' e1 e2
      cases e
      obtain ⟨h1, h2, h3⟩ := tgNs_ok O e2
      have eq : assignEach (.Name x p :: r) X.env = (false, assign (.Name x p) X.env) :: assignEach r X.env := rfl
      refine ⟨pgs_cons (tgN_ok O e1) h1, ?_, ?_⟩
      · rw [eq]; simp [h2]
      · rw [eq, List.findIdx?_cons]; simp [h3]
    · cases e
theorem tg_ok (O : Okk X c T k Wx Φ) {e : Expr} {t : Tg} (h : tgOf c e = some t) : PG X e (gT T.K t) := by
  unfold tgOf at h
  split at h
  · rename_i x p
    cases q : tgN c x with
    | none => rw [q] at h; cases h
    | some i => rw [q] at h; cases h; exact tgN_ok O q
  · rename_i es j p
    cases q : tgNs c es with
    | none => rw [q] at h; cases h
    | some is =>
      rw [q] at h; cases h
      obtain ⟨h1, h2, h3⟩ := tgNs_ok O q
      rw [← O.C.hK]
      exact pg_tup O.C.calm h1 h2 h3
  · cases h
/-- everything read -/
def RdAll (T : Tab) (k : Nat) (Φ : Phi) (g : CC → Expr → E) (h : CC → Expr → F) : Prop := ∀ (X : Cx) (c : CC) (Wx : WX), Okk X c T k Wx Φ → Rd X T Wx Φ (g c) (h c)
theorem ifs_ok {g : Expr → E} {h : Expr → F} (R : Rd X T Wx Φ g h) : ∀ ifs : List Expr, PTs X ifs (tT T Wx (runC Φ (ifsE g ifs)))
  | [] => ⟨fun pins s σ H Q I q => by
      obtain ⟨B, G, α, ρ, s', S, E, P⟩ := q
      exact pts_nil.run pins s σ H Q I (P.now S rfl)⟩
  | [t] => pts_one (R.ntT t)
  | a :: b :: r => ⟨fun pins s σ H Q I ⟨B, G, α, ρ, s', S, E, P⟩ => P.elim⟩
variable {g : CC → Expr → E} {h : CC → Expr → F}
theorem comp_ok (A : RdAll T k Φ g h) (O : Okk X c T k Wx Φ) {elt tg iter : Expr} {ifs : List Expr} {scope : Scope} {pos : Pos} : PE X (.ListComp elt [⟨tg, iter, ifs, 0⟩] scope pos) (tF T Wx (runF Φ (compC g c elt tg iter ifs scope))) := by
  unfold compC
  split
  · rename_i t et
    split
    · rename_i hh
      simp only [Bool.and_eq_true, Bool.not_eq_true', List.all_eq_true, decide_eq_true_eq] at hh
      obtain ⟨⟨h1, h2⟩, h3⟩ := hh
      have bo := blkOk_by h1
      have ob := fun s H C cl fp => O.blk s H C cl fp scope bo.kind
      by_cases hdx : isDx c iter = true
      · rw [if_pos hdx]
        exact d_compD (fcnd := runC Φ (ifsE (g (blkCC c scope)) ifs)) (fe := runE Φ (g (blkCC c scope) elt)) (O.C.mono (Nat.le_refl _)) ((A _ _ _ O).e iter) (by rw [O.N, O.sc]; exact bo)
          (fun s H C cl fp => tg_ok (ob s H C cl fp) et) (fun s H C cl fp => ifs_ok (A _ _ _ (ob s H C cl fp)) ifs) (fun s H C cl fp => (A _ _ _ (ob s H C cl fp)).e elt) (folded_ok h2) h3
      rw [if_neg hdx]
      exact d_comp (fcnd := runC Φ (ifsE (g (blkCC c scope)) ifs)) (fe := runE Φ (g (blkCC c scope) elt)) O.C.calm O.C.hN (iter_ok O (A _ _ _ O)) (by rw [O.N, O.sc]; exact bo)
        (fun s H C cl fp => tg_ok (ob s H C cl fp) et) (fun s H C cl fp => ifs_ok (A _ _ _ (ob s H C cl fp)) ifs) (fun s H C cl fp => (A _ _ _ (ob s H C cl fp)).e elt) (folded_ok h2) h3
    · exact d_noF
  · exact d_noF
theorem compF_ok (A : RdAll T k Φ g h) (O : Okk X c T k Wx Φ) (e : Expr) : PE X e (tF T Wx (runF Φ (compF0 g h c e))) := by
  have R := A _ _ _ O
  unfold compF0
  split
  · split
    · rename_i hs; exact d_lst (es_ok R hs)
    · exact d_noF
  · exact comp_ok A O
  · split
    · rename_i x p args p2 hh
      rw [Bool.and_eq_true] at hh
      obtain ⟨hgl, hst⟩ := hh
      split
      · rename_i i e
        have hx := O.gn _ _ (ixOf_some e)
        subst hx
        exact d_callL (O.C.mono (Nat.le_succ k)) O.Sd (O.gl_ok hgl).1 (O.gl_ok hgl).2 (es_okA (arg_ok R) hst) es_nil (starOk hst)
      · split
        · rename_i a
          split
          · rename_i hh
            simp only [Bool.and_eq_true, decide_eq_true_eq] at hh
            obtain ⟨rfl, hb⟩ := hh
            exact lst_ok O R (O.gl_ok hgl).1 (O.blt _ hb) (star_cons (noStar_cons hst).1)
          · exact d_noF
        · exact d_noF
    · exact d_noF
  · split
    · rename_i o m apos args pos hh
      simp only [Bool.and_eq_true, decide_eq_true_eq, Bool.not_eq_true'] at hh
      obtain ⟨⟨⟨h1, h2⟩, h3⟩, h4⟩ := hh
      split
      · rename_i i e
        have hx := O.mn _ _ (ixOf_some e)
        subst hx
        exact d_methL (O.C.mono (Nat.le_succ k)) O.ok O.Sd (R.e o) (es_ok R h1) es_nil (starOk h1) (meth_form h2 h1 h3 h4)
      · exact d_noF
    · exact d_noF
  · exact d_sll O.C.hK (R.e _) (par_ok R _) (par_ok R _)
  · exact d_addL O.C.hK (R.e _) (R.e _)
  · exact d_mulL (R.f _) (R.e _)
  · exact d_noF
theorem compE_ok (A : RdAll T k Φ g h) (O : Okk X c T k Wx Φ) (e : Expr) : PE X e (tE T Wx (runE Φ (compE0 g h c e))) := by
  have R := A _ _ _ O
  unfold compE0
  split
  · exact name_ok O
  · exact const_ok
  · exact bin_ok O R
  · exact d_not (R.ntE _)
  · exact d_neg (R.e _)
  · exact and_ok R _
  · exact or_ok R _
  · exact d_ite (R.ntT _) (R.e _) (R.e _)
  · exact cmp_ok O R
  · exact call_ok O R
  · exact meth_ok O R
  · split
    · exact d_noE
    · rename_i o f p hs
      split
      · rename_i i e
        have hx := O.fl _ _ (ixOf_some e)
        subst hx
        exact d_fld O.C.hK O.ok (R.e o) (base_ok (by simpa using hs))
      · exact d_noE
  · exact sub_ok O R
  · split
    · rename_i hs; exact d_tup (es_ok R hs)
    · exact d_noE
  · exact d_dnew O.C false
  · exact d_dlit O.C (R.e _) (R.e _)
  · exact d_fr (R.f _)
  · exact d_fr (R.f _)
  · exact d_noE
theorem compT_ok (A : RdAll T k Φ g h) (O : Okk X c T k Wx Φ) (e : Expr) (hi : isIte e = false) : PT X e (tT T Wx (fT (runE Φ (compE0 g h c e)))) := by
  have R := A _ _ _ O
  have P := compE_ok A O e
  cases e with
  | IfExp t a b p => cases hi
  | BoolOp op es p =>
    cases op with
    | And => exact (andT_ok R es).pt
    | Or => exact (orT_ok R es).pt
  | UnaryOp op a p =>
    cases op with
    | Not => exact d_notT (R.ntT a)
    | _ => exact d_val P fun whole => rfl
  | Compare a ops es p => exact cmpT_ok O R
  | _ => exact d_val P fun whole => rfl
theorem comp_all : ∀ n, RdAll T k Φ (comp n).1 (comp n).2
  | 0 => fun X c Wx O => ⟨fun e => d_noE, fun e _ => d_noT, fun e => d_noF⟩
  | n + 1 => fun X c Wx O => ⟨compE_ok (comp_all n) O, compT_ok (comp_all n) O, compF_ok (comp_all n) O⟩
end
end DM

set_option maxRecDepth 100000
/-! DM13: statements. -/
namespace DM
open PySem PySem.Spec PyProof.Rows L2
def isComp : Expr → Bool
  | .ListComp .. => true
  | .SetComp .. => true
  | .DictComp .. => true
  | _ => false
theorem swaps_no {v : Expr} {t : Option Expr} {n : Nat} {env : PySem.Env} (h : isComp v = false) : swapsWith v t n env = pure false := by
  cases v <;> first | rfl | cases h
def isName : Expr → Bool
  | .Name .. => true
  | _ => false
theorem swaps_tg {v t : Expr} {n : Nat} {env : PySem.Env} (h : isName t = false) : swapsWith v (some t) n env = pure false := by
  cases v <;> cases t <;> first | rfl | cases h
/-- the store into a comprehension's own place -/
def swapB (sc : Scope) (x : Str) (py vp : Pos) (scope : Scope) : Bool := decide (sc.names.lookup x = some .local) && (py.line == vp.line) && !(scope.names.any fun (n, k) => n == x && (k == .local || k == .cell))
theorem swap_lc {elt : Expr} {gens : List Comprehension} {scope : Scope} {vp py : Pos} {x : Str} {n : Nat} {env : PySem.Env} (hk : env.scope.kind = .function) : swapsWith (.ListComp elt gens scope vp) (some (.Name x py)) n env = pure (swapB env.scope x py vp scope) := by
  have hb : env.blockKind = .function := by unfold Env.blockKind; rw [hk]; rfl
  show (pure (env.blockKind == .function && env.kindOf x == some .local && py.line == vp.line && !(scope.names.any fun (n, k) => n == x && (k == .local || k == .cell))) : Sem Bool) = _
  rw [hb]
  unfold swapB Env.kindOf
  congr 1
  congr 1
  congr 1
  simp only [beq_self_eq_true, Bool.true_and]
  by_cases h : env.scope.names.lookup x = some .local <;> simp [h]
/-- a call that may hand back a new list -/
def thcE (c : CC) (g : Expr → E) (v : Expr) : E := match v with
  | .Call (.Name x _) args [] _ => if isG c.sc x && noStar args then (match ixOf x c.fns with
    | some i => .thc i (esOf g args)
    | none => .no) else .no
  | .Call (.Attribute o m apos) args [] pos => if noStar args && !supC o && decide (args.length < 30) && (apos.endLine == pos.line) then (match ixOf m c.mns with
    | some i => .thm (g o) i (esOf g args)
    | none => .no) else .no
  | _ => .no
def isCall : Expr → Bool
  | .Call (.Name x _) _ _ _ => !decide (x = "list")
  | .Call .. => true
  | _ => false
/-- what is put under a name that may hold a cell -/
def putE (c : CC) (g : CC → Expr → E) (h : CC → Expr → F) (x : Str) (v : Expr) : E := if c.dcts.contains "?" && c.mu.contains x && isCall v then thcE c (g c) v else if c.mu.contains x && isFx c v then .th (h c v) else g c v
def retE (c : CC) (g : CC → Expr → E) (h : CC → Expr → F) (v : Expr) : E := match v with
  | .Call .. => if c.retF then .th (h c v) else g c v
  | v => if isFx c v then .th (h c v) else g c v
/-- .. under a field -/
def fldE (c : CC) (g : CC → Expr → E) (h : CC → Expr → F) (f : Str) (v : Expr) : E := if isNd f && isEmptyD v then .dnew true else putE c g h f v
def gE : CC → Expr → E := (comp 20).1
def hE : CC → Expr → F := (comp 20).2
def isTup : Expr → Bool
  | .Tuple .. => true
  | _ => false
/-- a, b = x, y -/
def parS (c : CC) (es : List Expr) (v : Expr) : S := match es, v with
  | [.Name x px, .Name y py], .Tuple [a, b] _ _ => if parOk2 c.sc x y px py a b then (match ixOf x c.N, ixOf y c.N with
    | some i, some j => .par [i, j] (.cons (putE c gE hE x a) (.cons (putE c gE hE y b) .nil))
    | _, _ => .no) else .no
  | [.Name x px, .Name y py, .Name z pz], .Tuple [a, b, d] _ _ => if parOk3 c.sc x y z px py pz a b d then (match ixOf x c.N, ixOf y c.N, ixOf z c.N with
    | some i, some j, some l => .par [i, j, l] (.cons (putE c gE hE x a) (.cons (putE c gE hE y b) (.cons (putE c gE hE z d) .nil)))
    | _, _, _ => .no) else .no
  | _, _ => .no
def asgE (c : CC) (t v : Expr) : S := match t with
  | .Name x py => match tgN c x with
    | some i => (match v with
      | .ListComp elt [⟨tg, iter, ifs, 0⟩] scope vp => if isDx c iter then .no else .asg (.n i) (if c.mu.contains x then .th (hE c v) else .fr (hE c v))
      | v => if isComp v then .no else .asg (.n i) (putE c gE hE x v))
    | none => .no
  | .Tuple es _ _ => if isTup v then parS c es v else if isComp v then .no else (match tgNs c es with | some is => .asg (.t is) (gE c v) | none => .no)
  | .Attribute o f _ => (match ixOf f c.fls with | some i => .setF (gE c o) i (fldE c gE hE f v) | none => .no)
  | .Subscript o i _ => if isSlice i then .no else if isDx c o then .setD (gE c o) (gE c i) (gE c v) else .setI (gE c o) (gE c i) (gE c v)
  | _ => .no
def compS0 (B : List Stmt → List S) (c : CC) (st : Stmt) : S := match st with
  | .Expr (.Constant (.str _) _ _) _ => .pass
  | .Expr e _ => if isComp e then .no else .ex (gE c e)
  | .Return none _ => .retN
  | .Return (some v) _ => .ret (retE c gE hE v)
  | .If t a b _ => .ite (nt (gE c) t) (B a) (B b)
  | .While t b [] _ => .while (nt (gE c) t) (B b)
  | .For tg it b [] _ => if isSet it then .no else (match tgOf c tg with | some t => if isDx c it then .forD t (gE c it) (B b) else .for t (iterE c (gE c) it) (B b) | none => .no)
  | .Raise (some (.Call (.Name x _) [.Constant (.str _) _ _] [] _)) none _ => if isG c.sc x then (match ixOf x c.cls with | some i => .raise i | none => .no) else .no
  | .Raise (some (.Call (.Name x _) (e :: es) [] _)) none _ => if isG c.sc x && noStar (e :: es) then (match ixOf x c.cls with | some i => .raiseA i (esOf (gE c) (e :: es)) | none => .no) else .no
  | .Try body [.ExceptHandler (some (.Name x _)) (some n) [.Return (some e) _] _] [] [] _ => if isG c.sc x && decide (c.sc.names.lookup n = some .local) && !(n == ("__debug__" : Str)) && !(n == ("__classdict__" : Str)) then (match ixOf x c.cls, ixOf n c.N with | some i, some j => .tryAs (B body) i j (hanE c n 9 e) | _, _ => .no) else .no
  | .Try body [.ExceptHandler (some (.Name x _)) none [.Return (some e) _] _] [] [] _ => if isG c.sc x then (match ixOf x c.cls with | some i => .try (B body) i (hotE c e) | none => .no) else .no
  | .Assign [t] v _ => asgE c t v
  | .Pass _ => .pass
  | .Break _ => .brk
  | .Continue _ => .ct
  | _ => .no
def blockE (f : Stmt → S) : List Stmt → List S
  | [] => []
  | st :: r => f st :: blockE f r
def compS (c : CC) : Nat → Stmt → S
  | 0 => fun _ => .no
  | n + 1 => compS0 (blockE (compS c n)) c
/-- a body -/
def compB (c : CC) (b : List Stmt) : List S := blockE (compS c 9) b

section
variable {X : Cx} {c : CC} {T : Tab} {k : Nat} {Wx : WX} {Φ : Phi} {n : Nat}
theorem noS {st : Stmt} : PS X st (tS T Wx (runS Φ n .no)) := d_stNo
theorem gE_ok (O : Okk X c T k Wx Φ) : Rd X T Wx Φ (gE c) (hE c) := comp_all 20 _ _ _ O
theorem thc_ok (O : Okk X c T k Wx Φ) (v : Expr) : PE X v (tE T Wx (runE Φ (thcE c (gE c) v))) := by
  have R := gE_ok O
  unfold thcE
  split
  · split
    · rename_i x p args p2 hh
      rw [Bool.and_eq_true] at hh
      obtain ⟨hgl, hst⟩ := hh
      split
      · rename_i i e
        have hx := O.gn _ _ (ixOf_some e)
        subst hx
        exact d_callT (O.C.mono (Nat.le_succ k)) O.Sd (O.gl_ok hgl).1 (O.gl_ok hgl).2 (es_ok R hst) es_nil (starOk hst)
      · exact d_noE
    · exact d_noE
  · split
    · rename_i o m apos args pos hh
      simp only [Bool.and_eq_true, decide_eq_true_eq, Bool.not_eq_true'] at hh
      obtain ⟨⟨⟨h1, h2⟩, h3⟩, h4⟩ := hh
      split
      · rename_i i e
        have hx := O.mn _ _ (ixOf_some e)
        subst hx
        exact d_methT (O.C.mono (Nat.le_succ k)) O.ok O.Sd (R.e o) (es_ok R h1) es_nil (starOk h1) (meth_form h2 h1 h3 h4)
      · exact d_noE
    · exact d_noE
  · exact d_noE
theorem put_ok (O : Okk X c T k Wx Φ) {x : Str} (v : Expr) : PE X v (tE T Wx (runE Φ (putE c gE hE x v))) := by
  unfold putE
  split
  · exact thc_ok O v
  split
  · exact d_th ((gE_ok O).f v)
  · exact (gE_ok O).e v
theorem fld_ok (O : Okk X c T k Wx Φ) {x : Str} (v : Expr) : PE X v (tE T Wx (runE Φ (fldE c gE hE x v))) := by
  unfold fldE
  split
  · rename_i hh
    rw [Bool.and_eq_true] at hh
    have : ∃ p, v = .Dict [] [] p := by
      cases v <;> first | (cases hh.2; done) | skip
      rename_i ks vs p
      cases ks <;> cases vs <;> first | exact ⟨_, rfl⟩ | cases hh.2
    obtain ⟨p, rfl⟩ := this
    exact d_dnew O.C true
  · exact put_ok O v
theorem ret_ok (O : Okk X c T k Wx Φ) (v : Expr) : PE X v (tE T Wx (runE Φ (retE c gE hE v))) := by
  unfold retE
  split
  · split
    · exact d_th ((gE_ok O).f _)
    · exact (gE_ok O).e _
  · split
    · exact d_th ((gE_ok O).f _)
    · exact (gE_ok O).e _
theorem asg_name (O : Okk X c T k Wx Φ) {x : Str} {i : Nat} {py pos : Pos} {v : Expr} {e : E} (hi : tgN c x = some i) (hv : PE X v (tE T Wx (runE Φ e))) (hs : swapsWith v (some (.Name x py)) pos.line X.env = pure false) :
    PS X (.Assign [.Name x py] v pos) (tS T Wx (runS Φ n (.asg (.n i) e))) :=
  d_asg (tg := .Name x py) (t := .n i) hv (tgN_ok O hi) (show swapsWithSole [.Name x py] v pos.line X.env = pure false from hs) (by cases v <;> rfl) rfl
theorem fr_imp {f : Env → List Cell → R (List PyData)} {σ : L2.St} {H : Hp} {Q : VK} (q : tE T Wx (fun ρ s => (f ρ s).bind fun l s => .ok (.d (.list l)) s) σ H Q) : tF T Wx f σ H Q := by
  refine rd_mono (rd_bind (rel := rF T) (f := f) q) fun v H1 ⟨B, G, α, ρ, s, l, r, M⟩ => ?_
  obtain ⟨G', x, S', d⟩ := freezeF M.S r
  exact M.P.at x S' d
theorem th_imp {f : Env → List Cell → R (List PyData)} {σ : L2.St} {H : Hp} {Q : VK} (q : tE T Wx (fun ρ s => (f ρ s).bind fun l s => .ok (.h s.length) (s ++ [.lst l])) σ H Q) : tF T Wx f σ H Q := by
  refine rd_mono (rd_bind (rel := rF T) (f := f) q) fun v H1 ⟨B, G, α, ρ, s, l, r, M⟩ => ?_
  obtain ⟨a, rfl, S'⟩ := pushF M.S r
  exact M.P.at Ext.push S' ⟨a, by rw [← M.S.len]; simp, rfl⟩
theorem asg_lc (O : Okk X c T k Wx Φ) {x : Str} {i : Nat} {py pos vp : Pos} {elt tg iter : Expr} {ifs : List Expr} {scope : Scope} {e : E} (hdx : isDx c iter = false) (hi : tgN c x = some i)
    (he : e = .th (hE c (.ListComp elt [⟨tg, iter, ifs, 0⟩] scope vp)) ∨ e = .fr (hE c (.ListComp elt [⟨tg, iter, ifs, 0⟩] scope vp))) :
    PS X (.Assign [.Name x py] (.ListComp elt [⟨tg, iter, ifs, 0⟩] scope vp) pos) (tS T Wx (runS Φ n (.asg (.n i) e))) := by
  have R := gE_ok O
  have hv : PE X (.ListComp elt [⟨tg, iter, ifs, 0⟩] scope vp) (tE T Wx (runE Φ e)) := by
    rcases he with rfl | rfl
    · exact d_th (R.f _)
    · exact d_fr (R.f _)
  have sw := swap_lc (elt := elt) (gens := [⟨tg, iter, ifs, 0⟩]) (scope := scope) (vp := vp) (py := py) (x := x) (n := pos.line) (env := X.env) (by rw [O.sc]; exact O.kd)
  cases hb : swapB X.env.scope x py vp scope with
  | false =>
    rw [hb] at sw
    exact asg_name O hi hv sw
  | true =>
    rw [hb] at sw
    have hxl : X.env.scope.names.lookup x = some .local := by
      unfold swapB at hb
      simp only [Bool.and_eq_true, decide_eq_true_eq] at hb
      exact hb.1.1
    have hN : X.N[i]? = some x := by
      rw [O.N]
      unfold tgN at hi
      split at hi
      · exact ixOf_some hi
      · cases hi
    have hF : hE c (.ListComp elt [⟨tg, iter, ifs, 0⟩] scope vp) = compC (comp 19).1 c elt tg iter ifs scope := rfl
    have A := comp_all (T := T) (k := k) (Φ := Φ) 19
    rw [hF] at he
    unfold compC at he
    split at he
    · rename_i t et
      split at he
      · rename_i hh
        simp only [Bool.and_eq_true, Bool.not_eq_true', List.all_eq_true, decide_eq_true_eq] at hh
        obtain ⟨⟨h1, h2⟩, h3⟩ := hh
        rw [hdx, if_neg Bool.false_ne_true] at he
        have bo := blkOk_by h1
        have ob := fun s H C cl fp => O.blk s H C cl fp scope bo.kind
        refine d_setLc (fcnd := runC Φ (ifsE ((comp 19).1 (blkCC c scope)) ifs)) (fe := runE Φ ((comp 19).1 (blkCC c scope) elt)) O.C.calm O.C.hN hN hxl sw (iter_ok O (A _ _ _ O)) (by rw [O.N, O.sc]; exact bo)
          (fun s H C cl fp => tg_ok (ob s H C cl fp) et) (fun s H C cl fp => ifs_ok (A _ _ _ (ob s H C cl fp)) ifs) (fun s H C cl fp => (A _ _ _ (ob s H C cl fp)).e elt) (folded_ok h2) h3 (runE Φ e) (fun σ H Q q => ?_)
        rcases he with rfl | rfl
        · exact th_imp q
        · exact fr_imp q
      · have : runE Φ e = fun _ _ => .no := by rcases he with rfl | rfl <;> rfl
        exact PS_imp ps_never fun D σ H ⟨B, G, α, ρ, s, S, E, P⟩ => by
          have P' : PostS T Wx B G α ((runE Φ e ρ s).st ρ fun w s => match asgT ρ (.n i) w with | some ρ => DM.R.ok (DM.O.nx, ρ) s | none => .no) D := P
          rw [this] at P'
          exact P'
    · have : runE Φ e = fun _ _ => .no := by rcases he with rfl | rfl <;> rfl
      exact PS_imp ps_never fun D σ H ⟨B, G, α, ρ, s, S, E, P⟩ => by
        have P' : PostS T Wx B G α ((runE Φ e ρ s).st ρ fun w s => match asgT ρ (.n i) w with | some ρ => DM.R.ok (DM.O.nx, ρ) s | none => .no) D := P
        rw [this] at P'
        exact P'
theorem par_ok2 (O : Okk X c T k Wx Φ) {es : List Expr} {j : Nat} {p : Pos} {v : Expr} {pos : Pos} : PS X (.Assign [.Tuple es j p] v pos) (tS T Wx (runS Φ n (parS c es v))) := by
  have kd : X.env.scope.kind = .function := by rw [O.sc]; exact O.kd
  unfold parS
  split
  · rename_i x px y py a b k2 pt2
    split
    · rename_i h
      split
      · rename_i i j e1 e2
        have hs : noStar [a, b] = true := by
          have h := h
          unfold parOk2 at h
          simp only [Bool.and_eq_true] at h
          exact h.1.1.2
        exact d_par2 (fes := runEs Φ (.cons (putE c gE hE x a) (.cons (putE c gE hE y b) .nil))) O.C.calm O.C.hN (by rw [O.N]; exact ixOf_some e1) (by rw [O.N]; exact ixOf_some e2) kd (by rw [O.sc]; exact h) (d_cons (put_ok O a) (d_cons (put_ok O b) d_nil (star_cons (noStar_cons (noStar_cons hs).2).1)) (star_cons (noStar_cons hs).1))
      · exact noS
    · exact noS
  · rename_i x px y py z pz a b d k2 pt2
    split
    · rename_i h
      split
      · rename_i i j l e1 e2 e3
        have hs : noStar [a, b, d] = true := by
          have h := h
          unfold parOk3 at h
          simp only [Bool.and_eq_true] at h
          exact h.1.1.2
        exact d_par3 (fes := runEs Φ (.cons (putE c gE hE x a) (.cons (putE c gE hE y b) (.cons (putE c gE hE z d) .nil)))) O.C.calm O.C.hN (by rw [O.N]; exact ixOf_some e1) (by rw [O.N]; exact ixOf_some e2) (by rw [O.N]; exact ixOf_some e3) kd (by rw [O.sc]; exact h)
          (d_cons (put_ok O a) (d_cons (put_ok O b) (d_cons (put_ok O d) d_nil (star_cons (noStar_cons (noStar_cons (noStar_cons hs).2).2).1)) (star_cons (noStar_cons (noStar_cons hs).2).1)) (star_cons (noStar_cons hs).1))
      · exact noS
    · exact noS
  · exact noS
theorem asgE_ok (O : Okk X c T k Wx Φ) {t v : Expr} {pos : Pos} : PS X (.Assign [t] v pos) (tS T Wx (runS Φ n (asgE c t v))) := by
  have R := gE_ok O
  unfold asgE
  split
  · split
    · rename_i x py i hi
      split
      · split
        · exact noS
        rename_i hdx
        refine asg_lc O (by simpa using hdx) hi ?_
        split
        · exact .inl rfl
        · exact .inr rfl
      · split
        · exact noS
        · rename_i hc
          exact asg_name O hi (put_ok O _) (swaps_no (by simpa using hc))
    · exact noS
  · split
    · exact par_ok2 O
    split
    · exact noS
    · rename_i es j p hh1 hh2
      have hh : isTup v = false ∧ isComp v = false := ⟨by simpa using hh1, by simpa using hh2⟩
      split
      · rename_i is hi
        refine d_asg (t := .t is) (R.e v) (tg_ok O (by show (tgNs c es).map Tg.t = _; rw [hi]; rfl)) (show swapsWith v (some (.Tuple es j p)) pos.line X.env = pure false from swaps_no hh.2) ?_ rfl
        have := hh.1
        cases v <;> first | rfl | cases this
      · exact noS
  · split
    · rename_i i hi
      rename_i o f p _
      have hx := O.fl _ _ (ixOf_some hi)
      subst hx
      exact d_setF O.C.hK O.ok O.Sd.has (R.e o) (fld_ok O v) (swaps_tg rfl)
    · exact noS
  · split
    · exact noS
    · rename_i o i p hh
      split
      · exact d_setD O.C (R.e o) (R.e i) (R.e v) (swaps_tg rfl)
      refine d_setI (R.e o) (R.e i) (R.e v) ?_ (show swapsWith v (some (.Subscript o i p)) pos.line X.env = pure false from swaps_tg rfl) rfl rfl
      intro u
      cases i <;> first | rfl | exact absurd rfl hh
  · exact noS
theorem block_ok {f : Stmt → S} (hf : ∀ st, PS X st (tS T Wx (runS Φ n (f st)))) : ∀ b : List Stmt, PSs X b (tS T Wx (runB Φ n (blockE f b)))
  | [] => d_nilS
  | st :: r => d_consS (hf st) (block_ok hf r)
/-- what is asked of a def's context -/
structure Stk (X : Cx) : Prop where
  hp : PassesOwn (model X.prog X.w) X.A X.env X.xe
  hs : X.stack = X.env :: X.outer
  hf : X.env.frame = some X.env.locals
theorem Okk.tr (O : Okk X c T k Wx Φ) {W : WX} {pn : List (Addr × Obj)} {xe : Value → Shared → Prop} (tk : L2N.Takes (X.tr pn xe) W) : Okk (X.tr pn xe) c T k W Φ :=
  ⟨⟨O.C.hP, O.C.hw, O.C.hK, O.C.calm, O.C.room, tk, O.C.hN⟩, O.ok, O.Sd, O.N, O.sc, O.kd, O.fn, O.gn, O.cn, O.mn, O.fl, O.blt, O.gl⟩
theorem try_none {c : Nat} {b : List S} {e : E} (h : Φ.sub c = none) : runS Φ n (.try b c e) = fun _ _ => .no := by
  funext ρ s
  show (match Φ.sub c with | some f => _ | none => _) = _
  rw [h]
theorem try_some {c : Nat} {b : List S} {e : E} {f : Nat → Option Bool} (h : Φ.sub c = some f) : runS Φ n (.try b c e) = fTry f (runB Φ n b) (runE Φ e) := by
  funext ρ s
  show (match Φ.sub c with | some f => _ | none => _) = _
  rw [h]
  rfl
theorem tryAs_none {c i : Nat} {b : List S} {e : HE} (h : Φ.sub c = none) : runS Φ n (.tryAs b c i e) = fun _ _ => .no := by
  funext ρ s
  show (match Φ.sub c with | some f => _ | none => _) = _
  rw [h]
theorem tryAs_some {c i : Nat} {b : List S} {e : HE} {f : Nat → Option Bool} (h : Φ.sub c = some f) : runS Φ n (.tryAs b c i e) = fTryAs f i (runB Φ n b) (fun x => runH Φ x e) := by
  funext ρ s
  show (match Φ.sub c with | some f => _ | none => _) = _
  rw [h]
  rfl
theorem compS0_ok (O : Okk X c T k Wx Φ) (st0 : Stk X) {B : List Stmt → List S} (hB : ∀ (X : Cx) (Wx : WX), Okk X c T k Wx Φ → Stk X → ∀ b, PSs X b (tS T Wx (runB Φ n (B b)))) (st : Stmt) : PS X st (tS T Wx (runS Φ n (compS0 B c st))) := by
  have R := gE_ok O
  have hp := st0.hp
  have hB1 := hB X Wx O st0
  unfold compS0
  split
  · exact d_doc
  · split
    · exact noS
    · rename_i hc; exact d_ex (R.e _) (swaps_no (by simpa using hc))
  · exact d_retN
  · exact d_ret (ret_ok O _)
  · exact d_if (R.ntT _) (hB1 _) (hB1 _)
  · exact d_while hp (R.ntT _) (hB1 _)
  · split
    · exact noS
    · rename_i hs
      split
      · rename_i t et
        split
        · exact d_forD (O.C.mono (Nat.le_refl _)) hp (R.e _) (tg_ok O et) (hB1 _) (folded_ok (by simpa using hs))
        · exact d_for hp O.C.calm (iter_ok O R) (tg_ok O et) (hB1 _) (folded_ok (by simpa using hs))
      · exact noS
  · split
    · rename_i hgl
      split
      · rename_i i e
        have hx := O.cn _ _ (ixOf_some e)
        subst hx
        exact d_raise (C0 := 0) (b := Φ.xc i) O.C (fun h => O.Sd.xc i h) (O.gl_ok hgl).1 (O.gl_ok hgl).2
      · exact noS
    · exact noS
  · split
    · rename_i hgl
      rw [Bool.and_eq_true] at hgl
      split
      · rename_i i e
        have hx := O.cn _ _ (ixOf_some e)
        subst hx
        exact d_raiseA O.C O.Sd.hx (O.gl_ok hgl.1).1 (O.gl_ok hgl.1).2 (es_ok R hgl.2) (starOk hgl.2)
      · exact noS
    · exact noS
  · split
    · rename_i hgl
      simp only [Bool.and_eq_true, decide_eq_true_eq, Bool.not_eq_true'] at hgl
      obtain ⟨⟨⟨hgl, hln⟩, hdb⟩, hcd⟩ := hgl
      split
      · rename_i i j e e2
        have hx := O.cn _ _ (ixOf_some e)
        subst hx
        cases es : Φ.sub i with
        | none => rw [tryAs_none es]; exact d_stNo
        | some f =>
          rw [tryAs_some es]
          obtain ⟨D0, h1, h2⟩ := O.Sd.sub i f es
          have hi := ixOf_some e2
          rw [← O.N] at hi
          exact d_tryAs st0.hs st0.hf O.C.hN hi (by show X.env.scope.names.lookup _ = _; rw [O.sc]; exact hln) ⟨(O.gl_ok hgl).1, (O.gl_ok hgl).2, .inl h1⟩ O.C.tk h2 (fun W pn xe tk hpp => hB _ W (O.tr tk) ⟨hpp, st0.hs, st0.hf⟩ _)
            (fun a oe cls d pn x hz hf => hanE_ok O ⟨O.C.hP, O.C.hw, O.C.hK, O.C.hu5, O.C.room.mono (Nat.le_succ k), O.ok, hz, hf, hi, .inl (by rw [O.sc]; exact hln), hdb, hcd, O.Sd.hx⟩ 9 _)
      · exact noS
    · exact noS
  · split
    · rename_i hgl
      split
      · rename_i i e
        have hx := O.cn _ _ (ixOf_some e)
        subst hx
        cases es : Φ.sub i with
        | none => rw [try_none es]; exact d_stNo
        | some f =>
          rw [try_some es]
          obtain ⟨D0, h1, h2⟩ := O.Sd.sub i f es
          exact d_try st0.hs st0.hf ⟨(O.gl_ok hgl).1, (O.gl_ok hgl).2, .inl h1⟩ O.C.tk h2 (fun W pn xe tk hpp => hB _ W (O.tr tk) ⟨hpp, st0.hs, st0.hf⟩ _) (fun a oe pn => hot_ok O a _ _)
      · exact noS
    · exact noS
  · exact asgE_ok O
  · exact d_pass
  · exact d_brk
  · exact d_ct
  · exact noS
theorem compS_ok : ∀ (m : Nat) (X : Cx) (Wx : WX), Okk X c T k Wx Φ → Stk X → ∀ st : Stmt, PS X st (tS T Wx (runS Φ n (compS c m st)))
  | 0, _, _, _, _, _ => noS
  | m + 1, X, Wx, O, s, st => compS0_ok O s (fun X Wx O s => block_ok (compS_ok m X Wx O s)) st
theorem compB_ok (O : Okk X c T k Wx Φ) (hp : Stk X) (b : List Stmt) : PSs X b (tS T Wx (runB Φ n (compB c b))) := block_ok (compS_ok 9 X Wx O hp) b
end
end DM

set_option maxRecDepth 100000
/-! DM14: defs, classes, the law. -/
namespace DM
open PySem PySem.Spec PyProof.Rows L2
/-- the names of a program, by number; each class's fields -/
structure Nms where
  fns : List Str
  cls : List Str
  mns : List Str
  fls : List Str
  blt : List Str
  gl : List (Str × PyData)
  hs : List (List Nat)
  subs : List (Nat × List (Nat × Bool)) := []
  xcs : List Nat := []
def ccOf (M : Nms) (st : Stmt) (N mu lsts dcts : List Str) (retF : Bool) : CC := ⟨N, defScope st, fun _ => true, M.fns, M.cls, M.mns, M.fls, M.blt, M.gl, mu, lsts, dcts, retF⟩
def gtS (l : List Str) (i : Nat) : Str := (l[i]?).getD Str.empty
def tabOf (P : Program) (w : World) (K : PySem.W.Frag) (M : Nms) (as : List (Nat × Addr)) : Tab := ⟨P, w, K, gtS M.fls, M.fls.length, gtS M.mns, gtS M.fns, gtS M.cls, fun c => as.lookup c, fun c f => decide (f < M.fls.length) && ((M.hs[c]?).getD []).contains f⟩
def phi0 (M : Nms) : Phi := ⟨fun _ => none, fun _ _ => none, fun _ => none, fun _ _ => none, fun c f => decide (f < M.fls.length) && ((M.hs[c]?).getD []).contains f, fun d => (M.subs.lookup d).map fun l c => l.lookup c, fun c => M.xcs.contains c, {}⟩
def Phi.setFn (Φ : Phi) (i : Nat) (φ : Fs) : Phi := { Φ with fn := fun j => if j = i then some φ else Φ.fn j }
def Phi.setMt (Φ : Phi) (c m : Nat) (φ : Fs) : Phi := { Φ with mt := fun j i => if j = c ∧ i = m then some φ else Φ.mt j i }
def Phi.setCm (Φ : Phi) (c m : Nat) (φ : Fs) : Phi := { Φ with cm := fun j i => if j = c ∧ i = m then some φ else Φ.cm j i }
def Phi.setCl (Φ : Phi) (c : Nat) (φ : Ms) : Phi := { Φ with cl := fun j => if j = c then some φ else Φ.cl j }
theorem gtS_at {l : List Str} {i : Nat} {x : Str} (h : l[i]? = some x) : gtS l i = x := by unfold gtS; rw [h]; rfl
/-- what the head says of the classes -/
def ClsAll (K : PySem.W.Frag) (M : Nms) (as : List (Nat × Addr)) : Prop := ∀ p ∈ as, (M.hs[p.1]?).getD [] = [] ∨ Cls K p.2 ∧ ∀ f ∈ (M.hs[p.1]?).getD [], NoAttr K p.2 (gtS M.fls f)
theorem lookup_mem {β γ : Type} [BEq β] [LawfulBEq β] {c : β} {C : γ} : ∀ {as : List (β × γ)}, as.lookup c = some C → (c, C) ∈ as
  | [], h => by cases h
  | (d, D) :: r, h => by
    rw [List.lookup_cons] at h
    cases e : c == d with
    | true => rw [e] at h; cases h; have := eq_of_beq e; subst this; exact List.mem_cons_self
    | false => rw [e] at h; exact List.mem_cons_of_mem _ (lookup_mem h)
theorem tab_ok {P : Program} {w : World} {K : PySem.W.Frag} {M : Nms} {as : List (Nat × Addr)} (nd : M.fls.Nodup) (nm : ∀ x ∈ M.fls, x ≠ Str.empty ∧ ∀ y ∈ M.mns, x ≠ y) (h : ClsAll K M as) : TabOk (tabOf P w K M as) := by
  have at_ : ∀ {i : Nat}, i < M.fls.length → M.fls[i]? = some (gtS M.fls i) := fun {i} hi => by
    unfold gtS; rw [List.getElem?_eq_getElem hi]; rfl
  refine ⟨fun i j hi hj e => ?_, fun c f h => ?_, fun c C f h1 h2 => ?_, fun c C f h1 h2 => ?_, fun f m hf => ?_⟩
  · have e : gtS M.fls i = gtS M.fls j := e
    have hi : i < M.fls.length := hi
    have hj : j < M.fls.length := hj
    have a := at_ hi
    have b := at_ hj
    rw [List.getElem?_eq_getElem hi] at a
    rw [List.getElem?_eq_getElem hj] at b
    have := Option.some.inj a
    have b := Option.some.inj b
    exact (List.getElem_inj nd).mp (this.trans (e.trans b.symm))
  · have h : (decide (f < M.fls.length) && ((M.hs[c]?).getD []).contains f) = true := h
    rw [Bool.and_eq_true, decide_eq_true_eq] at h
    exact h.1
  · have h2 : (decide (f < M.fls.length) && ((M.hs[c]?).getD []).contains f) = true := h2
    rw [Bool.and_eq_true] at h2
    have h3 : f ∈ (M.hs[c]?).getD [] := by simpa using h2.2
    rcases h _ (lookup_mem h1) with q | q
    · rw [show (M.hs[c]?).getD [] = [] from q] at h3; cases h3
    · exact q.2 f h3
  · have h2 : (decide (f < M.fls.length) && ((M.hs[c]?).getD []).contains f) = true := h2
    rw [Bool.and_eq_true] at h2
    have h3 : f ∈ (M.hs[c]?).getD [] := by simpa using h2.2
    rcases h _ (lookup_mem h1) with q | q
    · rw [show (M.hs[c]?).getD [] = [] from q] at h3; cases h3
    · exact q.1
  · have hf : f < M.fls.length := hf
    have hm := List.mem_of_getElem? (at_ hf)
    show gtS M.fls f ≠ gtS M.mns m
    cases e : M.mns[m]? with
    | none => unfold gtS at *; rw [e]; exact (nm _ hm).1
    | some y => rw [gtS_at e]; exact (nm _ hm).2 y (List.mem_of_getElem? e)
section
variable {P : Program} {w : World} {K : PySem.W.Frag} {mg : Str → Option Value} {base : Heap} {M : Nms} {as : List (Nat × Addr)} {k : Nat} {Φ : Phi}
/-- what stands around every def -/
structure Amb (P : Program) (w : World) (K : PySem.W.Frag) (mg : Str → Option Value) (M : Nms) (as : List (Nat × Addr)) : Prop where
  ok : TabOk (tabOf P w K M as)
  blt : ∀ x, M.blt.contains x = true → mg x = none
  gl : ∀ x d, M.gl.lookup x = some d → ∃ u v, mg x = some u ∧ RelV v u ∧ ∀ G, Dp K G v d
abbrev SndA (P : Program) (w : World) (K : PySem.W.Frag) (mg : Str → Option Value) (base : Heap) (M : Nms) (as : List (Nat × Addr)) (k : Nat) (Φ : Phi) : Prop := Snd P w K mg base (tabOf P w K M as) k Φ
theorem blt_of {l : List Str} (h : ∀ x ∈ l, mg x = none) : ∀ x, l.contains x = true → mg x = none := fun x hx => h x (by simpa using hx)
theorem gl_of {l : List (Str × PyData)} (h : ∀ p ∈ l, ∃ u v, mg p.1 = some u ∧ RelV v u ∧ ∀ G, Dp K G v p.2) : ∀ x d, l.lookup x = some d → ∃ u v, mg x = some u ∧ RelV v u ∧ ∀ G, Dp K G v d := fun x d hx => h _ (lookup_mem hx)
theorem Snd.mono {T : Tab} {j : Nat} (S : Snd P w K mg base T j Φ) (h : j ≤ k) : Snd P w K mg base T k Φ := by
  refine ⟨fun i φ e => ?_, fun c m φ e => ?_, fun c n g e => ?_, fun c n g e => ?_, S.has, S.sub, S.xc, fun c n g e => ?_, S.hx.mono h⟩
  · obtain ⟨f, fd, ps, h1, h2, h3, h4, h5⟩ := S.fn i φ e
    exact ⟨f, fd, ps, h1, h2, h3, h4, h5.mono h⟩
  · obtain ⟨C, f, fd, ps, h1, h2, h3, h4, h5, h6⟩ := S.mt c m φ e
    exact ⟨C, f, fd, ps, h1, h2, h3, h4, h5, h6.mono h⟩
  · obtain ⟨C, f, fd, ps, h1, h2, h3, h4, h5, h6⟩ := S.clp c n g e
    exact ⟨C, f, fd, ps, h1, h2, h3, h4, h5, h6.mono h⟩
  · obtain ⟨C, f, fd, ps, h1, h2, h3, h4, h5, h6⟩ := S.clm c n g e
    exact ⟨C, f, fd, ps, h1, h2, h3, h4, h5, h6.mono h⟩
  · obtain ⟨C, f, fd, ps, mc, h1, h2, h3, h4, h5, h6, h7⟩ := S.cm c n g e
    exact ⟨C, f, fd, ps, mc, h1, h2, h3, h4, h5, h6, h7.mono h⟩
/-- what the head says of exceptions -/
structure ExcA (K : PySem.W.Frag) (mg : Str → Option Value) (M : Nms) (as : List (Nat × Addr)) : Prop where
  sub : ∀ q ∈ M.subs, ∃ D, mg (gtS M.cls q.1) = some (.ref D) ∧ ∀ r ∈ q.2, ∀ C, as.lookup r.1 = some C → PySem.W.exmOne K (.ref C) (.ref D) = some r.2
  xc : ∀ c ∈ M.xcs, ∃ C, as.lookup c = some C ∧ XcOk K mg (gtS M.cls c) C
theorem excA0 (h1 : M.subs = []) (h2 : M.xcs = []) : ExcA K mg M as := ⟨fun q hq => (by rw [h1] at hq; cases hq), fun q hq => (by rw [h2] at hq; cases hq)⟩
theorem snd0 (X : ExcA K mg M as) : SndA P w K mg base M as 0 (phi0 M) := ⟨fun _ _ e => (nomatch e), fun _ _ _ e => (nomatch e), fun _ _ _ e => (nomatch e), fun _ _ _ e => (nomatch e), fun _ _ e => e, fun d f e => by
  obtain ⟨l, h1, h2⟩ := Option.map_eq_some_iff.mp (show (M.subs.lookup d).map (fun l c => l.lookup c) = some f from e)
  obtain ⟨D, h3, h4⟩ := X.sub _ (lookup_mem h1)
  exact ⟨D, h3, fun c b C e1 e2 => h4 (c, b) (lookup_mem (by rw [← h2] at e1; exact e1)) C e2⟩, fun c e => X.xc c (by simpa using (show M.xcs.contains c = true from e)), fun _ _ _ e => (nomatch e), DH.hx0⟩
/-- what is known of the exceptions is set -/
def Phi.setHx (Φ : Phi) (h : Hx) : Phi := { Φ with hx := h }
theorem Snd.setHx {T : Tab} {h : Hx} (S : Snd P w K mg base T k Φ) (O : DH.HxOk P w K mg base T k h) : Snd P w K mg base T k (Φ.setHx h) := ⟨S.fn, S.mt, S.clp, S.clm, S.has, S.sub, S.xc, S.cm, O⟩
theorem Snd.setFn {T : Tab} {i : Nat} {φ : Fs} {f : Addr} {fd : FuncData} {ps : List Str} (S : Snd P w K mg base T k Φ) (h1 : mg (T.gn i) = some (.ref f)) (h2 : PySem.W.keepIn K (.ref f) = true) (h3 : Binds K fd ps []) (h4 : ps.length = (spF T φ).1) (h5 : FnOk P w K mg base (L2N.CX P w) k f fd ps (spF T φ).2) : Snd P w K mg base T k (Φ.setFn i φ) := by
  refine ⟨fun j ψ e => ?_, S.mt, S.clp, S.clm, S.has, S.sub, S.xc, S.cm, S.hx⟩
  have e : (if j = i then some φ else Φ.fn j) = some ψ := e
  by_cases hj : j = i
  · rw [if_pos hj] at e; cases e; subst hj
    exact ⟨f, fd, ps, h1, h2, h3, h4, h5⟩
  · rw [if_neg hj] at e; exact S.fn j ψ e
theorem Snd.setMt {T : Tab} {c m : Nat} {φ : Fs} {C f : Addr} {fd : FuncData} {ps : List Str} (S : Snd P w K mg base T k Φ) (h1 : T.cls c = some C) (hc : Cls K C) (h2 : Meth K C (T.mn m) f) (h3 : Binds K fd ps []) (h4 : ps.length = (spF T φ).1) (h5 : FnOk P w K mg base (L2N.CX P w) k f fd ps (spF T φ).2) : Snd P w K mg base T k (Φ.setMt c m φ) := by
  refine ⟨S.fn, fun j i ψ e => ?_, S.clp, S.clm, S.has, S.sub, S.xc, S.cm, S.hx⟩
  have e : (if j = c ∧ i = m then some φ else Φ.mt j i) = some ψ := e
  by_cases hj : j = c ∧ i = m
  · rw [if_pos hj] at e; cases e; obtain ⟨rfl, rfl⟩ := hj
    exact ⟨C, f, fd, ps, h1, hc, h2, h3, h4, h5⟩
  · rw [if_neg hj] at e; exact S.mt j i ψ e
theorem Snd.setCm {T : Tab} {c m : Nat} {φ : Fs} {C f : Addr} {fd : FuncData} {ps : List Str} {mc : Value} (S : Snd P w K mg base T k Φ) (h1 : mg (T.cn c) = some (.ref C)) (hr : ClX.CRead K C mc) (h2 : PySem.W.findCls K (.ref C) mc (T.mn m) = some (.val (.ref f))) (hk : PySem.W.keepIn K (.ref f) = true) (h3 : Binds K fd ps []) (h4 : ps.length = (spF T φ).1) (h5 : FnOk P w K mg base (L2N.CX P w) k f fd ps (spF T φ).2) : Snd P w K mg base T k (Φ.setCm c m φ) := by
  refine ⟨S.fn, S.mt, S.clp, S.clm, S.has, S.sub, S.xc, fun j i ψ e => ?_, S.hx⟩
  have e : (if j = c ∧ i = m then some φ else Φ.cm j i) = some ψ := e
  by_cases hj : j = c ∧ i = m
  · rw [if_pos hj] at e; cases e; obtain ⟨rfl, rfl⟩ := hj
    exact ⟨C, f, fd, ps, mc, h1, hr, h2, hk, h3, h4, h5⟩
  · rw [if_neg hj] at e; exact S.cm j i ψ e
theorem Snd.setClP {T : Tab} {c n : Nat} {g : List W → Option (Except Xc (List (Nat × PyData)))} {C f : Addr} {fd : FuncData} {ps : List Str} (S : Snd P w K mg base T k Φ) (h1 : T.cls c = some C) (h2 : mg (T.cn c) = some (.ref C)) (hm : Mk K C f) (h3 : Binds K fd ps []) (h4 : ps.length = n + 1) (h5 : FnOk P w K mg base (L2N.CX P w) k f fd ps (spI T c n g)) : Snd P w K mg base T k (Φ.setCl c (.p n g)) := by
  refine ⟨S.fn, S.mt, fun j n' g' e => ?_, fun j n' g' e => ?_, S.has, S.sub, S.xc, S.cm, S.hx⟩
  · have e : (if j = c then some (.p n g) else Φ.cl j) = some (.p n' g') := e
    by_cases hj : j = c
    · rw [if_pos hj] at e; cases e; subst hj
      exact ⟨C, f, fd, ps, h1, h2, hm, h3, h4, h5⟩
    · rw [if_neg hj] at e; exact S.clp j n' g' e
  · have e : (if j = c then some (.p n g) else Φ.cl j) = some (.m n' g') := e
    by_cases hj : j = c
    · rw [if_pos hj] at e; cases e
    · rw [if_neg hj] at e; exact S.clm j n' g' e
theorem Snd.setClM {T : Tab} {c n : Nat} {g : List W → List Cell → R Rv} {C f : Addr} {fd : FuncData} {ps : List Str} (S : Snd P w K mg base T k Φ) (h1 : T.cls c = some C) (h2 : mg (T.cn c) = some (.ref C)) (hm : Mk K C f) (h3 : Binds K fd ps []) (h4 : ps.length = n + 1) (h5 : FnOk P w K mg base (L2N.CX P w) k f fd ps (spM T (n + 1) g)) : Snd P w K mg base T k (Φ.setCl c (.m n g)) := by
  refine ⟨S.fn, S.mt, fun j n' g' e => ?_, fun j n' g' e => ?_, S.has, S.sub, S.xc, S.cm, S.hx⟩
  · have e : (if j = c then some (.m n g) else Φ.cl j) = some (.p n' g') := e
    by_cases hj : j = c
    · rw [if_pos hj] at e; cases e
    · rw [if_neg hj] at e; exact S.clp j n' g' e
  · have e : (if j = c then some (.m n g) else Φ.cl j) = some (.m n' g') := e
    by_cases hj : j = c
    · rw [if_pos hj] at e; cases e; subst hj
      exact ⟨C, f, fd, ps, h1, h2, hm, h3, h4, h5⟩
    · rw [if_neg hj] at e; exact S.clm j n' g' e
/-! ### a def's body -/
theorem body_ok {st : Stmt} {N mu lsts dcts : List Str} {retF : Bool} {b : List S} {qual : Str} {f : Addr} (A : Amb P w K mg M as) (Sd : SndA P w K mg base M as k Φ) (nd : N.Nodup) (kd : (defScope st).kind = .function) (hb : compB (ccOf M st N mu lsts dcts retF) (defBody st) = b)
    (n : Nat) (cdv : Value) (Ar : Around) (outer : List PySem.Env) (s : Shared) (H : Hp) (E : XK) (hr : Room (k + 1) (Ar.deeper (envOfC qual (defScope st) s.heap.objs.size f cdv))) :
    PSs (cxD P w K mg base N qual st f cdv Ar outer s H E) (defBody st) (tS (tabOf P w K M as) (WD E) (runB Φ n b)) := by
  rw [← hb]
  refine compB_ok (k := k) ⟨⟨rfl, rfl, rfl, rfl, hr, L2N.takes_of rfl rfl rfl rfl, nd⟩, A.ok, Sd, rfl, rfl, kd, rfl, fun i x e => gtS_at e, fun i x e => gtS_at e, fun i x e => gtS_at e, fun i x e => gtS_at e, A.blt, A.gl⟩ ⟨passes_of rfl, rfl, rfl⟩ _
theorem fn_P {x qual : Str} {st : Stmt} {f : Addr} {fd : FuncData} {N ps mu lsts dcts : List Str} {retF : Bool} {b : List S} {g : List W → Option Ro} (F : Fun K x qual st f fd) (S : FnScope N ps (defScope st)) (A : Amb P w K mg M as) (Sd : SndA P w K mg base M as k Φ) (hb : compB (ccOf M st N mu lsts dcts retF) (defBody st) = b)
    (spec : ∀ ws ro, ws.length = ps.length → g ws = some ro → ∃ n, endP (runB Φ n b (startE N.length ws) []) = some ro) : FnOk P w K mg base (L2N.CX P w) (k + 2) f fd ps (spP (tabOf P w K M as) ps.length g) :=
  ok_P F S (run := fun n => runB Φ n b) (fun n cdv Ar outer s H E hr => body_ok A Sd S.nd S.kind hb n cdv Ar outer s H E hr) spec
theorem fn_M {x qual : Str} {st : Stmt} {f : Addr} {fd : FuncData} {N ps mu lsts dcts : List Str} {retF : Bool} {b : List S} {ext : Nat} {g : List W → List Cell → R Rv} (F : Fun K x qual st f fd) (S : FnScope N ps (defScope st)) (A : Amb P w K mg M as) (Sd : SndA P w K mg base M as k Φ) (hb : compB (ccOf M st N mu lsts dcts retF) (defBody st) = b)
    (spec : ∀ ws s, ws.length = ps.length → closedS s.length s = true → g ws s ≠ .no → ∃ n, endM (s.length + ext) (runB Φ n b (startE N.length ws) s) = g ws s) : FnOk P w K mg base (L2N.CX P w) (k + 2) f fd ps (spM (tabOf P w K M as) ps.length g) :=
  ok_M F S (run := fun n => runB Φ n b) (fun n cdv Ar outer s H E hr => body_ok A Sd S.nd S.kind hb n cdv Ar outer s H E hr) spec
theorem fn_I {x qual : Str} {st : Stmt} {f : Addr} {fd : FuncData} {N ps mu lsts dcts : List Str} {retF : Bool} {b : List S} {c n : Nat} {g : List W → Option (Except Xc (List (Nat × PyData)))} (F : Fun K x qual st f fd) (S : FnScope N ps (defScope st)) (hps : ps.length = n + 1) (A : Amb P w K mg M as) (Sd : SndA P w K mg base M as k Φ) (hb : compB (ccOf M st N mu lsts dcts retF) (defBody st) = b)
    (spec : ∀ ws r, ws.length = n → g ws = some r → ∃ m, endI c (runB Φ m b (startE N.length (.h 0 :: ws)) [.ins c []]) = some r) : FnOk P w K mg base (L2N.CX P w) (k + 2) f fd ps (spI (tabOf P w K M as) c n g) :=
  ok_I F S hps (run := fun n => runB Φ n b) (fun n cdv Ar outer s H E hr => body_ok A Sd S.nd S.kind hb n cdv Ar outer s H E hr) spec
/-! ### the law -/
def spLaw (K : PySem.W.Frag) : Sp := fun vs H Q _ => ∃ (a : Addr) (ns : List Int), vs = [.ref a] ∧ SqL K H a (ns.map V.int) ∧ ns.length ≤ 63 ∧ ∀ H', Q (.bl true) H'
theorem ints_dp {G : Hp} : ∀ ns : List Int, DpAll K G (ns.map V.int) (ns.map PyData.int)
  | [] => .nil
  | n :: ns => .cons (.int n) (ints_dp ns)
theorem law_P {f : Addr} {fd : FuncData} {x : Str} {g : List W → Option Ro} (F : FnOk P w K mg base (L2N.CX P w) k f fd [x] (spP (tabOf P w K M as) 1 g))
    (h : ∀ ns : List Int, ns.length ≤ 63 → g [.d (.list (ns.map .int))] = some (.ret (.d (.bool true)))) : FnOk P w K mg base (L2N.CX P w) k f fd [x] (spLaw K) :=
  F.imp fun vs H Q E ⟨a, ns, e, hS, hl, q⟩ => by
    subst e
    refine ⟨rfl, H, [.d (.list (ns.map .int))], Same.refl H, .cons (show Dp K H (.ref a) (.list (ns.map .int)) from .lst hS (ints_dp ns)) .nil, ?_⟩
    rw [h ns hl]
    intro v H' G' _ _ _ rv
    obtain rfl := (show Dp K G' v (.bool true) from rv).bl_inv
    exact q H'
theorem walkX {l : PySem.W.OpenLaw} {q : Program} {loose : List Str} {XP : (Str → Option Value) → Heap → Prop} {YP : World → Heap → Prop} {d : DefRec} {K : Params → PySem.W.Frag} {x : Str} (k : Nat)
    (hn : l.most = some 63) (hdf : d.params.defaults = []) (hr : Room k callerA)
    (hY : ∀ (w : World) (h : Heap), YP w h → (K w.params).In h)
    (F : ∀ (w : World) (mg : Str → Option Value) (fa : Addr) (h : Heap), (K w.params).In h → XP mg h → h.Ns mainGlobals mg → mg d.name = some (.ref fa) →
      ∃ fd : FuncData, (∀ (s : Shared) (u : Value), BindsTo s fd ⟨[u], []⟩ [(x, u)]) ∧
        ∀ base : Heap, (K w.params).In base → base.Ns mainGlobals mg → FnOk l.prog w (K w.params) mg base (L2N.CX l.prog w) k fa fd [x] (spLaw (K w.params))) :
    PySem.W.WalkO q loose XP YP l.row.toRowW d [] (fun f vs => PySem.call f vs) := by
  refine Att.attach_call hn hdf fun w s₀ s₁ mg mb fa o pm cd doc a vs ns G Y ho hd hcd hmg hobj hints hlen hg => ?_
  have KX := hY w _ Y
  obtain ⟨fd, hb, hF⟩ := F w mg fa _ KX G.X G.T.g hmg
  refine law_call KX G.T.g G.T.b G.T.builtins G.T.nolimit hg hobj hints (Nat.le_trans hlen (by decide)) hr hF hb (fun H hO hS => ⟨a, ns, rfl, hS, hlen, fun _ => rfl⟩) fun H e s' h => ?_
  obtain ⟨a', B, H', cls, dd, _, _, _, _, _, _, _, h⟩ := h
  exact h
theorem loose_int {p : Program} {lv : List (Str × PySem.W.WData)} {h : Heap} {x : Str} {i : Int} (X : PySem.W.XL p lv mg h) (hm : (x, PySem.W.WData.int i) ∈ lv) : ∃ u v, mg x = some u ∧ RelV v u ∧ ∀ G, Dp K G v (.int i) := by
  obtain ⟨u, h1, h2⟩ := X.2.val _ hm
  cases h2
  exact ⟨_, .int i, h1, ⟨_, rfl⟩, fun G => .int i⟩
theorem con_int {x : Str} {i : Int} {t : Tok} (h : mg x = some (.int i t)) : ∃ u v, mg x = some u ∧ RelV v u ∧ ∀ G, Dp K G v (.int i) := ⟨_, .int i, h, ⟨_, rfl⟩, fun G => .int i⟩
end
end DM

set_option maxRecDepth 100000
/-! HT8: what the head says of the exceptions. -/
namespace DH
open PySem PySem.Spec PyProof.Rows L2 DM
section
variable {K : PySem.W.Frag} {mg : Str → Option Value}
theorem kit_ref {t : Value} {C : Addr} {b : Bool} (hs : PySem.W.subIn K t t = some true) (hd : PySem.W.hasDictIn K C = true) (ht : PySem.W.typeIn K (.ref C) = some (.type "type")) (h : PySem.W.subIn K t (.ref C) = some b) : PySem.W.kitOne K t (.ref C) = some b := by
  unfold PySem.W.kitOne
  by_cases e : (t == .ref C) = true
  · rw [if_pos e]
    have e := eq_of_beq e
    subst e
    rw [hs] at h
    exact h
  · rw [if_neg e]
    obtain ⟨cd, hc, _⟩ := PySem.W.any_some hd
    have e2 : ((PySem.W.clsIn K C).isSome && PySem.W.typeIn K (.ref C) == some (.type "type")) = true := by rw [hc, ht] <;> rfl
    show (if ((PySem.W.clsIn K C).isSome && PySem.W.typeIn K (.ref C) == some (.type "type")) = true then PySem.W.subIn K t (.ref C) else none) = some b
    rw [if_pos e2, h]
theorem kit_VE {C : Addr} (h : PySem.W.subIn K (.ref C) (.type "ValueError") = some true) : PySem.W.kitOne K (.ref C) (.type "ValueError") = some true := by
  unfold PySem.W.kitOne
  by_cases e : (Value.ref C == .type "ValueError") = true
  · rw [if_pos e]
  · rw [if_neg e]
    show (if PySem.W.kitMeta "ValueError" = true then PySem.W.subIn K (.ref C) (.type "ValueError") else none) = some true
    rw [if_pos (by decide +kernel), h]
/-- what is known of an own exception class -/
structure XcF (K : PySem.W.Frag) (C : Addr) : Prop where
  d : PySem.W.hasDictIn K C = true
  t : PySem.W.typeIn K (.ref C) = some (.type "type")
  s : PySem.W.subIn K (.ref C) (.type "BaseException") = some true
theorem isk_mk {D C1 C2 C3 C4 C5 : Addr} {b1 b2 b3 b4 b5 : Bool} (hs : PySem.W.subIn K (.ref D) (.ref D) = some true) (m1 : mg "BadSet" = some (.ref C1)) (f1 : XcF K C1) (s1 : PySem.W.subIn K (.ref D) (.ref C1) = some b1) (m2 : mg "BadSpot" = some (.ref C2)) (f2 : XcF K C2) (s2 : PySem.W.subIn K (.ref D) (.ref C2) = some b2)
    (m3 : mg "NoLaying" = some (.ref C3)) (f3 : XcF K C3) (s3 : PySem.W.subIn K (.ref D) (.ref C3) = some b3) (m4 : mg "TooMany" = some (.ref C4)) (f4 : XcF K C4) (s4 : PySem.W.subIn K (.ref D) (.ref C4) = some b4) (m5 : mg "BadText" = some (.ref C5)) (f5 : XcF K C5) (s5 : PySem.W.subIn K (.ref D) (.ref C5) = some b5)
    (sv : PySem.W.subIn K (.ref D) (.type "ValueError") = some true) (ec : ExcC K D) : IsK K mg D [b1, b2, b3, b4, b5] :=
  ⟨⟨C1, C2, C3, C4, C5, b1, b2, b3, b4, b5, rfl, ⟨m1, kit_ref hs f1.d f1.t s1⟩, ⟨m2, kit_ref hs f2.d f2.t s2⟩, ⟨m3, kit_ref hs f3.d f3.t s3⟩, ⟨m4, kit_ref hs f4.d f4.t s4⟩, ⟨m5, kit_ref hs f5.d f5.t s5⟩, kit_VE sv⟩, ec⟩
end
/-- the scope of the comprehension in the law's word -/
def isScope (st : Stmt) : Scope := match defBody st with
  | [_, _, _, .Return (some (.BoolOp _ [_, .Compare _ _ [.ListComp _ _ scope _] _] _)) _] => scope
  | _ => defScope st
end DH

set_option maxRecDepth 100000
/-! L1: what a def is worth, as its run; the dice. -/
namespace DM
open PySem
def gP (Φ : Phi) (n : Nat) (b : List S) (N : Nat) : List W → Option Ro := fun ws => endP (runB Φ n b (startE N ws) [])
def gM (Φ : Phi) (n : Nat) (b : List S) (N ext : Nat) : List W → List Cell → R Rv := fun ws s => endM (s.length + ext) (runB Φ n b (startE N ws) s)
def gI (c : Nat) (Φ : Phi) (n : Nat) (b : List S) (N : Nat) : List W → Option (Except Xc (List (Nat × PyData))) := fun ws => endI c (runB Φ n b (startE N (.h 0 :: ws)) [.ins c []])
/-! running by simp: what comes later is looked at later -/
@[simp ↓] theorem bind_m {β γ : Type} (r : R β) (k : β → List Cell → R γ) : r.bind k = (match r with | .ok a s => k a s | .ex x s => .ex x s | .no => .no) := by cases r <;> rfl
@[simp ↓] theorem st_m {β : Type} (r : R β) (ρ : Env) (k : β → List Cell → RS) : r.st ρ k = (match r with | .ok a s => k a s | .ex x s => .ok (.ex x, ρ) s | .no => .no) := by cases r <;> rfl
@[simp ↓] theorem sq_m (r : RS) (k : Env → List Cell → RS) : R.sq r k = (match r with | .ok (.nx, ρ) s => k ρ s | r => r) := by
  cases r with
  | ok q s => obtain ⟨o, ρ⟩ := q; cases o <;> rfl
  | _ => rfl
@[simp ↓] theorem lp_m (r : RS) (k : Env → List Cell → RS) : R.lp r k = (match r with | .ok (.nx, ρ) s => k ρ s | .ok (.ct, ρ) s => k ρ s | .ok (.brk, ρ) s => .ok (.nx, ρ) s | r => r) := by
  cases r with
  | ok q s => obtain ⟨o, ρ⟩ := q; cases o <;> rfl
  | _ => rfl
/-- a loop's turns -/
def forK (Φ : Phi) (n : Nat) (t : Tg) (b : List S) (items : List PyData) (ρ : Env) (s : List Cell) : RS := forL (fun ρ x => asgT ρ t (.d x)) (fun ρ s => runB Φ n b ρ s) items ρ s
@[simp] theorem forK_nil (Φ : Phi) (n : Nat) (t : Tg) (b : List S) (ρ : Env) (s : List Cell) : forK Φ n t b [] ρ s = .ok (.nx, ρ) s := Eq.trans rfl rfl
theorem forK_cons (Φ : Phi) (n : Nat) (t : Tg) (b : List S) (x : PyData) (xs : List PyData) (ρ : Env) (s : List Cell) : forK Φ n t b (x :: xs) ρ s = (match asgT ρ t (.d x) with | some ρ => R.lp (runB Φ n b ρ s) (forK Φ n t b xs) | none => .no) := Eq.trans rfl rfl
def whileK (Φ : Phi) (n : Nat) (c : E) (b : List S) (m : Nat) (ρ : Env) (s : List Cell) : RS := whileL (fun ρ s => (runE Φ c ρ s).bind tt) (fun ρ s => runB Φ n b ρ s) m ρ s
theorem whileK_succ (Φ : Phi) (n : Nat) (c : E) (b : List S) (m : Nat) (ρ : Env) (s : List Cell) : whileK Φ n c b (m + 1) ρ s = ((runE Φ c ρ s).bind tt).st ρ fun k s => if k then R.lp (runB Φ n b ρ s) (whileK Φ n c b m) else .ok (.nx, ρ) s := Eq.trans rfl rfl
/-- a comprehension's turns -/
def compK (Φ : Phi) (tg : Tg) (own : List Nat) (c : Oe) (e : E) (ρ : Env) (items : List PyData) (s : List Cell) : R (List PyData) := compL (fun x s => match asgT (wipeE ρ own) tg (.d x) with
    | some ρ' => (runC Φ c ρ' s).bind fun b s => if b then (runE Φ e ρ' s).bind fun w s => (frzR w s).bind fun y s => .ok (some y) s else .ok none s
    | none => .no) items s
@[simp] theorem compK_nil (Φ : Phi) (tg : Tg) (own : List Nat) (c : Oe) (e : E) (ρ : Env) (s : List Cell) : compK Φ tg own c e ρ [] s = .ok [] s := Eq.trans rfl rfl
def forS (Φ : Phi) (n : Nat) (t : Tg) (b : List S) (ρ : Env) (r : R (List PyData)) : RS := r.st ρ fun items s => forK Φ n t b items ρ s
@[simp] theorem forS_ok (Φ : Phi) (n : Nat) (t : Tg) (b : List S) (ρ : Env) (items : List PyData) (s : List Cell) : forS Φ n t b ρ (.ok items s) = forK Φ n t b items ρ s := Eq.trans rfl rfl
@[simp] theorem forS_ex (Φ : Phi) (n : Nat) (t : Tg) (b : List S) (ρ : Env) (x : Xc) (s : List Cell) : forS Φ n t b ρ (.ex x s) = .ok (.ex x, ρ) s := Eq.trans rfl rfl
/-- a dict's walk -/
def forDK (Φ : Phi) (n : Nat) (t : Tg) (b : List S) (ρ : Env) (w : W) (s : List Cell) : RS := match lckAt w s with
    | some (i, nd, kvs) => unl i nd kvs (forK Φ n t b (kvs.map (·.1)) ρ (s.set i (.lck nd kvs)))
    | none => .no
def compDK (Φ : Phi) (tg : Tg) (own : List Nat) (c : Oe) (e : E) (ρ : Env) (w : W) (s : List Cell) : R (List PyData) := match lckAt w s with
    | some (i, nd, kvs) => if kvs.length < sizeLine then unl i nd kvs (compK Φ tg own c e ρ (kvs.map (·.1)) (s.set i (.lck nd kvs))) else .no
    | none => .no
/-- a handler -/
def tryK (Φ : Phi) (c : Nat) (e : E) (r : RS) : RS := match Φ.sub c with
    | some f => R.tr r fun x ρ s => match f x.c with
      | some true => R.only (runE Φ e ρ s) ρ
      | some false => .ok (.ex x, ρ) s
      | none => .no
    | none => .no
def compT (Φ : Phi) (tg : Tg) (own : List Nat) (c : Oe) (e : E) (ρ : Env) (r : R (List PyData)) : R (List PyData) := r.bind fun items s => if items.length < sizeLine then compK Φ tg own c e ρ items s else .no
theorem compT_ok1 (Φ : Phi) (tg : Tg) (own : List Nat) (c : Oe) (e : E) (ρ : Env) (items : List PyData) (s : List Cell) (h : items.length < sizeLine) : compT Φ tg own c e ρ (.ok items s) = compK Φ tg own c e ρ items s := by
  show (if items.length < sizeLine then compK Φ tg own c e ρ items s else .no) = _
  rw [if_pos h]
section
variable (Φ : Phi) (ρ : Env) (s : List Cell)
@[simp] theorem rE_var (i : Nat) : runE Φ (.var i) ρ s = (match ρ[i]? with | some (some w) => .ok w s | _ => .no) := Eq.trans rfl rfl
@[simp] theorem rE_cst (x : PyData) : runE Φ (.cst x) ρ s = .ok (.d x) s := Eq.trans rfl rfl
@[simp] theorem rE_bin (op : BinK) (a b : E) : runE Φ (.bin op a b) ρ s = (runE Φ a ρ s).bind fun x s => (runE Φ b ρ s).bind fun y s => match see s x, see s y with | some x, some y => lift ((binD op x y).map .d) s | _, _ => .no := Eq.trans rfl rfl
@[simp] theorem rE_cmp (op : CmpK) (a b : E) : runE Φ (.cmp op a b) ρ s = (runE Φ a ρ s).bind fun x s => (runE Φ b ρ s).bind fun y s => match see s x, see s y with | some x, some y => lift ((cmpD op x y).map fun b => .d (.bool b)) s | _, _ => .no := Eq.trans rfl rfl
@[simp] theorem rE_chain (op op' : CmpK) (a b c : E) : runE Φ (.chain op op' a b c) ρ s = (runE Φ a ρ s).bind fun x s => (runE Φ b ρ s).bind fun y s => match see s x, see s y with
    | some x', some y' => match cmpD op x' y' with
      | some true => (runE Φ c ρ s).bind fun z s => match see s y, see s z with
        | some y, some z => lift ((cmpD op' y z).map fun b => .d (.bool b)) s
        | _, _ => .no
      | some false => .ok (.d (.bool false)) s
      | none => .no
    | _, _ => .no := Eq.trans rfl rfl
@[simp] theorem rE_and (a b : E) : runE Φ (.and a b) ρ s = (runE Φ a ρ s).bind fun x s => (tt x s).bind fun c s => if c then runE Φ b ρ s else .ok (.d (.bool false)) s := Eq.trans rfl rfl
@[simp] theorem rE_or (a b : E) : runE Φ (.or a b) ρ s = (runE Φ a ρ s).bind fun x s => (tt x s).bind fun c s => if c then .ok (.d (.bool true)) s else runE Φ b ρ s := Eq.trans rfl rfl
@[simp] theorem rE_not (a : E) : runE Φ (.not a) ρ s = (runE Φ a ρ s).bind fun x s => (tt x s).bind fun c s => .ok (.d (.bool (!c))) s := Eq.trans rfl rfl
@[simp] theorem rE_ite (c a b : E) : runE Φ (.ite c a b) ρ s = (runE Φ c ρ s).bind fun x s => (tt x s).bind fun c s => if c then runE Φ a ρ s else runE Φ b ρ s := Eq.trans rfl rfl
@[simp] theorem rE_tup (es : Es) : runE Φ (.tup es) ρ s = (runEs Φ es ρ s).bind fun ws s => (frzsR ws s).bind fun xs s => if xs.length ≤ sizeLine then .ok (.d (.tuple xs)) s else .no := Eq.trans rfl rfl
@[simp] theorem rE_idx (a i : E) : runE Φ (.idx a i) ρ s = (runE Φ a ρ s).bind fun x s => (runE Φ i ρ s).bind fun y s => (ii y s).bind fun j s => match see s x with
    | some (.list l) => lift ((atD l j).map .d) s
    | some (.tuple l) => lift ((atD l j).map .d) s
    | _ => .no := Eq.trans rfl rfl
@[simp] theorem rE_slc (a : E) (lo hi : Oe) : runE Φ (.slc a lo hi) ρ s = (runE Φ a ρ s).bind fun x s => (runO Φ lo ρ s).bind fun l s => (runO Φ hi ρ s).bind fun h s => match see s x with
    | some (.tuple xs) => .ok (.d (.tuple (cut xs l h))) s
    | some (.list xs) => .ok (.d (.list (cut xs l h))) s
    | _ => .no := Eq.trans rfl rfl
@[simp] theorem rE_neg (a : E) : runE Φ (.neg a) ρ s = (runE Φ a ρ s).bind fun x s => (ii x s).bind fun i s => .ok (.d (.int (-i))) s := Eq.trans rfl rfl
@[simp] theorem rE_fld (a : E) (f : Nat) : runE Φ (.fld a f) ρ s = (runE Φ a ρ s).bind fun x s => lift (fldW s f x) s := Eq.trans rfl rfl
@[simp] theorem rE_call (f : Nat) (es : Es) : runE Φ (.call f es) ρ s = (match Φ.fn f with | some φ => (runEs Φ es ρ s).bind fun ws s => callF φ ws s | none => .no) := Eq.trans rfl rfl
@[simp] theorem rE_meth (o : E) (m : Nat) (es : Es) : runE Φ (.meth o m es) ρ s = (runE Φ o ρ s).bind fun w s => match clsOf s w with
    | some c => match Φ.mt c m with
      | some φ => (runEs Φ es ρ s).bind fun ws s => callF φ (w :: ws) s
      | none => .no
    | none => .no := Eq.trans rfl rfl
@[simp] theorem rE_mk (c : Nat) (es : Es) : runE Φ (.mk c es) ρ s = (match Φ.cl c with | some φ => (runEs Φ es ρ s).bind fun ws s => mkF φ c ws s | none => .no) := Eq.trans rfl rfl
@[simp] theorem rE_bi (b : BiK) (es : Es) : runE Φ (.bi b es) ρ s = (runEs Φ es ρ s).bind fun ws s => match seeAll s ws with | some xs => lift ((biD b xs).map .d) s | none => .no := Eq.trans rfl rfl
@[simp] theorem rE_tupOf (e : E) : runE Φ (.tupOf e) ρ s = (runE Φ e ρ s).bind fun w s => match see s w with
    | some (.list l) => .ok (.d (.tuple l)) s
    | some (.tuple l) => .ok (.d (.tuple l)) s
    | _ => .no := Eq.trans rfl rfl
@[simp] theorem rE_isi (t : TyK) (e : E) : runE Φ (.isi t e) ρ s = (runE Φ e ρ s).bind fun w s => match see s w with | some x => .ok (.d (.bool (isiD t x))) s | none => .no := Eq.trans rfl rfl
@[simp] theorem rE_app (o e : E) : runE Φ (.app o e) ρ s = (runE Φ o ρ s).bind fun w s => if isL w s then (runE Φ e ρ s).bind fun v s => (frzR v s).bind fun x s => appW w x s else .no := Eq.trans rfl rfl
@[simp] theorem rE_pop (o : E) : runE Φ (.pop o) ρ s = (runE Φ o ρ s).bind fun w s => popW w s := Eq.trans rfl rfl
@[simp] theorem rE_clr (o : E) : runE Φ (.clr o) ρ s = (runE Φ o ρ s).bind fun w s => clrW w s := Eq.trans rfl rfl
@[simp] theorem rE_dnew (nd : Bool) : runE Φ (.dnew nd) ρ s = .ok (.h s.length) (s ++ [.dct nd []]) := Eq.trans rfl rfl
@[simp] theorem rE_din (neg : Bool) (a b : E) : runE Φ (.din neg a b) ρ s = (runE Φ a ρ s).bind fun x s => (runE Φ b ρ s).bind fun y s => match getDW y x s with
    | some r => .ok (.d (.bool (if neg then !r.isSome else r.isSome))) s
    | none => .no := Eq.trans rfl rfl
@[simp] theorem rE_dget (a k : E) : runE Φ (.dget a k) ρ s = (runE Φ a ρ s).bind fun x s => (runE Φ k ρ s).bind fun y s => match getDW x y s with
    | some (some r) => .ok (.d r) s
    | _ => .no := Eq.trans rfl rfl
@[simp] theorem rE_dgetD (a k z : E) : runE Φ (.dgetD a k z) ρ s = (runE Φ a ρ s).bind fun x s => if (dctOf s x).isSome then (runE Φ k ρ s).bind fun y s => (runE Φ z ρ s).bind fun v s => match getDW x y s with
    | some (some r) => .ok (.d r) s
    | some none => .ok v s
    | none => .no
    else .no := Eq.trans rfl rfl
@[simp] theorem rE_cls (c m : Nat) (es : Es) : runE Φ (.cls c m es) ρ s = (match Φ.cm c m with | some φ => (runEs Φ es ρ s).bind fun ws s => callF φ ws s | none => .no) := Eq.trans rfl rfl
@[simp] theorem rE_frz (e : E) : runE Φ (.frz e) ρ s = (runE Φ e ρ s).bind fun w s => (frzR w s).bind fun x s => .ok (.d x) s := Eq.trans rfl rfl
@[simp] theorem rE_thc (f : Nat) (es : Es) : runE Φ (.thc f es) ρ s = (match Φ.fn f with | some φ => (runEs Φ es ρ s).bind fun ws s => callT φ ws s | none => .no) := Eq.trans rfl rfl
@[simp] theorem rE_thm (o : E) (m : Nat) (es : Es) : runE Φ (.thm o m es) ρ s = (runE Φ o ρ s).bind fun w s => match clsOf s w with
    | some c => match Φ.mt c m with
      | some φ => (runEs Φ es ρ s).bind fun ws s => callT φ (w :: ws) s
      | none => .no
    | none => .no := Eq.trans rfl rfl
@[simp] theorem rF_lrng (a : E) : runF Φ (.lrng a) ρ s = (runE Φ a ρ s).bind fun x s => (ii x s).bind fun j s => if decide (j ≤ 16777216) && decide (-4611686018427387904 ≤ j) then .ok (upTo 0 j.toNat) s else .no := Eq.trans rfl rfl
@[simp] theorem rE_fr (f : F) : runE Φ (.fr f) ρ s = (runF Φ f ρ s).bind fun l s => .ok (.d (.list l)) s := Eq.trans rfl rfl
@[simp] theorem rE_th (f : F) : runE Φ (.th f) ρ s = (runF Φ f ρ s).bind fun l s => .ok (.h s.length) (s ++ [.lst l]) := Eq.trans rfl rfl
@[simp] theorem rE_no : runE Φ .no ρ s = .no := Eq.trans rfl rfl
@[simp] theorem rF_lst (es : Es) : runF Φ (.lst es) ρ s = (runEs Φ es ρ s).bind fun ws s => (frzsR ws s).bind fun xs s => if xs.length ≤ sizeLine then .ok xs s else .no := Eq.trans rfl rfl
@[simp] theorem rF_comp (it : It) (tg : Tg) (own : List Nat) (c : Oe) (e : E) : runF Φ (.comp it tg own c e) ρ s = compT Φ tg own c e ρ (runI Φ it ρ s) := Eq.trans rfl rfl
@[simp] theorem rF_compD (d : E) (tg : Tg) (own : List Nat) (c : Oe) (e : E) : runF Φ (.compD d tg own c e) ρ s = (runE Φ d ρ s).bind fun w s => compDK Φ tg own c e ρ w s := Eq.trans rfl rfl
@[simp] theorem rE_dcopy (e : E) : runE Φ (.dcopy e) ρ s = (runE Φ e ρ s).bind fun w s => match dctOf s w with
    | some (nd, kvs) => if copyOk nd kvs then .ok (.h s.length) (s ++ [.dct nd kvs]) else .no
    | none => .no := Eq.trans rfl rfl
@[simp] theorem rE_dlit (k v : E) : runE Φ (.dlit k v) ρ s = (runE Φ k ρ s).bind fun y s1 => (runE Φ v ρ s1).bind fun x s1 => (frzR y s1).bind fun key s1 => (frzR x s1).bind fun xv s1 => if (fkO key).isSome && decide (s1.length = s.length) then .ok (.h s1.length) (s1 ++ [.dct false [(key, xv)]]) else .no := Eq.trans rfl rfl
@[simp] theorem rF_call (f : Nat) (es : Es) : runF Φ (.call f es) ρ s = (match Φ.fn f with | some φ => (runEs Φ es ρ s).bind fun ws s => callL φ ws s | none => .no) := Eq.trans rfl rfl
@[simp] theorem rF_meth (o : E) (m : Nat) (es : Es) : runF Φ (.meth o m es) ρ s = (runE Φ o ρ s).bind fun w s => match clsOf s w with
    | some c => match Φ.mt c m with
      | some φ => (runEs Φ es ρ s).bind fun ws s => callL φ (w :: ws) s
      | none => .no
    | none => .no := Eq.trans rfl rfl
@[simp] theorem rF_list (e : E) : runF Φ (.list e) ρ s = (runE Φ e ρ s).bind fun w s => match see s w with | some x => lift (seqOf x) s | none => .no := Eq.trans rfl rfl
@[simp] theorem rF_sll (a : E) (lo hi : Oe) : runF Φ (.sll a lo hi) ρ s = (runE Φ a ρ s).bind fun x s => (runO Φ lo ρ s).bind fun l s => (runO Φ hi ρ s).bind fun h s => match see s x with
    | some (.list xs) => .ok (cut xs l h) s
    | _ => .no := Eq.trans rfl rfl
@[simp] theorem rF_add (a b : E) : runF Φ (.add a b) ρ s = (runE Φ a ρ s).bind fun x s => (runE Φ b ρ s).bind fun y s => match see s x, see s y with
    | some (.list xs), some (.list ys) => if xs.length + ys.length ≤ sizeLine then .ok (xs ++ ys) s else .no
    | _, _ => .no := Eq.trans rfl rfl
@[simp] theorem rF_mul (a : F) (b : E) : runF Φ (.mul a b) ρ s = (runF Φ a ρ s).bind fun xs s => (runE Φ b ρ s).bind fun y s => (ii y s).bind fun k s =>
    if decide (-(2 ^ 63) ≤ k) && decide (k < 2 ^ 63) && decide (xs.length * k.toNat ≤ sizeLine) then .ok (List.replicate k.toNat xs).flatten s else .no := Eq.trans rfl rfl
@[simp] theorem rEs_nil : runEs Φ .nil ρ s = .ok [] s := Eq.trans rfl rfl
@[simp] theorem rEs_cons (e : E) (es : Es) : runEs Φ (.cons e es) ρ s = (runE Φ e ρ s).bind fun w s => (runEs Φ es ρ s).bind fun ws s => .ok (w :: ws) s := Eq.trans rfl rfl
@[simp] theorem rO_none : runO Φ .none ρ s = .ok none s := Eq.trans rfl rfl
@[simp] theorem rO_some (e : E) : runO Φ (.some e) ρ s = (runE Φ e ρ s).bind fun w s => (ii w s).bind fun i s => .ok (some i) s := Eq.trans rfl rfl
@[simp] theorem rC_none : runC Φ .none ρ s = .ok true s := Eq.trans rfl rfl
@[simp] theorem rC_some (e : E) : runC Φ (.some e) ρ s = (runE Φ e ρ s).bind fun w s => tt w s := Eq.trans rfl rfl
@[simp] theorem rI_seq (e : E) : runI Φ (.seq e) ρ s = (runE Φ e ρ s).bind fun w s => (frzR w s).bind fun x s => lift (seqOf x) s := Eq.trans rfl rfl
@[simp] theorem rI_rng1 (a : E) : runI Φ (.rng1 a) ρ s = (runE Φ a ρ s).bind fun x s => (ii x s).bind fun j s => if smallI j then .ok (upTo 0 j.toNat) s else .no := Eq.trans rfl rfl
@[simp] theorem rI_rng2 (a b : E) : runI Φ (.rng2 a b) ρ s = (runE Φ a ρ s).bind fun x s => (runE Φ b ρ s).bind fun y s => (ii x s).bind fun i s => (ii y s).bind fun j s => if smallI i && smallI j then .ok (upTo i (j - i).toNat) s else .no := Eq.trans rfl rfl
@[simp] theorem rI_rng3 (a b c : E) : runI Φ (.rng3 a b c) ρ s = (runE Φ a ρ s).bind fun x s => (runE Φ b ρ s).bind fun y s => (runE Φ c ρ s).bind fun z s => (ii x s).bind fun i s => (ii y s).bind fun j s => (ii z s).bind fun k s => if smallI i && smallI j && decide (k = -1) then .ok (dnTo i (i - j).toNat) s else .no := Eq.trans rfl rfl
variable (n : Nat)
@[simp] theorem rS_asg (t : Tg) (e : E) : runS Φ n (.asg t e) ρ s = (runE Φ e ρ s).st ρ fun w s => match asgT ρ t w with | some ρ => .ok (.nx, ρ) s | none => .no := Eq.trans rfl rfl
@[simp] theorem rS_par (is : List Nat) (es : Es) : runS Φ n (.par is es) ρ s = (runEs Φ es ρ s).st ρ fun ws s => match setWs ρ is ws with | some ρ => .ok (.nx, ρ) s | none => .no := Eq.trans rfl rfl
@[simp] theorem rS_setF (o : E) (f : Nat) (e : E) : runS Φ n (.setF o f e) ρ s = ((runE Φ e ρ s).bind fun v s => (runE Φ o ρ s).bind fun w s => setFW Φ w f v s).st ρ fun _ s => .ok (.nx, ρ) s := Eq.trans rfl rfl
@[simp] theorem rS_setI (o i e : E) : runS Φ n (.setI o i e) ρ s = ((runE Φ e ρ s).bind fun v s => (runE Φ o ρ s).bind fun w s => (runE Φ i ρ s).bind fun k s => (ii k s).bind fun k s => (frzR v s).bind fun x s => setIW w k x s).st ρ fun _ s => .ok (.nx, ρ) s := Eq.trans rfl rfl
@[simp] theorem rS_setD (o k e : E) : runS Φ n (.setD o k e) ρ s = ((runE Φ e ρ s).bind fun v s => (runE Φ o ρ s).bind fun w s => (runE Φ k ρ s).bind fun y s => (frzR v s).bind fun x s => (frzR y s).bind fun key s => putDW w key x s).st ρ fun _ s => .ok (.nx, ρ) s := Eq.trans rfl rfl
@[simp] theorem rS_ex (e : E) : runS Φ n (.ex e) ρ s = (runE Φ e ρ s).st ρ fun _ s => .ok (.nx, ρ) s := Eq.trans rfl rfl
@[simp] theorem rS_ret (e : E) : runS Φ n (.ret e) ρ s = (runE Φ e ρ s).st ρ fun w s => .ok (.ret w, ρ) s := Eq.trans rfl rfl
@[simp] theorem rS_retN : runS Φ n .retN ρ s = .ok (.ret (.d .none), ρ) s := Eq.trans rfl rfl
@[simp] theorem rS_ite (c : E) (a b : List S) : runS Φ n (.ite c a b) ρ s = ((runE Φ c ρ s).bind tt).st ρ fun k s => if k then runB Φ n a ρ s else runB Φ n b ρ s := Eq.trans rfl rfl
@[simp] theorem rS_while (c : E) (b : List S) : runS Φ n (.while c b) ρ s = whileK Φ n c b n ρ s := Eq.trans rfl rfl
@[simp] theorem rS_for (t : Tg) (it : It) (b : List S) : runS Φ n (.for t it b) ρ s = forS Φ n t b ρ (runI Φ it ρ s) := Eq.trans rfl rfl
@[simp] theorem rS_forD (t : Tg) (e : E) (b : List S) : runS Φ n (.forD t e b) ρ s = (runE Φ e ρ s).st ρ fun w s => forDK Φ n t b ρ w s := Eq.trans rfl rfl
@[simp] theorem rS_raise (c : Nat) : runS Φ n (.raise c) ρ s = (if Φ.xc c then .ok (.ex ⟨c, []⟩, ρ) s else .no) := Eq.trans rfl rfl
@[simp] theorem rS_try (b : List S) (c : Nat) (e : E) : runS Φ n (.try b c e) ρ s = tryK Φ c e (runB Φ n b ρ s) := Eq.trans rfl rfl
@[simp] theorem rS_raiseA (c : Nat) (es : Es) : runS Φ n (.raiseA c es) ρ s = (match Φ.hx.xi c with
    | some fs => (runEs Φ es ρ s).st ρ fun ws s => match flatAll ws with
      | some xs => if xs.length = fs.length ∧ fs.length ≤ 9 then .ok (.ex ⟨c, (fs.zip xs).reverse⟩, ρ) s else .no
      | none => .no
    | none => .no) := Eq.trans rfl rfl
theorem tryAs_nx {b : List S} {c i : Nat} {h : HE} {f : Nat → Option Bool} {ρ1 : Env} {s1 : List Cell} (hs : Φ.sub c = some f) (e : runB Φ n b ρ s = .ok (.nx, ρ1) s1) : runS Φ n (.tryAs b c i h) ρ s = .ok (.nx, ρ1) s1 := by
  show (match Φ.sub c with | some f => R.tr (runB Φ n b ρ s) _ | none => .no) = _
  rw [hs, e]
  rfl
theorem tryAs_ret {b : List S} {c i : Nat} {h : HE} {f : Nat → Option Bool} {ρ1 : Env} {w : W} {s1 : List Cell} (hs : Φ.sub c = some f) (e : runB Φ n b ρ s = .ok (.ret w, ρ1) s1) : runS Φ n (.tryAs b c i h) ρ s = .ok (.ret w, ρ1) s1 := by
  show (match Φ.sub c with | some f => R.tr (runB Φ n b ρ s) _ | none => .no) = _
  rw [hs, e]
  rfl
theorem tryAs_ex {b : List S} {c i : Nat} {h : HE} {f : Nat → Option Bool} {x : Xc} {ρ1 : Env} {w : W} {s1 s2 : List Cell} (hs : Φ.sub c = some f) (e : runB Φ n b ρ s = .ok (.ex x, ρ1) s1) (hx : f x.c = some true) (hi : i < ρ1.length) (hh : runH Φ x h (ρ1.set i none) s1 = .ok w s2) :
    runS Φ n (.tryAs b c i h) ρ s = .ok (.ret w, ρ1.set i none) s2 := by
  show (match Φ.sub c with | some f => R.tr (runB Φ n b ρ s) _ | none => .no) = _
  rw [hs, e]
  show (match f x.c with | some true => if i < ρ1.length then R.only (runH Φ x h (ρ1.set i none) s1) (ρ1.set i none) else .no | some false => _ | none => _) = _
  rw [hx]
  simp only
  rw [if_pos hi, hh]
  rfl
@[simp] theorem rS_pass : runS Φ n .pass ρ s = .ok (.nx, ρ) s := Eq.trans rfl rfl
@[simp] theorem rS_brk : runS Φ n .brk ρ s = .ok (.brk, ρ) s := Eq.trans rfl rfl
@[simp] theorem rS_ct : runS Φ n .ct ρ s = .ok (.ct, ρ) s := Eq.trans rfl rfl
@[simp] theorem rS_no : runS Φ n .no ρ s = .no := Eq.trans rfl rfl
@[simp] theorem rB_nil : runB Φ n [] ρ s = .ok (.nx, ρ) s := Eq.trans rfl rfl
@[simp] theorem rB_cons (c : S) (cs : List S) : runB Φ n (c :: cs) ρ s = R.sq (runS Φ n c ρ s) (runB Φ n cs) := Eq.trans rfl rfl
end
@[simp] theorem see_d (s : List Cell) (x : PyData) : see s (.d x) = some x := rfl
@[simp] theorem frz_d (s : List Cell) (x : PyData) : frz s (.d x) = some (x, s) := rfl
@[simp] theorem b_add (i j : Int) : binD .add (.int i) (.int j) = some (.int (i + j)) := rfl
@[simp] theorem b_sub (i j : Int) : binD .sub (.int i) (.int j) = some (.int (i - j)) := rfl
theorem b_mul {i j : Int} (h : mulOk i j = true) : binD .mul (.int i) (.int j) = some (.int (i * j)) := by show (if mulOk i j = true then _ else _) = _; rw [if_pos h]
theorem b_div {i j : Int} (h : divOk j = true) : binD .fdiv (.int i) (.int j) = some (.int (i / j)) := by show (if divOk j = true then _ else _) = _; rw [if_pos h]
theorem b_mod {i j : Int} (h : 0 < j) : binD .mod (.int i) (.int j) = some (.int (i % j)) := by show (if decide (0 < j) = true then _ else _) = _; rw [if_pos (by simpa using h)]
@[simp] theorem c_lt (i j : Int) : cmpD .lt (.int i) (.int j) = some (decide (i < j)) := rfl
@[simp] theorem c_le (i j : Int) : cmpD .le (.int i) (.int j) = some (decide (i ≤ j)) := rfl
@[simp] theorem c_gt (i j : Int) : cmpD .gt (.int i) (.int j) = some (decide (j < i)) := rfl
@[simp] theorem c_ge (i j : Int) : cmpD .ge (.int i) (.int j) = some (decide (j ≤ i)) := rfl
@[simp] theorem c_eq (i j : Int) : cmpD .eq (.int i) (.int j) = some (decide (i = j)) := rfl
@[simp] theorem c_ne (i j : Int) : cmpD .ne (.int i) (.int j) = some (!decide (i = j)) := rfl
@[simp] theorem bi_lenL (l : List PyData) : biD .len [.list l] = some (.int l.length) := rfl
@[simp] theorem bi_lenT (l : List PyData) : biD .len [.tuple l] = some (.int l.length) := rfl
@[simp] theorem tt_b (b : Bool) (s : List Cell) : tt (.d (.bool b)) s = .ok b s := rfl
@[simp] theorem ii_i (i : Int) (s : List Cell) : ii (.d (.int i)) s = .ok i s := rfl
@[simp] theorem lift_s {β : Type} (a : β) (s : List Cell) : lift (some a) s = .ok a s := rfl
@[simp] theorem seqOf_l (l : List PyData) : seqOf (.list l) = some l := rfl
@[simp] theorem seqOf_t (l : List PyData) : seqOf (.tuple l) = some l := rfl
theorem mulR (i : Int) {j : Int} (h : -(2 ^ 64) < j ∧ j < 2 ^ 64) : mulOk i j = true := by unfold mulOk; simp only [Bool.or_eq_true, Bool.and_eq_true, decide_eq_true_eq]; exact .inr h
/-! the dice: a cell -/
def dcell (sc : List Int) (at_ mx lf : Int) : Cell := .lst [.list (sc.map .int), .int at_, .int mx, .int lf]
def OkDice (c : Cell) : Prop := ∃ sc at_ mx lf, c = dcell sc at_ mx lf ∧ 0 ≤ at_ ∧ sc.length ≤ 63
theorem closed_set {s : List Cell} {i k : Nat} {l : List PyData} (h : closedS k s = true) : closedS k (s.set i (.lst l)) = true := by
  unfold closedS at h ⊢
  rw [List.all_eq_true] at h ⊢
  intro c hc
  rcases List.mem_or_eq_of_mem_set hc with hm | rfl
  · exact h c hm
  · rfl
theorem atD_nat {l : List PyData} {j : Int} {x : PyData} (h0 : 0 ≤ j) (h : l[j.toNat]? = some x) : atD l j = some x := by
  have hl := (List.getElem?_eq_some_iff.mp h).1
  unfold atD ixD
  rw [if_pos h0, if_pos (by omega)]
  exact h
theorem at4_0 (a b c d : PyData) : atD [a, b, c, d] 0 = some a := rfl
theorem at4_1 (a b c d : PyData) : atD [a, b, c, d] 1 = some b := rfl
theorem at4_2 (a b c d : PyData) : atD [a, b, c, d] 2 = some c := rfl
theorem at4_3 (a b c d : PyData) : atD [a, b, c, d] 3 = some d := rfl
theorem divOk7 : divOk 7 = true := rfl
def B_next : List S := [(.ite (.cmp .gt (.idx (.var 0) (.cst (.int 3))) (.cst (.int 0))) [(.asg (.n 2) (.bin .mod (.idx (.var 0) (.cst (.int 3))) (.var 1))), (.setI (.var 0) (.cst (.int 3)) (.bin .fdiv (.idx (.var 0) (.cst (.int 3))) (.var 1))), (.ret (.var 2))] []), (.setI (.var 0) (.cst (.int 1)) (.bin .add (.idx (.var 0) (.cst (.int 1))) (.cst (.int 1)))), (.ite (.cmp .le (.idx (.var 0) (.cst (.int 1))) (.bi .len (.cons (.idx (.var 0) (.cst (.int 0))) .nil))) [(.asg (.n 3) (.idx (.idx (.var 0) (.cst (.int 0))) (.bin .sub (.idx (.var 0) (.cst (.int 1))) (.cst (.int 1))))), (.setI (.var 0) (.cst (.int 3)) (.ite (.cmp .ge (.var 3) (.bin .pow (.cst (.int 10)) (.cst (.int 18)))) (.bin .fdiv (.var 3) (.var 1)) (.cst (.int 0)))), (.ret (.bin .mod (.var 3) (.var 1)))] []), (.setI (.var 0) (.cst (.int 2)) (.bin .mod (.bin .mul (.idx (.var 0) (.cst (.int 2))) (.cst (.int 48271))) (.cst (.int 2147483647)))), (.ret (.bin .mod (.bin .fdiv (.idx (.var 0) (.cst (.int 2))) (.cst (.int 7))) (.var 1)))]
theorem see_h {s : List Cell} {i : Nat} {l : List PyData} (h : s[i]? = some (.lst l)) : see s (.h i) = some (.list l) := by simp only [see, h]
theorem pow18 : binD .pow (.int 10) (.int 18) = some (.int 1000000000000000000) := by rfl
theorem next_run (Φ : Phi) (n : Nat) {s : List Cell} {i : Nat} {c : Cell} {m : Int} (hd : OkDice c) (h : s[i]? = some c) (hs : closedS s.length s = true) (h0 : 0 < m) (h1 : m < 9223372036854775808) :
    ∃ r c', 0 ≤ r ∧ r < m ∧ OkDice c' ∧ gM Φ n B_next 4 0 [.h i, .d (.int m)] s = .ok (.w (.d (.int r))) (s.set i c') := by
  obtain ⟨sc, a, mx, lf, rfl, ha, hl⟩ := hd
  have hi : i < s.length := (List.getElem?_eq_some_iff.mp h).1
  have gs : ∀ c' : Cell, (s.set i c')[i]? = some c' := fun c' => List.getElem?_set_self hi
  have hdiv : divOk m = true := by unfold divOk; simp; omega
  have hs' : ∀ c', closedS s.length (s.set i (.lst c')) = true := fun c' => closed_set hs
  unfold dcell at h
  by_cases hlf : 0 < lf
  · refine ⟨lf % m, dcell sc a mx (lf / m), Int.emod_nonneg _ (by omega), Int.emod_lt_of_pos _ h0, ⟨sc, a, mx, _, rfl, ha, hl⟩, ?_⟩
    simp [gM, B_next, startE, see, h, at4_3, hlf, b_mod h0, b_div hdiv, frzR, setIW, ixD, endM, finM, hs', dcell, asgT, List.take_of_length_le]
  · by_cases hb : a + 1 ≤ (sc.length : Int)
    · have hx : a.toNat < sc.length := by omega
      have hat : atD (sc.map PyData.int) a = some (.int sc[a.toNat]) := by
        refine atD_nat ha ?_
        rw [List.getElem?_map, List.getElem?_eq_getElem hx]
        rfl
      refine ⟨sc[a.toNat] % m, dcell sc (a + 1) mx (if 1000000000000000000 ≤ sc[a.toNat] then sc[a.toNat] / m else 0), Int.emod_nonneg _ (by omega), Int.emod_lt_of_pos _ h0, ⟨sc, a + 1, mx, _, rfl, by omega, hl⟩, ?_⟩
      by_cases hge : 1000000000000000000 ≤ sc[a.toNat]
      · simp [gM, B_next, startE, see, seeAll, h, at4_0, at4_1, at4_3, hlf, hb, hat, hge, pow18, gs, b_mod h0, b_div hdiv, frzR, setIW, ixD, endM, finM, hs', dcell, asgT, List.take_of_length_le]
      · simp [gM, B_next, startE, see, seeAll, h, at4_0, at4_1, at4_3, hlf, hb, hat, hge, pow18, gs, b_mod h0, b_div hdiv, frzR, setIW, ixD, endM, finM, hs', dcell, asgT, List.take_of_length_le]
    · refine ⟨mx * 48271 % 2147483647 / 7 % m, dcell sc (a + 1) (mx * 48271 % 2147483647) lf, Int.emod_nonneg _ (by omega), Int.emod_lt_of_pos _ h0, ⟨sc, a + 1, _, lf, rfl, by omega, hl⟩, ?_⟩
      simp [gM, B_next, startE, see, seeAll, h, at4_0, at4_1, at4_2, at4_3, hlf, hb, gs, b_mod h0, b_mod (show (0 : Int) < 2147483647 by decide), b_mul (mulR _ (show -(2 ^ 64) < (48271 : Int) ∧ (48271 : Int) < 2 ^ 64 by decide)), b_div divOk7, frzR, setIW, ixD, endM, finM, hs', dcell, asgT, List.take_of_length_le]
end DM

set_option maxRecDepth 100000
/-! L2: the law's draws: contracts. -/
namespace DM
open PySem
theorem OkDice.lst {c : Cell} (h : OkDice c) : ∃ l, c = .lst l := by obtain ⟨sc, a, m, l, rfl, _⟩ := h; exact ⟨_, rfl⟩
theorem closed_dice {s : List Cell} {i : Nat} {c : Cell} (h : closedS s.length s = true) (hc : OkDice c) : closedS (s.set i c).length (s.set i c) = true := by
  obtain ⟨l, rfl⟩ := hc.lst
  rw [List.length_set]
  exact closed_set h
/-- the draw -/
def NextOk (φ : Fs) : Prop := ∀ (s : List Cell) (i : Nat) (c : Cell) (m : Int), OkDice c → s[i]? = some c → closedS s.length s = true → 0 < m → m < 9223372036854775808 →
  ∃ r c', 0 ≤ r ∧ r < m ∧ OkDice c' ∧ callF φ [.h i, .d (.int m)] s = .ok (.d (.int r)) (s.set i c')
theorem next_ok (Φ : Phi) (n : Nat) : NextOk (.m 2 (gM Φ n B_next 4 0)) := fun s i c m hd h hs h0 h1 => by
  obtain ⟨r, c', r0, r1, hd', e⟩ := next_run Φ n hd h hs h0 h1
  refine ⟨r, c', r0, r1, hd', ?_⟩
  show ((if 2 = 2 then gM Φ n B_next 4 0 [.h i, .d (.int m)] s else .no) : R Rv).bind rvW = _
  rw [if_pos rfl, e]
  rfl
theorem get_set {s : List Cell} {i : Nat} {c c' : Cell} (h : s[i]? = some c) : (s.set i c')[i]? = some c' := List.getElem?_set_self (List.getElem?_eq_some_iff.mp h).1
/-! ### a loop by an invariant -/
theorem forK_inv {Φ : Phi} {n : Nat} {t : Tg} {b : List S} (I : Nat → Env → List Cell → Prop) : ∀ (items : List PyData) (k : Nat) (ρ : Env) (s : List Cell), I k ρ s →
    (∀ (j : Nat) (x : PyData) (ρ : Env) (s : List Cell), items[j]? = some x → I (k + j) ρ s → ∃ ρ1 ρ' s', asgT ρ t (.d x) = some ρ1 ∧ (runB Φ n b ρ1 s = .ok (.nx, ρ') s' ∨ runB Φ n b ρ1 s = .ok (.ct, ρ') s') ∧ I (k + j + 1) ρ' s') →
    ∃ ρ' s', forK Φ n t b items ρ s = .ok (.nx, ρ') s' ∧ I (k + items.length) ρ' s'
  | [], k, ρ, s, h, _ => ⟨ρ, s, rfl, h⟩
  | x :: xs, k, ρ, s, h, st => by
    obtain ⟨ρ1, ρ', s', e1, e2, h'⟩ := st 0 x ρ s rfl h
    obtain ⟨ρ2, s2, e3, h3⟩ := forK_inv I xs (k + 1) ρ' s' h' fun j y ρ s hj hi => by
      have := st (j + 1) y ρ s (by simpa using hj) (by rw [show k + (j + 1) = k + 1 + j by omega]; exact hi)
      rw [show k + (j + 1) + 1 = k + 1 + j + 1 by omega] at this
      exact this
    refine ⟨ρ2, s2, ?_, by rw [List.length_cons, show k + (xs.length + 1) = k + 1 + xs.length by omega]; exact h3⟩
    rw [forK_cons, e1]
    rcases e2 with e2 | e2 <;> simp only [e2, R.lp_nx, R.lp_ct] <;> exact e3
/-- .. that may end the def -/
theorem upTo_len : ∀ (n : Nat) (lo : Int), (upTo lo n).length = n
  | 0, _ => rfl
  | n + 1, lo => by simp [upTo, upTo_len n]
theorem upTo_get : ∀ (n : Nat) (lo : Int) (j : Nat) (x : PyData), (upTo lo n)[j]? = some x → x = .int (lo + j) ∧ j < n
  | 0, _, j, x, h => by simp [upTo] at h
  | n + 1, lo, 0, x, h => by simp [upTo] at h; subst h; simp
  | n + 1, lo, j + 1, x, h => by
    simp [upTo] at h
    obtain ⟨h1, h2⟩ := upTo_get n (lo + 1) j x h
    refine ⟨?_, by omega⟩
    rw [h1]; congr 1; push_cast; omega
/-! ### marks -/
def B_marks : List S := [(.asg (.n 1) (.fr (.lst (.cons (.cst (.int 0)) (.cons (.cst (.int 1)) (.cons (.cst (.int 2)) .nil)))))), (.asg (.n 2) (.call 34 (.cons (.var 0) (.cons (.cst (.int 8)) .nil)))), (.ite (.cmp .eq (.var 2) (.cst (.int 7))) [(.asg (.n 1) (.fr (.lst (.cons (.call 34 (.cons (.var 0) (.cons (.bin .pow (.cst (.int 10)) (.cst (.int 12))) .nil))) (.cons (.cst (.int 7)) (.cons (.bin .sub (.bin .pow (.cst (.int 10)) (.cst (.int 12))) (.cst (.int 1))) .nil))))))] []), (.ite (.cmp .eq (.var 2) (.cst (.int 6))) [(.asg (.n 3) (.call 34 (.cons (.var 0) (.cons (.bin .pow (.cst (.int 10)) (.cst (.int 9))) .nil)))), (.asg (.n 1) (.fr (.lst (.cons (.var 3) (.cons (.bin .add (.var 3) (.bin .pow (.cst (.int 10)) (.cst (.int 6)))) (.cons (.bin .add (.var 3) (.cst (.int 4294967296))) .nil))))))] []), (.ret (.slc (.var 1) .none (.some (.bin .add (.cst (.int 1)) (.call 34 (.cons (.var 0) (.cons (.cst (.int 3)) .nil)))))))]
/-- a colour -/
def MkOk (x : Int) : Prop := 0 ≤ x ∧ x < 1000000000000
def MarksOk (φ : Fs) : Prop := ∀ (s : List Cell) (i : Nat) (c : Cell), OkDice c → s[i]? = some c → closedS s.length s = true →
  ∃ (l : List Int) (c' : Cell), 1 ≤ l.length ∧ l.length ≤ 3 ∧ (∀ x ∈ l, MkOk x) ∧ OkDice c' ∧ callF φ [.h i] s = .ok (.d (.list (l.map .int))) (s.set i c')
theorem pow12 : binD .pow (.int 10) (.int 12) = some (.int 1000000000000) := by rfl
theorem pow9 : binD .pow (.int 10) (.int 9) = some (.int 1000000000) := by rfl
theorem pow6 : binD .pow (.int 10) (.int 6) = some (.int 1000000) := by rfl
theorem cut3 {a b c k : Int} (h0 : 0 ≤ k) (h1 : k < 3) {P : Int → Prop} (ha : P a) (hb : P b) (hc : P c) : ∃ l : List Int, 1 ≤ l.length ∧ l.length ≤ 3 ∧ (∀ x ∈ l, P x) ∧ cut [.int a, .int b, .int c] none (some (1 + k)) = l.map .int := by
  have : k = 0 ∨ k = 1 ∨ k = 2 := by omega
  rcases this with rfl | rfl | rfl
  · exact ⟨[a], by simp, by simp, by simp [ha], rfl⟩
  · exact ⟨[a, b], by simp, by simp, by simp [ha, hb], rfl⟩
  · exact ⟨[a, b, c], by simp, by simp, by simp [ha, hb, hc], rfl⟩
theorem marks_ok {Φ : Phi} {φ : Fs} (hφ : Φ.fn 34 = some φ) (N : NextOk φ) (n : Nat) : MarksOk (.m 1 (gM Φ n B_marks 4 0)) := fun s i c hd h hs => by
  have hi : i < s.length := (List.getElem?_eq_some_iff.mp h).1
  obtain ⟨r1, c1, a0, a1, d1, e1⟩ := N s i c 8 hd h hs (by decide) (by decide)
  have h1 := get_set (c' := c1) h
  have hs1 := closed_dice (i := i) hs d1
  have sz : (3 : Nat) ≤ sizeLine := by decide
  show ∃ (l : List Int) (c' : Cell), _ ∧ _ ∧ _ ∧ _ ∧ ((if 1 = 1 then gM Φ n B_marks 4 0 [.h i] s else .no) : R Rv).bind rvW = _
  rw [if_pos rfl]
  by_cases k7 : r1 = 7
  · obtain ⟨r2, c2, b0, b1, d2, e2⟩ := N _ i c1 1000000000000 d1 h1 hs1 (by decide) (by decide)
    rw [List.set_set] at e2
    have h2 := get_set (c' := c2) h
    have hs2 := closed_dice (i := i) hs d2
    obtain ⟨r3, c3, g0, g1, d3, e3⟩ := N _ i c2 3 d2 h2 hs2 (by decide) (by decide)
    rw [List.set_set] at e3
    obtain ⟨l, l1, l2, l3, l4⟩ := cut3 (P := MkOk) g0 g1 (a := r2) (b := 7) (c := 999999999999) ⟨b0, b1⟩ ⟨by decide, by decide⟩ ⟨by decide, by decide⟩
    refine ⟨l, c3, l1, l2, l3, d3, ?_⟩
    have hc3 : closedS s.length (s.set i c3) = true := by have := closed_dice (i := i) hs d3; rwa [List.length_set] at this
    simp [gM, B_marks, startE, hφ, e1, e2, e3, k7, pow12, frzsR, frzAll, asgT, l4, endM, finM, hc3, sz, List.take_of_length_le, rvW]
  · by_cases k6 : r1 = 6
    · obtain ⟨r2, c2, b0, b1, d2, e2⟩ := N _ i c1 1000000000 d1 h1 hs1 (by decide) (by decide)
      rw [List.set_set] at e2
      have h2 := get_set (c' := c2) h
      have hs2 := closed_dice (i := i) hs d2
      obtain ⟨r3, c3, g0, g1, d3, e3⟩ := N _ i c2 3 d2 h2 hs2 (by decide) (by decide)
      rw [List.set_set] at e3
      obtain ⟨l, l1, l2, l3, l4⟩ := cut3 (P := MkOk) g0 g1 (a := r2) (b := r2 + 1000000) (c := r2 + 4294967296) ⟨b0, by omega⟩ ⟨by omega, by omega⟩ ⟨by omega, by omega⟩
      refine ⟨l, c3, l1, l2, l3, d3, ?_⟩
      have hc3 : closedS s.length (s.set i c3) = true := by have := closed_dice (i := i) hs d3; rwa [List.length_set] at this
      simp [gM, B_marks, startE, hφ, e1, e2, e3, k6, pow9, pow6, frzsR, frzAll, asgT, l4, endM, finM, hc3, sz, List.take_of_length_le, rvW]
    · obtain ⟨r3, c3, g0, g1, d3, e3⟩ := N _ i c1 3 d1 h1 hs1 (by decide) (by decide)
      rw [List.set_set] at e3
      obtain ⟨l, l1, l2, l3, l4⟩ := cut3 (P := MkOk) g0 g1 (a := 0) (b := 1) (c := 2) ⟨by decide, by decide⟩ ⟨by decide, by decide⟩ ⟨by decide, by decide⟩
      refine ⟨l, c3, l1, l2, l3, d3, ?_⟩
      have hc3 : closedS s.length (s.set i c3) = true := by have := closed_dice (i := i) hs d3; rwa [List.length_set] at this
      simp [gM, B_marks, startE, hφ, e1, e3, k6, k7, frzsR, frzAll, asgT, l4, endM, finM, hc3, sz, List.take_of_length_le, rvW]
end DM

set_option maxRecDepth 100000
/-! L3: dice, like, tiles. -/
namespace DM
open PySem
/-! ### data of ints, n deep -/
def Nd : Nat → PyData → Bool
  | _, .int _ => true
  | _, .none => true
  | n + 1, .list l => decide (l.length ≤ sizeLine) && l.all (Nd n)
  | n + 1, .tuple l => decide (l.length ≤ sizeLine) && l.all (Nd n)
  | _, _ => false
mutual
theorem eqv_self : ∀ x : PyData, x.canLay0 = true → x.eqv x = true
  | .none, _ => rfl
  | .bool b, _ => by simp [PyData.eqv]
  | .int i, _ => by simp [PyData.eqv]
  | .str s, _ => by simp [PyData.eqv]
  | .list l, h => by simp only [PyData.eqv]; exact eqvAll_self l (by simpa [PyData.canLay0] using h)
  | .tuple l, h => by simp only [PyData.eqv]; exact eqvAll_self l (by simpa [PyData.canLay0] using h)
  | .dict k, h => by simp [PyData.canLay0] at h
theorem eqvAll_self : ∀ l : List PyData, PyData.canLayAll0 l = true → PyData.eqvAll l l = true
  | [], _ => rfl
  | x :: xs, h => by
    simp only [PyData.canLayAll0, Bool.and_eq_true] at h
    simp only [PyData.eqvAll, Bool.and_eq_true]
    exact ⟨eqv_self x h.1, eqvAll_self xs h.2⟩
end
theorem Nd_ok : ∀ (n : Nat) (x : PyData), Nd n x = true → x.canLay0 = true ∧ x.depth ≤ n := by
  intro n
  induction n with
  | zero =>
    intro x h
    cases x <;> simp [Nd] at h <;> simp [PyData.canLay0, PyData.depth]
  | succ n ih =>
    intro x h
    have al : ∀ l : List PyData, (∀ y ∈ l, Nd n y = true) → PyData.canLayAll0 l = true ∧ PyData.depthAll l ≤ n := by
      intro l
      induction l with
      | nil => intro _; exact ⟨rfl, Nat.zero_le _⟩
      | cons y ys ihl =>
        intro h
        obtain ⟨h1, h2⟩ := ihl fun z hz => h z (List.mem_cons_of_mem _ hz)
        obtain ⟨h3, h4⟩ := ih y (h y List.mem_cons_self)
        simp only [PyData.canLayAll0, PyData.depthAll, Bool.and_eq_true]
        exact ⟨⟨h3, h1⟩, Nat.max_le.mpr ⟨h4, h2⟩⟩
    cases x with
    | list l =>
      simp only [Nd, Bool.and_eq_true, List.all_eq_true] at h
      obtain ⟨h1, h2⟩ := al l h.2
      simp only [PyData.canLay0, PyData.depth]
      exact ⟨h1, by omega⟩
    | tuple l =>
      simp only [Nd, Bool.and_eq_true, List.all_eq_true] at h
      obtain ⟨h1, h2⟩ := al l h.2
      simp only [PyData.canLay0, PyData.depth]
      exact ⟨h1, by omega⟩
    | none => simp [PyData.canLay0, PyData.depth]
    | int i => simp [PyData.canLay0, PyData.depth]
    | bool b => simp [Nd] at h
    | str b => simp [Nd] at h
    | dict b => simp [Nd] at h
theorem Nd_okD {n : Nat} {x : PyData} (hn : n ≤ 64) (h : Nd n x = true) : okD x = true := by
  obtain ⟨h1, h2⟩ := Nd_ok n x h
  unfold okD SeqAt.shaped
  rw [h1]
  simpa using Nat.le_trans h2 hn
theorem c_eq_self {n : Nat} {x : PyData} (hn : n ≤ 64) (h : Nd n x = true) : cmpD .eq x x = some true := by
  have e1 := Nd_okD hn h
  have e2 := eqv_self x (Nd_ok n x h).1
  have go : (if okD x && okD x then some (x.eqv x) else none) = some true := by rw [e1, e2]; rfl
  cases x with
  | int i => simp
  | _ => exact go
theorem c_ne_self {n : Nat} {x : PyData} (hn : n ≤ 64) (h : Nd n x = true) : cmpD .ne x x = some false := by
  have e1 := Nd_okD hn h
  have e2 := eqv_self x (Nd_ok n x h).1
  have go : (if okD x && okD x then some (!x.eqv x) else none) = some false := by rw [e1, e2]; rfl
  cases x with
  | int i => simp
  | _ => exact go
@[simp] theorem c_ne_bool (a b : Bool) : cmpD .ne (.bool a) (.bool b) = some (!(a == b)) := by cases a <;> cases b <;> rfl
@[simp] theorem c_isN (x : PyData) : cmpD .isN x .none = some (isNone x) := by cases x <;> rfl
@[simp] theorem c_notN (x : PyData) : cmpD .notN x .none = some (!isNone x) := by cases x <;> rfl
/-! ### like -/
def B_like : List S := [(.ite (.isi .str (.var 1)) [(.ret (.and (.isi .str (.var 0)) (.cmp .eq (.var 0) (.var 1))))] []), (.ite (.isi .int (.var 1)) [(.ret (.and (.isi .int (.var 0)) (.and (.not (.isi .bool (.var 0))) (.cmp .eq (.var 0) (.var 1)))))] []), (.ite (.cmp .isN (.var 1) (.cst .none)) [(.ret (.cmp .isN (.var 0) (.cst .none)))] []), (.ite (.or (.cmp .ne (.isi .tuple (.var 1)) (.isi .tuple (.var 0))) (.cmp .ne (.isi .list (.var 1)) (.isi .list (.var 0)))) [(.ret (.cst (.bool false)))] []), (.ite (.cmp .ne (.bi .len (.cons (.var 0) .nil)) (.bi .len (.cons (.var 1) .nil))) [(.ret (.cst (.bool false)))] []), (.for (.n 2) (.rng1 (.bi .len (.cons (.var 1) .nil))) [(.ite (.not (.call 29 (.cons (.idx (.var 0) (.var 2)) (.cons (.idx (.var 1) (.var 2)) .nil)))) [(.ret (.cst (.bool false)))] [])]), (.ret (.cst (.bool true)))]
/-- data alike is told alike, n deep -/
def LikeOk (φ : Fs) (n : Nat) : Prop := ∀ (x : PyData) (s : List Cell), Nd n x = true → callF φ [.d x, .d x] s = .ok (.d (.bool true)) s
theorem callP {n : Nat} {g : List W → Option Ro} {ws vs : List W} {s : List Cell} {w : W} (hl : ws.length = n) (hv : viewAll s ws = some (vs, false)) (hg : g vs = some (.ret w)) : callF (.p n g) ws s = .ok w s := by
  unfold callF callX
  simp only [hl, if_pos, hv, hg, pX]
  simp [rvW]
theorem smallI_len {n : Nat} (h : n ≤ sizeLine) : smallI (n : Int) = true := by
  unfold smallI
  have : sizeLine < 4611686018427387904 := by decide
  simp only [Bool.and_eq_true, decide_eq_true_eq]
  omega
theorem like_loop {Φ : Phi} {φ : Fs} {n k : Nat} (hφ : Φ.fn 29 = some φ) (L : LikeOk φ n) {x : PyData} {l : List PyData} (hx : x = .list l ∨ x = .tuple l) (hl : ∀ y ∈ l, Nd n y = true) (v : Option W) (s : List Cell) :
    ∃ ρ' s', forK Φ k (.n 2) [(.ite (.not (.call 29 (.cons (.idx (.var 0) (.var 2)) (.cons (.idx (.var 1) (.var 2)) .nil)))) [(.ret (.cst (.bool false)))] [])] (upTo 0 l.length) [some (.d x), some (.d x), v] s = .ok (.nx, ρ') s' ∧ ∃ o, ρ' = [some (.d x), some (.d x), o] ∧ s' = s := by
  obtain ⟨ρ', s', e, h⟩ := forK_inv (Φ := Φ) (n := k) (t := .n 2) (b := [(.ite (.not (.call 29 (.cons (.idx (.var 0) (.var 2)) (.cons (.idx (.var 1) (.var 2)) .nil)))) [(.ret (.cst (.bool false)))] [])])
    (fun _ ρ s' => ∃ o, ρ = [some (.d x), some (.d x), o] ∧ s' = s) (upTo 0 l.length) 0 [some (.d x), some (.d x), v] s ⟨v, rfl, rfl⟩ fun j y ρ s1 hj ⟨o, hρ, hs⟩ => by
      subst hρ hs
      obtain ⟨rfl, hjl⟩ := upTo_get _ _ _ _ hj
      have ha : atD l (0 + (j : Int)) = some l[j] := atD_nat (by omega) (by
        have : (0 + (j : Int)).toNat = j := by omega
        rw [this]; exact List.getElem?_eq_getElem hjl)
      have hL := L l[j] s1 (hl _ (List.getElem_mem hjl))
      refine ⟨_, _, _, rfl, .inl ?_, some (.d (.int (0 + j))), rfl, rfl⟩
      simp only [Int.zero_add] at ha
      rcases hx with rfl | rfl <;> simp [hφ, ha, hL]
  exact ⟨ρ', s', e, h⟩
theorem like_deep {Φ : Phi} {φ : Fs} {n : Nat} (k : Nat) (hφ : Φ.fn 29 = some φ) (L : LikeOk φ n) {x : PyData} {l : List PyData} (hx : x = .list l ∨ x = .tuple l) (hl : l.length ≤ sizeLine) (ha : ∀ y ∈ l, Nd n y = true) : gP Φ k B_like 3 [.d x, .d x] = some (.ret (.d (.bool true))) := by
  obtain ⟨ρ', s', e, o, rfl, rfl⟩ := like_loop (k := k) hφ L hx ha none []
  have hsm := smallI_len hl
  rcases hx with rfl | rfl
  · simp [gP, B_like, startE, isiD, isNone, seeAll, hsm, e, endP, finP]
  · simp [gP, B_like, startE, isiD, isNone, seeAll, hsm, e, endP, finP]
theorem Nd_list {n : Nat} {l : List PyData} (h : Nd (n + 1) (.list l) = true) : l.length ≤ sizeLine ∧ ∀ y ∈ l, Nd n y = true := by
  simp only [Nd, Bool.and_eq_true, List.all_eq_true, decide_eq_true_eq] at h
  exact h
theorem Nd_tuple {n : Nat} {l : List PyData} (h : Nd (n + 1) (.tuple l) = true) : l.length ≤ sizeLine ∧ ∀ y ∈ l, Nd n y = true := by
  simp only [Nd, Bool.and_eq_true, List.all_eq_true, decide_eq_true_eq] at h
  exact h
theorem like_int (Φ : Phi) (k : Nat) (i : Int) : gP Φ k B_like 3 [.d (.int i), .d (.int i)] = some (.ret (.d (.bool true))) := by simp [gP, B_like, startE, isiD, endP, finP]
theorem like_none (Φ : Phi) (k : Nat) : gP Φ k B_like 3 [.d .none, .d .none] = some (.ret (.d (.bool true))) := by simp [gP, B_like, startE, isiD, isNone, endP, finP]
theorem like_ok {Φ : Phi} {φ : Fs} {n : Nat} (k : Nat) (hφ : Φ.fn 29 = some φ) (L : LikeOk φ n) : LikeOk (.p 2 (gP Φ k B_like 3)) (n + 1) := fun x s h => by
  refine callP rfl (vs := [.d x, .d x]) rfl ?_
  cases x with
  | list l => exact like_deep k hφ L (.inl rfl) (Nd_list h).1 (Nd_list h).2
  | tuple l => exact like_deep k hφ L (.inr rfl) (Nd_tuple h).1 (Nd_tuple h).2
  | int i => exact like_int _ _ _
  | none => exact like_none _ _
  | bool b => simp [Nd] at h
  | str b => simp [Nd] at h
  | dict b => simp [Nd] at h
/-- at the ground -/
theorem like_ok0 {Φ : Phi} (k : Nat) : LikeOk (.p 2 (gP Φ k B_like 3)) 0 := fun x s h => by
  refine callP rfl (vs := [.d x, .d x]) rfl ?_
  cases x with
  | int i => exact like_int _ _ _
  | none => exact like_none _ _
  | _ => simp [Nd] at h
/-! ### dice -/
def B_dice : List S := [(.asg (.n 1) (.cst (.int 0))), (.for (.n 2) (.seq (.var 0)) [(.asg (.n 1) (.bin .mod (.bin .add (.bin .add (.bin .mul (.var 1) (.cst (.int 48271))) (.bin .mul (.bin .mod (.var 2) (.cst (.int 2147483647))) (.cst (.int 69621)))) (.cst (.int 11))) (.cst (.int 2147483647))))]), (.ret (.th (.lst (.cons (.var 0) (.cons (.cst (.int 0)) (.cons (.bin .mul (.var 1) (.bi .int (.cons (.cmp .gt (.bi .len (.cons (.var 0) .nil)) (.cst (.int 2))) .nil))) (.cons (.cst (.int 0)) .nil)))))))]
def DiceOk (φ : Fs) : Prop := ∀ (ns : List Int) (s : List Cell), ns.length ≤ 63 → ∃ l, OkDice (.lst l) ∧ callL φ [.d (.list (ns.map .int))] s = .ok l s
theorem bi_intB (b : Bool) : biD .int [.bool b] = some (.int (if b then 1 else 0)) := rfl
theorem dice_ok (Φ : Phi) (n : Nat) : DiceOk (.p 1 (gP Φ n B_dice 3)) := fun ns s hl => by
  have m1 : (0 : Int) < 2147483647 := by decide
  have lp := forK_inv (Φ := Φ) (n := n) (t := .n 2) (b := [(.asg (.n 1) (.bin .mod (.bin .add (.bin .add (.bin .mul (.var 1) (.cst (.int 48271))) (.bin .mul (.bin .mod (.var 2) (.cst (.int 2147483647))) (.cst (.int 69621)))) (.cst (.int 11))) (.cst (.int 2147483647))))])
    (fun _ ρ s' => ∃ (m : Int) (o : Option W), ρ = [some (.d (.list (ns.map .int))), some (.d (.int m)), o] ∧ s' = []) (ns.map .int) 0 [some (.d (.list (ns.map .int))), some (.d (.int 0)), none] [] ⟨0, none, rfl, rfl⟩ fun j y ρ s1 hj ⟨m, o, hρ, hs⟩ => by
      subst hρ hs
      rw [List.getElem?_map] at hj
      cases e : ns[j]? with
      | none => rw [e] at hj; cases hj
      | some z =>
        rw [e] at hj
        cases hj
        refine ⟨_, _, _, rfl, .inl ?_, (m * 48271 + z % 2147483647 * 69621 + 11) % 2147483647, some (.d (.int z)), rfl, rfl⟩
        simp [b_mul (mulR _ (show -(2 ^ 64) < (48271 : Int) ∧ (48271 : Int) < 2 ^ 64 by decide)), b_mul (mulR _ (show -(2 ^ 64) < (69621 : Int) ∧ (69621 : Int) < 2 ^ 64 by decide)), b_mod m1, asgT]
  obtain ⟨ρ', s', e, m, o, rfl, rfl⟩ := lp
  have hb : binD .mul (.int m) (.int (if 2 < (ns.length : Int) then 1 else 0)) = some (.int (m * (if 2 < (ns.length : Int) then 1 else 0))) := b_mul (mulR _ (by split <;> decide))
  have sz : (4 : Nat) ≤ sizeLine := by decide
  refine ⟨[.list (ns.map .int), .int 0, .int (m * (if 2 < (ns.length : Int) then 1 else 0)), .int 0], ⟨ns, 0, _, 0, rfl, by decide, hl⟩, ?_⟩
  have g : gP Φ n B_dice 3 [.d (.list (ns.map .int))] = some (.fresh [.list (ns.map .int), .int 0, .int (m * (if 2 < (ns.length : Int) then 1 else 0)), .int 0]) := by
    simp only [gP, B_dice, startE]
    simp [asgT, frzR, e, seeAll, bi_intB, frzsR, frzAll, sz, hb, endP, finP]
  unfold callL callX
  simp [viewAll, view, g, pX, rvL]
/-! ### tiles -/
def B_tiles : List S := [(.asg (.n 2) (.call 32 (.cons (.var 0) .nil))), (.asg (.n 3) (.call 32 (.cons (.var 0) .nil))), (.asg (.n 4) (.th (.lst .nil))), (.for (.n 5) (.rng1 (.bin .add (.cst (.int 1)) (.call 34 (.cons (.var 0) (.cons (.var 1) .nil))))) [(.asg (.n 6) (.idx (.var 3) (.call 34 (.cons (.var 0) (.cons (.bi .len (.cons (.var 3) .nil)) .nil))))), (.asg (.n 7) (.idx (.var 2) (.call 34 (.cons (.var 0) (.cons (.bi .len (.cons (.var 2) .nil)) .nil))))), (.asg (.n 8) (.idx (.var 3) (.call 34 (.cons (.var 0) (.cons (.bi .len (.cons (.var 3) .nil)) .nil))))), (.ex (.app (.var 4) (.tup (.cons (.var 6) (.cons (.var 7) (.cons (.var 8) (.cons (.idx (.var 2) (.call 34 (.cons (.var 0) (.cons (.bi .len (.cons (.var 2) .nil)) .nil)))) .nil)))))))]), (.ret (.var 4))]
structure Tile where
  n : Int
  e : Int
  s : Int
  w : Int
def Tile.ok (t : Tile) : Prop := MkOk t.n ∧ MkOk t.e ∧ MkOk t.s ∧ MkOk t.w
def Tile.d (t : Tile) : PyData := .tuple [.int t.n, .int t.e, .int t.s, .int t.w]
/-- two places of the store -/
def two (s : List Cell) (i j : Nat) (c r : Cell) : List Cell := (s.set i c).set j r
section
variable {s : List Cell} {i j : Nat} {c c' r r' : Cell}
theorem two_len : (two s i j c r).length = s.length := by simp [two]
theorem two_i (h : i < s.length) (n : i ≠ j) : (two s i j c r)[i]? = some c := by
  unfold two; rw [List.getElem?_set_ne (Ne.symm n)]; exact List.getElem?_set_self h
theorem two_j (h : j < s.length) : (two s i j c r)[j]? = some r := List.getElem?_set_self (by simpa using h)
theorem two_set_i (n : i ≠ j) : (two s i j c r).set i c' = two s i j c' r := by
  unfold two; rw [List.set_comm _ _ (Ne.symm n), List.set_set]
theorem two_set_j : (two s i j c r).set j r' = two s i j c r' := by unfold two; rw [List.set_set]
end
theorem draw {φ : Fs} (N : NextOk φ) {l : List Int} {P : Int → Prop} (h0 : 1 ≤ l.length) (h1 : l.length ≤ 3) (hP : ∀ x ∈ l, P x) {s : List Cell} {i : Nat} {c : Cell} (hd : OkDice c) (h : s[i]? = some c) (hs : closedS s.length s = true) :
    ∃ r c' x, OkDice c' ∧ P x ∧ callF φ [.h i, .d (.int (l.length : Int))] s = .ok (.d (.int r)) (s.set i c') ∧ atD (l.map PyData.int) r = some (.int x) := by
  obtain ⟨r, c', r0, r1, d', e⟩ := N s i c l.length hd h hs (by omega) (by omega)
  have hr : r.toNat < l.length := by omega
  refine ⟨r, c', l[r.toNat], d', hP _ (List.getElem_mem hr), e, atD_nat r0 ?_⟩
  rw [List.getElem?_map, List.getElem?_eq_getElem hr]
  rfl
def TilesOk (φ : Fs) : Prop := ∀ (s : List Cell) (i : Nat) (c : Cell) (m : Int), OkDice c → s[i]? = some c → closedS s.length s = true → 0 < m → m ≤ 1000000 →
  ∃ (ts : List Tile) (c' : Cell), 1 ≤ ts.length ∧ (ts.length : Int) ≤ m ∧ (∀ t ∈ ts, t.ok) ∧ OkDice c' ∧ callX φ [.h i, .d (.int m)] s = .ok (.l (ts.map Tile.d)) (s.set i c')
theorem closed_two {s : List Cell} {i j : Nat} {c : Cell} {l : List PyData} (h : closedS s.length s = true) (hc : OkDice c) : closedS (two s i j c (.lst l)).length (two s i j c (.lst l)) = true := by
  rw [two_len]
  unfold two
  have := closed_dice (i := i) h hc
  rw [List.length_set] at this
  exact closed_set this
theorem tiles_ok {Φ : Phi} {φ μ : Fs} (n : Nat) (hφ : Φ.fn 34 = some φ) (N : NextOk φ) (hμ : Φ.fn 32 = some μ) (M : MarksOk μ) : TilesOk (.m 2 (gM Φ n B_tiles 9 0)) := fun s i c m hd h hs m0 m1 => by
  have hi : i < s.length := (List.getElem?_eq_some_iff.mp h).1
  obtain ⟨ac, c1, a1, a2, a3, d1, e1⟩ := M s i c hd h hs
  have h1 := get_set (c' := c1) h
  have hs1 := closed_dice (i := i) hs d1
  obtain ⟨dn, c2, b1, b2, b3, d2, e2⟩ := M _ i c1 d1 h1 hs1
  rw [List.set_set] at e2
  have h2 := get_set (c' := c2) h
  have hs2 := closed_dice (i := i) hs d2
  have hcl2 : closedS s.length (s.set i c2) = true := by rwa [List.length_set] at hs2
  have hij : i ≠ s.length := Nat.ne_of_lt hi
  -- the store with the new list
  have cl : ∀ (s : List Cell) (l : List PyData), closedS s.length s = true → closedS (s ++ [Cell.lst l]).length (s ++ [Cell.lst l]) = true := fun s l h => by
    unfold closedS at h ⊢
    rw [List.all_append, Bool.and_eq_true]
    refine ⟨?_, rfl⟩
    rw [List.all_eq_true] at h ⊢
    intro c hc
    have := h c hc
    cases c with
    | ins c fs =>
      simp only [closedC, List.all_eq_true] at this ⊢
      intro p hp
      have := this p hp
      cases q : p.2 with
      | h i => rw [q] at this; simp only [closedW, decide_eq_true_eq] at this ⊢; rw [List.length_append]; omega
      | _ => rfl
    | _ => rfl
  have g0 : ((s ++ [Cell.lst []]).set i c2)[i]? = some c2 := List.getElem?_set_self (by simp; omega)
  have eA : s.set i c2 ++ [Cell.lst []] = two (s ++ [Cell.lst []]) i s.length c2 (.lst []) := by
    unfold two
    rw [List.set_append_left _ _ hi, List.set_append_right _ _ (by simp)]
    simp
  have hsA : closedS (s ++ [Cell.lst []]).length (s ++ [Cell.lst []]) = true := cl s [] hs
  have hiA : i < (s ++ [Cell.lst []]).length := by simp; omega
  have hjA : s.length < (s ++ [Cell.lst []]).length := by simp
  obtain ⟨k, c3, k0, k1, d3, e3⟩ := N (two (s ++ [Cell.lst []]) i s.length c2 (.lst [])) i c2 m d2 (two_i hiA hij) (closed_two hsA d2) m0 (by omega)
  rw [two_set_i hij] at e3
  have hsm : smallI (1 + k) = true := by unfold smallI; simp only [Bool.and_eq_true, decide_eq_true_eq]; omega
  have sz4 : (4 : Nat) ≤ sizeLine := by decide
  have lp := forK_inv (Φ := Φ) (n := n) (t := .n 5) (b := [(.asg (.n 6) (.idx (.var 3) (.call 34 (.cons (.var 0) (.cons (.bi .len (.cons (.var 3) .nil)) .nil))))), (.asg (.n 7) (.idx (.var 2) (.call 34 (.cons (.var 0) (.cons (.bi .len (.cons (.var 2) .nil)) .nil))))), (.asg (.n 8) (.idx (.var 3) (.call 34 (.cons (.var 0) (.cons (.bi .len (.cons (.var 3) .nil)) .nil))))), (.ex (.app (.var 4) (.tup (.cons (.var 6) (.cons (.var 7) (.cons (.var 8) (.cons (.idx (.var 2) (.call 34 (.cons (.var 0) (.cons (.bi .len (.cons (.var 2) .nil)) .nil)))) .nil)))))))])
    (fun q ρ s' => ∃ (ts : List Tile) (c : Cell) (o5 o6 o7 o8 : Option W), ts.length = q ∧ (∀ t ∈ ts, t.ok) ∧ OkDice c ∧ q ≤ (1 + k).toNat ∧ ρ = [some (.h i), some (.d (.int m)), some (.d (.list (ac.map .int))), some (.d (.list (dn.map .int))), some (.h s.length), o5, o6, o7, o8] ∧ s' = two (s ++ [Cell.lst []]) i s.length c (.lst (ts.map Tile.d)))
    (upTo 0 (1 + k).toNat) 0 [some (.h i), some (.d (.int m)), some (.d (.list (ac.map .int))), some (.d (.list (dn.map .int))), some (.h s.length), none, none, none, none] (two (s ++ [Cell.lst []]) i s.length c3 (.lst [])) ⟨[], c3, none, none, none, none, rfl, by simp, d3, Nat.zero_le _, rfl, rfl⟩ fun j y ρ s1 hj ⟨ts, c, o5, o6, o7, o8, tl, tk, dc, _, hρ, hs1⟩ => by
      subst hρ hs1
      obtain ⟨rfl, hjl⟩ := upTo_get _ _ _ _ hj
      obtain ⟨x1, y1, z1, p1, q1, f1, t1⟩ := draw N b1 b2 b3 dc (two_i (r := .lst (ts.map Tile.d)) hiA hij) (closed_two hsA dc)
      rw [two_set_i hij] at f1
      obtain ⟨x2, y2, z2, p2, q2, f2, t2⟩ := draw N a1 a2 a3 p1 (two_i (r := .lst (ts.map Tile.d)) hiA hij) (closed_two hsA p1)
      rw [two_set_i hij] at f2
      obtain ⟨x3, y3, z3, p3, q3, f3, t3⟩ := draw N b1 b2 b3 p2 (two_i (r := .lst (ts.map Tile.d)) hiA hij) (closed_two hsA p2)
      rw [two_set_i hij] at f3
      obtain ⟨x4, y4, z4, p4, q4, f4, t4⟩ := draw N a1 a2 a3 p3 (two_i (r := .lst (ts.map Tile.d)) hiA hij) (closed_two hsA p3)
      rw [two_set_i hij] at f4
      have gj : ∀ c r, (two (s ++ [Cell.lst []]) i s.length c r)[s.length]? = some r := fun c r => two_j hjA
      have tlen : (ts.map Tile.d).length < sizeLine := by
        have : sizeLine = 16777216 := by decide
        rw [List.length_map]; omega
      have tlen' : ts.length < sizeLine := by simpa using tlen
      refine ⟨_, [some (.h i), some (.d (.int m)), some (.d (.list (ac.map .int))), some (.d (.list (dn.map .int))), some (.h s.length), some (.d (.int (0 + (j : Int)))), some (.d (.int z1)), some (.d (.int z2)), some (.d (.int z3))], two (s ++ [Cell.lst []]) i s.length y4 (.lst ((ts ++ [Tile.mk z1 z2 z3 z4]).map Tile.d)), rfl, .inl ?_, ts ++ [Tile.mk z1 z2 z3 z4], y4, _, _, _, _, by simp [tl], ?_, p4, by omega, rfl, rfl⟩
      · simp [hφ, seeAll, f1, f2, f3, f4, t1, t2, t3, t4, asgT, isL, see, gj, frzsR, frzAll, sz4, frzR, appW, tlen', two_set_j, Tile.d]
      · intro t ht
        rcases List.mem_append.mp ht with ht | ht
        · exact tk t ht
        · rw [List.mem_singleton] at ht
          subst ht
          exact ⟨q1, q2, q3, q4⟩
  obtain ⟨ρ', s', e, ts, c4, o5, o6, o7, o8, tl, tk, d4, _, rfl, rfl⟩ := lp
  rw [upTo_len] at tl
  refine ⟨ts, c4, by omega, by omega, tk, d4, ?_⟩
  have hfin : closedS s.length (s.set i c4) = true := by have := closed_dice (i := i) hs d4; rwa [List.length_set] at this
  have eB : two (s ++ [Cell.lst []]) i s.length c4 (.lst (ts.map Tile.d)) = s.set i c4 ++ [.lst (ts.map Tile.d)] := by
    unfold two
    rw [List.set_append_left _ _ hi, List.set_append_right _ _ (by simp)]
    simp
  show ((if 2 = 2 then gM Φ n B_tiles 9 0 [.h i, .d (.int m)] s else .no) : R Rv) = _
  rw [if_pos rfl]
  simp only [gM, B_tiles, startE]
  simp [hμ, hφ, e1, e2, asgT, frzsR, frzAll, eA, e3, hsm, e]
  rw [eB]
  simp [endM, finM, hfin]
end DM

set_option maxRecDepth 100000
/-! L4: the set of tiles: contracts. -/
namespace DM
open PySem
/-! ### a comprehension that leaves the store alone -/
def turnK (Φ : Phi) (tg : Tg) (own : List Nat) (c : Oe) (e : E) (ρ : Env) (x : PyData) (s : List Cell) : R (Option PyData) := match asgT (wipeE ρ own) tg (.d x) with
    | some ρ' => (runC Φ c ρ' s).bind fun b s => if b then (runE Φ e ρ' s).bind fun w s => (frzR w s).bind fun y s => .ok (some y) s else .ok none s
    | none => .no
theorem compK_map {Φ : Phi} {tg : Tg} {own : List Nat} {c : Oe} {e : E} {ρ : Env} {f : PyData → PyData} {s : List Cell} : ∀ items : List PyData, (∀ x ∈ items, turnK Φ tg own c e ρ x s = .ok (some (f x)) s) → compK Φ tg own c e ρ items s = .ok (items.map f) s
  | [], _ => rfl
  | x :: xs, h => by
    have e1 := h x List.mem_cons_self
    have e2 := compK_map xs fun y hy => h y (List.mem_cons_of_mem _ hy)
    show (match turnK Φ tg own c e ρ x s with
      | .ok y s => (compK Φ tg own c e ρ xs s).bind fun ys s => match y with | some y => R.ok (y :: ys) s | none => R.ok ys s
      | _ => R.no) = _
    rw [e1]
    simp only [e2, R.bind_ok, List.map_cons]
theorem compK_ok {Φ : Phi} {tg : Tg} {own : List Nat} {c : Oe} {e : E} {ρ : Env} {f : PyData → PyData} {s : List Cell} {items : List PyData} (hl : items.length < sizeLine) (h : ∀ x ∈ items, turnK Φ tg own c e ρ x s = .ok (some (f x)) s) : compT Φ tg own c e ρ (.ok items s) = .ok (items.map f) s := by
  rw [compT_ok1 _ _ _ _ _ _ _ _ hl]; exact compK_map items h
/-! ### Tiles -/
abbrev B_tiIn : List S := [(.ite (.or (.cmp .lt (.var 3) (.cst (.int 0))) (.cmp .ge (.var 3) (.cst (.int 1000000000000)))) [(.raiseA 0 (.cons (.var 2) (.cons (.cst (.str "mark")) .nil)))] [])]
def B_Tinit : List S := [(.ite (.or (.cmp .lt (.bi .len (.cons (.var 1) .nil)) (.cst (.int 1))) (.cmp .gt (.bi .len (.cons (.var 1) .nil)) (.cst (.int 200)))) [(.raiseA 0 (.cons (.cst (.int 0)) (.cons (.cst (.str "many")) .nil)))] []), (.for (.n 2) (.rng1 (.bi .len (.cons (.var 1) .nil))) [(.for (.n 3) (.seq (.idx (.var 1) (.var 2))) [(.ite (.or (.cmp .lt (.var 3) (.cst (.int 0))) (.cmp .ge (.var 3) (.cst (.int 1000000000000)))) [(.raiseA 0 (.cons (.var 2) (.cons (.cst (.str "mark")) .nil)))] [])])]), (.setF (.var 0) 3 (.fr (.list (.var 1))))]
def B_Ttiles : List S := [(.ret (.fr (.list (.fld (.var 0) 3))))]
abbrev rowsD (ts : List Tile) : PyData := .list (ts.map Tile.d)
abbrev setW (ts : List Tile) : W := .o 2 [(3, rowsD ts)]
def MkTiles (ψ : Ms) : Prop := ∀ (ts : List Tile) (s : List Cell), 1 ≤ ts.length → ts.length ≤ 200 → (∀ t ∈ ts, t.ok) → mkF ψ 2 [.d (rowsD ts)] s = .ok (setW ts) s
theorem inner_loop {Φ : Phi} {n : Nat} {t : Tile} (ht : t.ok) {a b c d : Option W} {s : List Cell} : ∃ d', forK Φ n (.n 3) B_tiIn [.int t.n, .int t.e, .int t.s, .int t.w] [a, b, c, d] s = .ok (.nx, [a, b, c, d']) s := by
  obtain ⟨⟨n0, n1⟩, ⟨e0, e1⟩, ⟨s0, s1⟩, ⟨w0, w1⟩⟩ := ht
  obtain ⟨ρ', s', e, d', rfl, rfl⟩ := forK_inv (Φ := Φ) (n := n) (t := .n 3) (b := B_tiIn)
    (fun _ ρ s' => ∃ d', ρ = [a, b, c, d'] ∧ s' = s) [.int t.n, .int t.e, .int t.s, .int t.w] 0 [a, b, c, d] s ⟨d, rfl, rfl⟩ fun j x ρ s1 hj ⟨d', hρ, hs⟩ => by
      subst hρ hs
      have key : ∃ i : Int, x = .int i ∧ 0 ≤ i ∧ i < 1000000000000 := by
        match j, hj with
        | 0, h => cases h; exact ⟨_, rfl, n0, n1⟩
        | 1, h => cases h; exact ⟨_, rfl, e0, e1⟩
        | 2, h => cases h; exact ⟨_, rfl, s0, by assumption⟩
        | 3, h => cases h; exact ⟨_, rfl, w0, w1⟩
        | n + 4, h => simp at h
      obtain ⟨i, rfl, i0, i1⟩ := key
      refine ⟨_, [a, b, c, some (.d (.int i))], s1, rfl, .inl ?_, _, rfl, rfl⟩
      have z0 : ¬ i < 0 := by omega
      have z1 : ¬ 1000000000000 ≤ i := by omega
      simp [z0, z1]
  exact ⟨d', e⟩
theorem tinit_ok {Φ : Phi} (n : Nat) (hh : Φ.has 2 3 = true) : MkTiles (.p 1 (gI 2 Φ n B_Tinit 4)) := fun ts s h0 h1 ht => by
  have lp := forK_inv (Φ := Φ) (n := n) (t := .n 2) (b := [(.for (.n 3) (.seq (.idx (.var 1) (.var 2))) B_tiIn)])
    (fun _ ρ s' => ∃ c d, ρ = [some (.h 0), some (.d (rowsD ts)), c, d] ∧ s' = [.ins 2 []]) (upTo 0 ts.length) 0 [some (.h 0), some (.d (rowsD ts)), none, none] [.ins 2 []] ⟨none, none, rfl, rfl⟩ fun j x ρ s1 hj ⟨c, d, hρ, hs⟩ => by
      subst hρ hs
      obtain ⟨rfl, hjl⟩ := upTo_get _ _ _ _ hj
      have ha : atD (ts.map Tile.d) (j : Int) = some ts[j].d := atD_nat (by omega) (by
        rw [Int.toNat_natCast, List.getElem?_map, List.getElem?_eq_getElem hjl]; rfl)
      obtain ⟨d', e⟩ := inner_loop (Φ := Φ) (n := n) (ht ts[j] (List.getElem_mem hjl)) (a := some (.h 0)) (b := some (.d (rowsD ts))) (c := some (.d (.int (j : Int)))) (d := d) (s := [.ins 2 []])
      refine ⟨_, [some (.h 0), some (.d (rowsD ts)), some (.d (.int (j : Int))), d'], [.ins 2 []], rfl, .inl ?_, _, _, rfl, rfl⟩
      simp [ha, Tile.d, frzR, e]
  obtain ⟨ρ', s', e, c, d, rfl, rfl⟩ := lp
  have z0 : ¬ (ts.length : Int) < 1 := by omega
  have z1 : ¬ 200 < (ts.length : Int) := by omega
  have hsm : smallI (ts.length : Int) = true := smallI_len (Nat.le_trans h1 (by decide))
  have g : gI 2 Φ n B_Tinit 4 [.d (rowsD ts)] = some (.ok [(3, rowsD ts)]) := by
    simp only [gI, B_Tinit, startE]
    simp [seeAll, z0, z1, hsm, e, setFW, hh, endI, fldsD, putN]
  simp [mkF, viewAll, view, g]
def TilesM (φ : Fs) : Prop := ∀ (ts : List Tile) (s : List Cell), callF φ [setW ts] s = .ok (.d (rowsD ts)) s
theorem ttiles_ok (Φ : Phi) (n : Nat) : TilesM (.p 1 (gP Φ n B_Ttiles 1)) := fun ts s => by
  refine callP rfl (vs := [setW ts]) rfl ?_
  simp only [gP, B_Ttiles, startE]
  simp [fldW, getN, endP, finP]
/-! ### turned, mirrored -/
def B_turned : List S := [(.ret (.mk 2 (.cons (.fr (.comp (.seq (.meth (.var 0) 0 .nil)) (.n 1) [1] .none (.tup (.cons (.idx (.var 1) (.cst (.int 1))) (.cons (.idx (.var 1) (.cst (.int 2))) (.cons (.idx (.var 1) (.cst (.int 3))) (.cons (.idx (.var 1) (.cst (.int 0))) .nil))))))) .nil)))]
def B_mirrored : List S := [(.ret (.mk 2 (.cons (.fr (.comp (.seq (.meth (.var 0) 0 .nil)) (.n 1) [1] .none (.tup (.cons (.idx (.var 1) (.cst (.int 0))) (.cons (.idx (.var 1) (.cst (.int 3))) (.cons (.idx (.var 1) (.cst (.int 2))) (.cons (.idx (.var 1) (.cst (.int 1))) .nil))))))) .nil)))]
def Tile.turn (t : Tile) : Tile := ⟨t.e, t.s, t.w, t.n⟩
def Tile.mirr (t : Tile) : Tile := ⟨t.n, t.w, t.s, t.e⟩
def MapSet (φ : Fs) (f : Tile → Tile) : Prop := ∀ (ts : List Tile) (s : List Cell), 1 ≤ ts.length → ts.length ≤ 200 → (∀ t ∈ ts, t.ok) → callF φ [setW ts] s = .ok (setW (ts.map f)) s
theorem len_sz {n : Nat} (h : n ≤ 200) : n < sizeLine := Nat.lt_of_le_of_lt h (by decide)
theorem set_map {Φ : Phi} {ψ : Ms} {μ : Fs} {n : Nat} {b : List S} {a : E} {f : Tile → Tile} (hb : b = [(.ret (.mk 2 (.cons (.fr (.comp (.seq (.meth (.var 0) 0 .nil)) (.n 1) [1] .none a)) .nil)))]) (hψ : Φ.cl 2 = some ψ) (K : MkTiles ψ) (hμ : Φ.mt 2 0 = some μ) (M : TilesM μ)
    (hf : ∀ t : Tile, t.ok → (f t).ok) (ha : ∀ (t : Tile) (w : Option W) (s : List Cell), runE Φ a [w, some (.d t.d)] s = .ok (.d (f t).d) s) : MapSet (.p 1 (gP Φ n b 2)) f := fun ts s h0 h1 ht => by
  subst hb
  refine callP rfl (vs := [setW ts]) rfl ?_
  let ff : PyData → PyData := fun x => match x with
    | .tuple [.int a, .int b, .int c, .int d] => (f ⟨a, b, c, d⟩).d
    | x => x
  have e1 : (ts.map Tile.d).map ff = (ts.map f).map Tile.d := by
    rw [List.map_map, List.map_map]
    rfl
  have e := compK_ok (Φ := Φ) (tg := .n 1) (own := [1]) (c := .none) (e := a) (ρ := [some (setW ts), none]) (f := ff) (s := []) (items := ts.map Tile.d) (by simpa using len_sz h1) fun x hx => by
    obtain ⟨t, _, rfl⟩ := List.mem_map.mp hx
    unfold turnK
    simp [wipeE, asgT, ha, frzR]
    rfl
  rw [e1] at e
  have eK := K (ts.map f) [] (by simpa using h0) (by simpa using h1) fun t h => by
    obtain ⟨u, hu, rfl⟩ := List.mem_map.mp h
    exact hf u (ht u hu)
  have eM := M ts []
  simp only [gP, startE]
  simp only [setW, rowsD] at e eK eM ⊢
  simp [-List.map_map, hψ, hμ, clsOf, eM, frzR, e, eK, endP, finP]
theorem turned_ok {Φ : Phi} {ψ : Ms} {μ : Fs} (n : Nat) (hψ : Φ.cl 2 = some ψ) (K : MkTiles ψ) (hμ : Φ.mt 2 0 = some μ) (M : TilesM μ) : MapSet (.p 1 (gP Φ n B_turned 2)) Tile.turn :=
  set_map rfl hψ K hμ M (fun t ⟨a, b, c, d⟩ => ⟨b, c, d, a⟩) fun t w s => by
    have sz4 : (4 : Nat) ≤ sizeLine := by decide
    simp [Tile.d, Tile.turn, at4_0, at4_1, at4_2, at4_3, frzsR, frzAll, sz4]
theorem mirrored_ok {Φ : Phi} {ψ : Ms} {μ : Fs} (n : Nat) (hψ : Φ.cl 2 = some ψ) (K : MkTiles ψ) (hμ : Φ.mt 2 0 = some μ) (M : TilesM μ) : MapSet (.p 1 (gP Φ n B_mirrored 2)) Tile.mirr :=
  set_map rfl hψ K hμ M (fun t ⟨a, b, c, d⟩ => ⟨a, d, c, b⟩) fun t w s => by
    have sz4 : (4 : Nat) ≤ sizeLine := by decide
    simp [Tile.d, Tile.mirr, at4_0, at4_1, at4_2, at4_3, frzsR, frzAll, sz4]
end DM

set_option maxRecDepth 100000
/-! K15b: the law turned_and_mirrored, of its run. -/
namespace DM
open PySem
def B_law15 : List S := [(.asg (.n 1) (.th (.call 9 (.cons (.var 0) .nil)))), (.asg (.n 2) (.call 50 (.cons (.var 1) (.cons (.cst (.int 5)) .nil)))), (.asg (.n 3) (.mk 2 (.cons (.var 2) .nil))), (.ite (.not (.call 29 (.cons (.meth (.call 87 (.cons (.var 3) .nil)) 0 .nil) (.cons (.fr (.comp (.seq (.var 2)) (.n 4) [4] .none (.bin .add (.slc (.var 4) (.some (.cst (.int 1))) .none) (.slc (.var 4) .none (.some (.cst (.int 1))))))) .nil)))) [(.ret (.cst (.bool false)))] []), (.ite (.not (.call 29 (.cons (.meth (.call 75 (.cons (.var 3) .nil)) 0 .nil) (.cons (.fr (.comp (.seq (.var 2)) (.n 4) [4] .none (.tup (.cons (.idx (.var 4) (.cst (.int 0))) (.cons (.idx (.var 4) (.cst (.int 3))) (.cons (.idx (.var 4) (.cst (.int 2))) (.cons (.idx (.var 4) (.cst (.int 1))) .nil))))))) .nil)))) [(.ret (.cst (.bool false)))] []), (.ite (.or (.cmp .ne (.meth (.call 87 (.cons (.call 87 (.cons (.call 87 (.cons (.call 87 (.cons (.var 3) .nil)) .nil)) .nil)) .nil)) 0 .nil) (.var 2)) (.cmp .ne (.meth (.call 75 (.cons (.call 75 (.cons (.var 3) .nil)) .nil)) 0 .nil) (.var 2))) [(.ret (.cst (.bool false)))] []), (.ret (.cmp .eq (.meth (.var 3) 0 .nil) (.var 2)))]
theorem b_addT {a b : List PyData} (h : a.length + b.length ≤ sizeLine) : binD .add (.tuple a) (.tuple b) = some (.tuple (a ++ b)) := by
  show (if a.length + b.length ≤ sizeLine then some (PyData.tuple (a ++ b)) else none) = _
  rw [if_pos h]
theorem rows_Nd {ts : List Tile} (h : ts.length ≤ 200) : Nd 2 (rowsD ts) = true := by
  have h4 : (4 : Nat) ≤ sizeLine := by decide
  have hl : ts.length ≤ sizeLine := Nat.le_of_lt (len_sz h)
  simp [Nd, hl, Tile.d, h4]
theorem callF_X {φ : Fs} {ws : List W} {s s' : List Cell} {l : List PyData} (h : callX φ ws s = .ok (.l l) s') : callF φ ws s = .ok (.d (.list l)) s' := by unfold callF; rw [h]; rfl
theorem comp_rows {Φ : Phi} {a : E} {f : Tile → Tile} {ρ : Env} {own : List Nat} {tg : Tg} {s : List Cell} {ts : List Tile} (hl : ts.length ≤ 200) (ha : ∀ t : Tile, turnK Φ tg own .none a ρ t.d s = .ok (some (f t).d) s) : compT Φ tg own .none a ρ (.ok (ts.map Tile.d) s) = .ok ((ts.map f).map Tile.d) s := by
  let ff : PyData → PyData := fun x => match x with
    | .tuple [.int a, .int b, .int c, .int d] => (f ⟨a, b, c, d⟩).d
    | x => x
  have e1 : (ts.map Tile.d).map ff = (ts.map f).map Tile.d := by
    rw [List.map_map, List.map_map]
    rfl
  rw [← e1]
  refine compK_ok (by simpa using len_sz hl) fun x hx => ?_
  obtain ⟨t, _, rfl⟩ := List.mem_map.mp hx
  exact ha t
theorem law15 {Φ : Phi} {φ9 φ50 φ29 φ87 φ75 μ : Fs} {ψ : Ms} (n : Nat) (h9 : Φ.fn 9 = some φ9) (D : DiceOk φ9) (h50 : Φ.fn 50 = some φ50) (Ti : TilesOk φ50) (h29 : Φ.fn 29 = some φ29) (L : LikeOk φ29 2) (h87 : Φ.fn 87 = some φ87) (Tu : MapSet φ87 Tile.turn) (h75 : Φ.fn 75 = some φ75) (Mi : MapSet φ75 Tile.mirr)
    (hμ : Φ.mt 2 0 = some μ) (M : TilesM μ) (hψ : Φ.cl 2 = some ψ) (K : MkTiles ψ) (ns : List Int) (hl : ns.length ≤ 63) : gP Φ n B_law15 5 [.d (.list (ns.map .int))] = some (.ret (.d (.bool true))) := by
  obtain ⟨l, dl, e1⟩ := D ns [] hl
  obtain ⟨ts, c', t0, t1, tk, dc, e2⟩ := Ti [.lst l] 0 (.lst l) 5 dl rfl rfl (by decide) (by decide)
  replace e2 := callF_X e2
  simp only [List.set_cons_zero] at e2
  have t2 : ts.length ≤ 200 := by omega
  have sz4 : (4 : Nat) ≤ sizeLine := by decide
  have tuk : ∀ ts : List Tile, (∀ t ∈ ts, t.ok) → ∀ t ∈ ts.map Tile.turn, t.ok := fun ts h t ht => by
    obtain ⟨u, hu, rfl⟩ := List.mem_map.mp ht
    obtain ⟨a, b, c, d⟩ := h u hu
    exact ⟨b, c, d, a⟩
  have mik : ∀ ts : List Tile, (∀ t ∈ ts, t.ok) → ∀ t ∈ ts.map Tile.mirr, t.ok := fun ts h t ht => by
    obtain ⟨u, hu, rfl⟩ := List.mem_map.mp ht
    obtain ⟨a, b, c, d⟩ := h u hu
    exact ⟨a, d, c, b⟩
  have eK := K ts [c'] t0 t2 tk
  have u1 := Tu ts [c'] t0 t2 tk
  have u2 := Tu (ts.map Tile.turn) [c'] (by simpa using t0) (by simpa using t2) (tuk _ tk)
  have u3 := Tu ((ts.map Tile.turn).map Tile.turn) [c'] (by simpa using t0) (by simpa using t2) (tuk _ (tuk _ tk))
  have u4 := Tu (((ts.map Tile.turn).map Tile.turn).map Tile.turn) [c'] (by simpa using t0) (by simpa using t2) (tuk _ (tuk _ (tuk _ tk)))
  have f4 : (((ts.map Tile.turn).map Tile.turn).map Tile.turn).map Tile.turn = ts := by
    simp only [List.map_map]
    exact List.map_id'' (fun t => rfl) ts
  rw [f4] at u4
  have v1 := Mi ts [c'] t0 t2 tk
  have v2 := Mi (ts.map Tile.mirr) [c'] (by simpa using t0) (by simpa using t2) (mik _ tk)
  have f2 : (ts.map Tile.mirr).map Tile.mirr = ts := by
    simp only [List.map_map]
    exact List.map_id'' (fun t => rfl) ts
  rw [f2] at v2
  have m0 := M ts [c']
  have m1 := M (ts.map Tile.turn) [c']
  have m2 := M (ts.map Tile.mirr) [c']
  have l1 := L (rowsD (ts.map Tile.turn)) [c'] (rows_Nd (by simpa using t2))
  have l2 := L (rowsD (ts.map Tile.mirr)) [c'] (rows_Nd (by simpa using t2))
  have q1 := c_ne_self (by decide) (rows_Nd t2)
  have q2 := c_eq_self (by decide) (rows_Nd t2)
  have k1 : compT Φ (.n 4) [4] .none (.bin .add (.slc (.var 4) (.some (.cst (.int 1))) .none) (.slc (.var 4) .none (.some (.cst (.int 1))))) [some (.d (.list (ns.map .int))), some (.h 0), some (.d (rowsD ts)), some (setW ts), none] (.ok (ts.map Tile.d) [c']) = .ok ((ts.map Tile.turn).map Tile.d) [c'] := comp_rows t2 fun t => by
    have a1 : cut [PyData.int t.n, .int t.e, .int t.s, .int t.w] (some 1) none = [.int t.e, .int t.s, .int t.w] := rfl
    have a2 : cut [PyData.int t.n, .int t.e, .int t.s, .int t.w] none (some 1) = [.int t.n] := rfl
    have a3 : binD .add (.tuple [.int t.e, .int t.s, .int t.w]) (.tuple [.int t.n]) = some (.tuple [.int t.e, .int t.s, .int t.w, .int t.n]) := b_addT sz4
    show turnK Φ (.n 4) [4] .none (.bin .add (.slc (.var 4) (.some (.cst (.int 1))) .none) (.slc (.var 4) .none (.some (.cst (.int 1))))) [some (.d (.list (ns.map .int))), some (.h 0), some (.d (rowsD ts)), some (setW ts), none] t.d [c'] = _
    unfold turnK
    simp [wipeE, asgT, Tile.d, a1, a2, a3, frzR, Tile.turn]
  have k2 : compT Φ (.n 4) [4] .none (.tup (.cons (.idx (.var 4) (.cst (.int 0))) (.cons (.idx (.var 4) (.cst (.int 3))) (.cons (.idx (.var 4) (.cst (.int 2))) (.cons (.idx (.var 4) (.cst (.int 1))) .nil))))) [some (.d (.list (ns.map .int))), some (.h 0), some (.d (rowsD ts)), some (setW ts), none] (.ok (ts.map Tile.d) [c']) = .ok ((ts.map Tile.mirr).map Tile.d) [c'] := comp_rows t2 fun t => by
    unfold turnK
    simp [wipeE, asgT, Tile.d, at4_0, at4_1, at4_2, at4_3, frzsR, frzAll, sz4, frzR, Tile.mirr]
  simp only [gP, B_law15, startE]
  simp only [setW, rowsD] at *
  simp [-List.map_map, h9, e1, h50, asgT, e2, hψ, eK, h87, u1, hμ, clsOf, m1, frzR, k1, h29, l1, h75, v1, m2, k2, l2, u2, u3, u4, m0, q1, v2, q2, endP, finP]
end DM

set_option maxRecDepth 100000
/-! L5: the law's own trying: sizes, fits, layings. -/
namespace DM
open PySem
def Tile.z : Tile := ⟨0, 0, 0, 0⟩
/-- the tile with a number -/
def tl (ts : List Tile) (i : Nat) : Tile := ts.getD i Tile.z
/-- the number at a place -/
def gN (r : List Nat) (j : Nat) : Nat := r.getD j 0
def rowD (r : List Nat) : PyData := .tuple (r.map fun (i : Nat) => PyData.int (i : Int))
theorem at_rows {ts : List Tile} {i : Nat} (h : i < ts.length) : atD (ts.map Tile.d) (i : Int) = some (tl ts i).d := by
  refine atD_nat (by omega) ?_
  rw [Int.toNat_natCast, List.getElem?_map, List.getElem?_eq_getElem h]
  unfold tl
  rw [List.getD_eq_getElem?_getD, List.getElem?_eq_getElem h]
  rfl
theorem at_row {r : List Nat} {j : Nat} (h : j < r.length) : atD (r.map fun (i : Nat) => PyData.int (i : Int)) (j : Int) = some (.int (gN r j : Nat)) := by
  refine atD_nat (by omega) ?_
  unfold gN
  rw [Int.toNat_natCast, List.getElem?_map, List.getElem?_eq_getElem h, List.getD_eq_getElem?_getD, List.getElem?_eq_getElem h]
  rfl
theorem getD_lt {r : List Nat} {n j : Nat} (hr : ∀ i ∈ r, i < n) (h : j < r.length) : gN r j < n := by
  unfold gN
  rw [List.getD_eq_getElem?_getD, List.getElem?_eq_getElem h]
  exact hr _ (List.getElem_mem h)
/-! ### fits -/
def fitsB (ts : List Tile) (w : Nat) (row : List Nat) (t : Nat) : Bool :=
  (decide (row.length % w = 0) || decide ((tl ts (gN row (row.length - 1))).e = (tl ts t).w)) && (decide (row.length < w) || decide ((tl ts (gN row (row.length - w))).s = (tl ts t).n))
def B_fits : List S := [(.asg (.n 4) (.bi .len (.cons (.var 2) .nil))), (.ite (.and (.cmp .gt (.bin .mod (.var 4) (.var 1)) (.cst (.int 0))) (.cmp .ne (.idx (.idx (.var 0) (.idx (.var 2) (.bin .sub (.var 4) (.cst (.int 1))))) (.cst (.int 1))) (.idx (.idx (.var 0) (.var 3)) (.cst (.int 3))))) [(.ret (.cst (.bool false)))] []), (.ret (.or (.cmp .lt (.var 4) (.var 1)) (.cmp .eq (.idx (.idx (.var 0) (.idx (.var 2) (.bin .sub (.var 4) (.var 1)))) (.cst (.int 2))) (.idx (.idx (.var 0) (.var 3)) (.cst (.int 0))))))]
def FitsOk (φ : Fs) : Prop := ∀ (ts : List Tile) (w : Nat) (row : List Nat) (t : Nat) (s : List Cell), 0 < w → (∀ i ∈ row, i < ts.length) → t < ts.length → callF φ [.d (rowsD ts), .d (.int w), .d (rowD row), .d (.int t)] s = .ok (.d (.bool (fitsB ts w row t))) s
theorem fits_ok (Φ : Phi) (n : Nat) : FitsOk (.p 4 (gP Φ n B_fits 5)) := fun ts w row t s hw hr ht => by
  refine callP rfl (vs := [.d (rowsD ts), .d (.int w), .d (rowD row), .d (.int t)]) rfl ?_
  have hwi : (0 : Int) < (w : Int) := by omega
  have eT := at_rows ht
  have key2 : runB Φ n [(.ret (.or (.cmp .lt (.var 4) (.var 1)) (.cmp .eq (.idx (.idx (.var 0) (.idx (.var 2) (.bin .sub (.var 4) (.var 1)))) (.cst (.int 2))) (.idx (.idx (.var 0) (.var 3)) (.cst (.int 0))))))] [some (.d (rowsD ts)), some (.d (.int w)), some (.d (rowD row)), some (.d (.int t)), some (.d (.int row.length))] [] =
      .ok (.ret (.d (.bool (decide (row.length < w) || decide ((tl ts (gN row (row.length - w))).s = (tl ts t).n)))), [some (.d (rowsD ts)), some (.d (.int w)), some (.d (rowD row)), some (.d (.int t)), some (.d (.int row.length))]) [] := by
    by_cases hlt : row.length < w
    · have : (row.length : Int) < w := by omega
      simp [hlt, this]
    · have h1 : ¬ (row.length : Int) < w := by omega
      have hj : row.length - w < row.length := by omega
      have e0 : ((row.length : Int) - (w : Int)) = ((row.length - w : Nat) : Int) := by omega
      have e1 := at_row hj
      have e2 := at_rows (getD_lt hr hj)
      simp only [rowD, rowsD]
      simp [-List.map_map, hlt, h1, e0, e1, e2, eT, at4_0, at4_2, Tile.d]
  by_cases hm : row.length % w = 0
  · have hm' : ((row.length : Int) % (w : Int)) = 0 := by exact_mod_cast hm
    have e : gP Φ n B_fits 5 [.d (rowsD ts), .d (.int w), .d (rowD row), .d (.int t)] = endP (runB Φ n [(.ret (.or (.cmp .lt (.var 4) (.var 1)) (.cmp .eq (.idx (.idx (.var 0) (.idx (.var 2) (.bin .sub (.var 4) (.var 1)))) (.cst (.int 2))) (.idx (.idx (.var 0) (.var 3)) (.cst (.int 0))))))] [some (.d (rowsD ts)), some (.d (.int w)), some (.d (rowD row)), some (.d (.int t)), some (.d (.int row.length))] []) := by
      simp only [gP, B_fits, startE, rowD, rowsD]
      simp [-List.map_map, seeAll, b_mod hwi, hm', asgT]
    rw [e, key2]
    simp [endP, finP, fitsB, hm]
  · have hm' : 0 < ((row.length : Int) % (w : Int)) := by
      have : ((row.length % w : Nat) : Int) = (row.length : Int) % (w : Int) := by push_cast; rfl
      omega
    have hp : 0 < row.length := by
      rcases Nat.eq_zero_or_pos row.length with h | h
      · rw [h] at hm; simp at hm
      · exact h
    have hj : row.length - 1 < row.length := by omega
    have e0 : ((row.length : Int) - 1) = ((row.length - 1 : Nat) : Int) := by omega
    have e1 := at_row hj
    have e2 := at_rows (getD_lt hr hj)
    by_cases hc : (tl ts (gN row (row.length - 1))).e = (tl ts t).w
    · have e : gP Φ n B_fits 5 [.d (rowsD ts), .d (.int w), .d (rowD row), .d (.int t)] = endP (runB Φ n [(.ret (.or (.cmp .lt (.var 4) (.var 1)) (.cmp .eq (.idx (.idx (.var 0) (.idx (.var 2) (.bin .sub (.var 4) (.var 1)))) (.cst (.int 2))) (.idx (.idx (.var 0) (.var 3)) (.cst (.int 0))))))] [some (.d (rowsD ts)), some (.d (.int w)), some (.d (rowD row)), some (.d (.int t)), some (.d (.int row.length))] []) := by
        simp only [gP, B_fits, startE, rowD, rowsD]
        simp [-List.map_map, seeAll, b_mod hwi, hm', asgT, e0, e1, e2, eT, at4_1, at4_3, Tile.d, hc]
      rw [e, key2]
      simp [endP, finP, fitsB, hc]
    · simp only [gP, B_fits, startE, rowD, rowsD]
      simp [-List.map_map, seeAll, b_mod hwi, hm', asgT, e0, e1, e2, eT, at4_1, at4_3, Tile.d, hc, endP, finP, fitsB, hm]
/-! ### size -/
def B_ways : List S := [(.asg (.n 5) (.bin .mul (.var 5) (.var 1)))]
def B_sizeW : List S := [(.asg (.n 5) (.cst (.int 1))), (.for (.n 6) (.rng1 (.bin .mul (.var 3) (.var 4))) [(.asg (.n 5) (.bin .mul (.var 5) (.var 1)))]), (.ite (.cmp .le (.var 5) (.var 2)) [(.ret (.tup (.cons (.var 3) (.cons (.var 4) .nil))))] []), (.ite (.cmp .ge (.var 4) (.var 3)) [(.asg (.n 4) (.bin .sub (.var 4) (.cst (.int 1))))] [(.asg (.n 3) (.bin .sub (.var 3) (.cst (.int 1))))])]
def B_size : List S := [(.asg (.n 3) (.bin .add (.cst (.int 1)) (.call 34 (.cons (.var 0) (.cons (.cst (.int 4)) .nil))))), (.asg (.n 4) (.bin .add (.cst (.int 1)) (.call 34 (.cons (.var 0) (.cons (.cst (.int 4)) .nil))))), (.while (.cst (.bool true)) [(.asg (.n 5) (.cst (.int 1))), (.for (.n 6) (.rng1 (.bin .mul (.var 3) (.var 4))) [(.asg (.n 5) (.bin .mul (.var 5) (.var 1)))]), (.ite (.cmp .le (.var 5) (.var 2)) [(.ret (.tup (.cons (.var 3) (.cons (.var 4) .nil))))] []), (.ite (.cmp .ge (.var 4) (.var 3)) [(.asg (.n 4) (.bin .sub (.var 4) (.cst (.int 1))))] [(.asg (.n 3) (.bin .sub (.var 3) (.cst (.int 1))))])])]
theorem ways_step {Φ : Phi} {n : Nat} {a b h w : Option W} {m p : Int} {x : PyData} {s1 : List Cell} (hmul : ∀ i : Int, mulOk i m = true) : runB Φ n [(.asg (.n 5) (.bin .mul (.var 5) (.var 1)))] [a, some (.d (.int m)), b, h, w, some (.d (.int p)), some (.d x)] s1 = .ok (.nx, [a, some (.d (.int m)), b, h, w, some (.d (.int (p * m))), some (.d x)]) s1 := by
  simp [b_mul (hmul _), asgT]
theorem ways_loop {Φ : Phi} {n : Nat} {a b h w o : Option W} {m : Nat} (hm : m ≤ 1000) (k : Nat) (s : List Cell) : ∃ (o' : Option W) (p : Nat), p = m ^ k ∧ forK Φ n (.n 6) [(.asg (.n 5) (.bin .mul (.var 5) (.var 1)))] (upTo 0 k) [a, some (.d (.int m)), b, h, w, some (.d (.int 1)), o] s = .ok (.nx, [a, some (.d (.int m)), b, h, w, some (.d (.int p)), o']) s := by
  have hmul : ∀ i : Int, mulOk i (m : Int) = true := fun i => mulR i ⟨by omega, by omega⟩
  obtain ⟨ρ', s', e, o', p, hp, rfl, rfl⟩ := forK_inv (Φ := Φ) (n := n) (t := .n 6) (b := [(.asg (.n 5) (.bin .mul (.var 5) (.var 1)))])
    (fun q ρ s' => ∃ (o' : Option W) (p : Nat), p = m ^ q ∧ ρ = [a, some (.d (.int m)), b, h, w, some (.d (.int p)), o'] ∧ s' = s) (upTo 0 k) 0 [a, some (.d (.int m)), b, h, w, some (.d (.int 1)), o] s ⟨o, 1, by simp, rfl, rfl⟩ fun j x ρ s1 hj ⟨o', p, hp, hρ, hs⟩ => by
      subst hρ hs
      refine ⟨_, [a, some (.d (.int m)), b, h, w, some (.d (.int ((p * m : Nat) : Int))), some (.d x)], s1, rfl, .inl ?_, some (.d x), p * m, by rw [hp, ← Nat.pow_succ], rfl, rfl⟩
      have : ((p * m : Nat) : Int) = (p : Int) * (m : Int) := Int.natCast_mul p m
      rw [this]
      exact ways_step hmul
  rw [upTo_len, Nat.zero_add] at hp
  exact ⟨o', p, hp, e⟩
def SizeOk (φ : Fs) : Prop := ∀ (s : List Cell) (i : Nat) (c : Cell) (m M : Nat), OkDice c → s[i]? = some c → closedS s.length s = true → 1 ≤ m → m ≤ 1000 → m ≤ M →
  ∃ (h w : Nat) (c' : Cell), 1 ≤ h ∧ h ≤ 4 ∧ 1 ≤ w ∧ w ≤ 4 ∧ m ^ (h * w) ≤ M ∧ OkDice c' ∧ callF φ [.h i, .d (.int m), .d (.int M)] s = .ok (.d (.tuple [.int h, .int w])) (s.set i c')
section
variable {Φ : Phi} {n : Nat} {a o5 o6 o' : Option W} {m M h w p : Int} {k : Nat} {s : List Cell} (hmul : mulOk h w = true) (hsm : smallI (h * w) = true) (hk : (h * w).toNat = k)
  (e : forK Φ n (.n 6) [(.asg (.n 5) (.bin .mul (.var 5) (.var 1)))] (upTo 0 k) [a, some (.d (.int m)), some (.d (.int M)), some (.d (.int h)), some (.d (.int w)), some (.d (.int 1)), o6] s = .ok (.nx, [a, some (.d (.int m)), some (.d (.int M)), some (.d (.int h)), some (.d (.int w)), some (.d (.int p)), o']) s)
include hmul hsm hk e
theorem size_b1 (hle : p ≤ M) : runB Φ n B_sizeW [a, some (.d (.int m)), some (.d (.int M)), some (.d (.int h)), some (.d (.int w)), o5, o6] s = .ok (.ret (.d (.tuple [.int h, .int w])), [a, some (.d (.int m)), some (.d (.int M)), some (.d (.int h)), some (.d (.int w)), some (.d (.int p)), o']) s := by
  have sz2 : (2 : Nat) ≤ sizeLine := by decide
  simp [B_sizeW, asgT, b_mul hmul, hsm, hk, e, hle, frzsR, frzAll, sz2]
theorem size_b2 (hle : ¬ p ≤ M) (hw : h ≤ w) : runB Φ n B_sizeW [a, some (.d (.int m)), some (.d (.int M)), some (.d (.int h)), some (.d (.int w)), o5, o6] s = .ok (.nx, [a, some (.d (.int m)), some (.d (.int M)), some (.d (.int h)), some (.d (.int (w - 1))), some (.d (.int p)), o']) s := by
  simp [B_sizeW, asgT, b_mul hmul, hsm, hk, e, hle, hw]
theorem size_b3 (hle : ¬ p ≤ M) (hw : ¬ h ≤ w) : runB Φ n B_sizeW [a, some (.d (.int m)), some (.d (.int M)), some (.d (.int h)), some (.d (.int w)), o5, o6] s = .ok (.nx, [a, some (.d (.int m)), some (.d (.int M)), some (.d (.int (h - 1))), some (.d (.int w)), some (.d (.int p)), o']) s := by
  simp [B_sizeW, asgT, b_mul hmul, hsm, hk, e, hle, hw]
end
theorem whileT {Φ : Phi} {n : Nat} {b : List S} {m : Nat} {ρ : Env} {s : List Cell} : whileK Φ n (.cst (.bool true)) b (m + 1) ρ s = R.lp (runB Φ n b ρ s) (whileK Φ n (.cst (.bool true)) b m) := Eq.trans rfl rfl
theorem size_while {Φ : Phi} {n : Nat} {a : Option W} {m M : Nat} {s : List Cell} (h0 : 1 ≤ m) (hm : m ≤ 1000) (hM : m ≤ M) : ∀ (f h w : Nat) (o5 o6 : Option W), 1 ≤ h → 1 ≤ w → h ≤ 4 → w ≤ 4 → h + w ≤ f + 1 →
    ∃ (h' w' : Nat) (ρ' : Env), 1 ≤ h' ∧ h' ≤ 4 ∧ 1 ≤ w' ∧ w' ≤ 4 ∧ m ^ (h' * w') ≤ M ∧ whileK Φ n (.cst (.bool true)) B_sizeW f [a, some (.d (.int m)), some (.d (.int M)), some (.d (.int h)), some (.d (.int w)), o5, o6] s = .ok (.ret (.d (.tuple [.int h', .int w'])), ρ') s := by
  intro f
  induction f with
  | zero => intro h w o5 o6 h1 w1 h4 w4 hf; omega
  | succ f ih =>
    intro h w o5 o6 h1 w1 h4 w4 hf
    obtain ⟨o', p, hp, e⟩ := ways_loop (Φ := Φ) (n := n) (a := a) (b := some (.d (.int M))) (h := some (.d (.int h))) (w := some (.d (.int w))) (o := o6) hm (h * w) s
    have e1 : ((h : Int) * (w : Int)) = ((h * w : Nat) : Int) := (Int.natCast_mul h w).symm
    have hsm : smallI ((h : Int) * (w : Int)) = true := by
      have : h * w ≤ 4 * 4 := Nat.mul_le_mul h4 w4
      rw [e1]
      exact smallI_len (Nat.le_trans this (by decide))
    have hmul : mulOk (h : Int) (w : Int) = true := mulR _ ⟨by omega, by omega⟩
    have etn : ((h : Int) * (w : Int)).toNat = h * w := by rw [e1, Int.toNat_natCast]
    rw [whileT]
    by_cases hle : p ≤ M
    · refine ⟨h, w, [a, some (.d (.int m)), some (.d (.int M)), some (.d (.int h)), some (.d (.int w)), some (.d (.int (p : Int))), o'], h1, h4, w1, w4, by rw [← hp]; exact hle, ?_⟩
      rw [size_b1 hmul hsm etn e (by exact_mod_cast hle)]
      rfl
    · have hle' : ¬ (p : Int) ≤ (M : Int) := by exact_mod_cast hle
      have nn : ¬ (h = 1 ∧ w = 1) := by rintro ⟨rfl, rfl⟩; simp at hp; omega
      by_cases hwh : h ≤ w
      · obtain ⟨h', w', ρ', a1, a2, a3, a4, a5, a6⟩ := ih h (w - 1) (some (.d (.int (p : Int)))) o' h1 (by omega) h4 (by omega) (by omega)
        refine ⟨h', w', ρ', a1, a2, a3, a4, a5, ?_⟩
        have ew : ((w - 1 : Nat) : Int) = (w : Int) - 1 := by omega
        rw [ew] at a6
        rw [size_b2 hmul hsm etn e hle' (by omega), R.lp_nx]
        exact a6
      · obtain ⟨h', w', ρ', a1, a2, a3, a4, a5, a6⟩ := ih (h - 1) w (some (.d (.int (p : Int)))) o' (by omega) w1 (by omega) w4 (by omega)
        refine ⟨h', w', ρ', a1, a2, a3, a4, a5, ?_⟩
        have ew : ((h - 1 : Nat) : Int) = (h : Int) - 1 := by omega
        rw [ew] at a6
        rw [size_b3 hmul hsm etn e hle' (by omega), R.lp_nx]
        exact a6
theorem size_ok {Φ : Phi} {φ : Fs} (hφ : Φ.fn 34 = some φ) (N : NextOk φ) : SizeOk (.m 3 (gM Φ 9 B_size 7 0)) := fun s i c m M hd h hs m0 m1 mM => by
  obtain ⟨r1, c1, a0, a1, d1, e1⟩ := N s i c 4 hd h hs (by decide) (by decide)
  have h1 := get_set (c' := c1) h
  have hs1 := closed_dice (i := i) hs d1
  obtain ⟨r2, c2, b0, b1, d2, e2⟩ := N _ i c1 4 d1 h1 hs1 (by decide) (by decide)
  rw [List.set_set] at e2
  have hc2 : closedS s.length (s.set i c2) = true := by have := closed_dice (i := i) hs d2; rwa [List.length_set] at this
  obtain ⟨h', w', ρ', p1, p2, p3, p4, p5, p6⟩ := size_while (Φ := Φ) (n := 9) (a := some (.h i)) (s := s.set i c2) m0 m1 mM 9 (1 + r1).toNat (1 + r2).toNat none none (by omega) (by omega) (by omega) (by omega) (by omega)
  have q1 : ((1 + r1).toNat : Int) = 1 + r1 := by omega
  have q2 : ((1 + r2).toNat : Int) = 1 + r2 := by omega
  rw [q1, q2] at p6
  refine ⟨h', w', c2, p1, p2, p3, p4, p5, d2, ?_⟩
  show ((if 3 = 3 then gM Φ 9 B_size 7 0 [.h i, .d (.int m), .d (.int M)] s else .no) : R Rv).bind rvW = _
  rw [if_pos rfl]
  unfold B_sizeW at p6
  simp only [gM, B_size, startE]
  simp [hφ, e1, e2, asgT, p6, endM, finM, hc2, List.take_of_length_le, rvW]
end DM

set_option maxRecDepth 100000
/-! L6: the law's own layings. -/
namespace DM
open PySem
theorem upTo_map : ∀ (n : Nat) (lo : Int), upTo lo n = (List.range n).map fun (i : Nat) => PyData.int (lo + (i : Int))
  | 0, _ => rfl
  | n + 1, lo => by
    rw [List.range_succ_eq_map, List.map_cons, List.map_map]
    show PyData.int lo :: upTo (lo + 1) n = _
    rw [upTo_map n (lo + 1)]
    congr 1
    · congr 1; simp
    · apply List.map_congr_left
      intro i _
      show PyData.int (lo + 1 + (i : Int)) = PyData.int (lo + ((i + 1 : Nat) : Int))
      congr 1
      omega
theorem upTo_range (n : Nat) : upTo 0 n = (List.range n).map fun (i : Nat) => PyData.int (i : Int) := by
  rw [upTo_map]
  apply List.map_congr_left
  intro i _
  rw [Int.zero_add]
/-- a comprehension with a test, over anything coded -/
theorem compK_fm {β : Type} {Φ : Phi} {tg : Tg} {own : List Nat} {c : Oe} {e : E} {ρ : Env} {d : β → PyData} {p : β → Bool} {f : β → PyData} {s : List Cell} : ∀ items : List β, (∀ x ∈ items, turnK Φ tg own c e ρ (d x) s = .ok (if p x then some (f x) else none) s) → compK Φ tg own c e ρ (items.map d) s = .ok ((items.filter p).map f) s
  | [], _ => rfl
  | x :: xs, h => by
    have e1 := h x List.mem_cons_self
    have e2 := compK_fm xs fun y hy => h y (List.mem_cons_of_mem _ hy)
    show (match turnK Φ tg own c e ρ (d x) s with
      | .ok y s => (compK Φ tg own c e ρ (xs.map d) s).bind fun ys s => match y with | some y => R.ok (y :: ys) s | none => R.ok ys s
      | _ => R.no) = _
    rw [e1]
    cases hp : p x with
    | true => simp only [hp, if_true, e2, R.bind_ok, List.filter_cons, List.map_cons]
    | false => simp only [hp, e2, R.bind_ok, List.filter_cons]; rfl
theorem compT_fm {β : Type} {Φ : Phi} {tg : Tg} {own : List Nat} {c : Oe} {e : E} {ρ : Env} {d : β → PyData} {p : β → Bool} {f : β → PyData} {s : List Cell} {items : List β} (hl : items.length < sizeLine) (h : ∀ x ∈ items, turnK Φ tg own c e ρ (d x) s = .ok (if p x then some (f x) else none) s) : compT Φ tg own c e ρ (.ok (items.map d) s) = .ok ((items.filter p).map f) s := by
  rw [compT_ok1 _ _ _ _ _ _ _ _ (by simpa using hl)]; exact compK_fm items h
theorem compT_mp {β : Type} {Φ : Phi} {tg : Tg} {own : List Nat} {c : Oe} {e : E} {ρ : Env} {d : β → PyData} {f : β → PyData} {s : List Cell} {items : List β} (hl : items.length < sizeLine) (h : ∀ x ∈ items, turnK Φ tg own c e ρ (d x) s = .ok (some (f x)) s) : compT Φ tg own c e ρ (.ok (items.map d) s) = .ok (items.map f) s := by
  have := compT_fm (p := fun _ => true) hl fun x hx => by rw [h x hx]; rfl
  rw [this, List.filter_eq_self.mpr (fun _ _ => rfl)]
/-! ### the mirror -/
def extF (ts : List Tile) (w : Nat) (row : List Nat) : List (List Nat) := ((List.range ts.length).filter (fitsB ts w row)).map fun t => row ++ [t]
def layF (ts : List Tile) (w : Nat) : Nat → List (List Nat)
  | 0 => [[]]
  | k + 1 => (layF ts w k).flatMap (extF ts w)
theorem extF_mem {ts : List Tile} {w : Nat} {row r : List Nat} (h : r ∈ extF ts w row) : ∃ t, t < ts.length ∧ fitsB ts w row t = true ∧ r = row ++ [t] := by
  unfold extF at h
  obtain ⟨t, ht, rfl⟩ := List.mem_map.mp h
  rw [List.mem_filter, List.mem_range] at ht
  exact ⟨t, ht.1, ht.2, rfl⟩
theorem extF_len (ts : List Tile) (w : Nat) (row : List Nat) : (extF ts w row).length ≤ ts.length := by
  unfold extF
  rw [List.length_map]
  exact Nat.le_trans (List.length_filter_le _ _) (by simp)
theorem layF_mem {ts : List Tile} {w : Nat} : ∀ {k : Nat} {r : List Nat}, r ∈ layF ts w k → r.length = k ∧ ∀ i ∈ r, i < ts.length
  | 0, r, h => by
    simp [layF] at h
    subst h
    exact ⟨rfl, fun i hi => by cases hi⟩
  | k + 1, r, h => by
    unfold layF at h
    obtain ⟨row, h1, h2⟩ := List.mem_flatMap.mp h
    obtain ⟨l1, l2⟩ := layF_mem h1
    obtain ⟨t, ht, _, rfl⟩ := extF_mem h2
    refine ⟨by simp [l1], fun i hi => ?_⟩
    rcases List.mem_append.mp hi with hi | hi
    · exact l2 i hi
    · rw [List.mem_singleton] at hi; subst hi; exact ht
theorem flat_len {ts : List Tile} {w : Nat} : ∀ l : List (List Nat), (l.flatMap (extF ts w)).length ≤ l.length * ts.length
  | [] => by simp
  | r :: l => by
    rw [List.flatMap_cons, List.length_append, List.length_cons, Nat.succ_mul]
    have := flat_len (ts := ts) (w := w) l
    have := extF_len ts w r
    omega
theorem layF_len (ts : List Tile) (w : Nat) : ∀ k : Nat, (layF ts w k).length ≤ ts.length ^ k
  | 0 => by simp [layF]
  | k + 1 => by
    unfold layF
    rw [Nat.pow_succ]
    exact Nat.le_trans (flat_len _) (Nat.mul_le_mul_right _ (layF_len ts w k))
theorem b_addL {a b : List PyData} (h : a.length + b.length ≤ sizeLine) : binD .add (.list a) (.list b) = some (.list (a ++ b)) := by
  show (if a.length + b.length ≤ sizeLine then some (PyData.list (a ++ b)) else none) = _
  rw [if_pos h]
/-! ### one row longer -/
def E_ext : E := .fr (.comp (.rng1 (.bi .len (.cons (.var 0) .nil))) (.n 7) [7] (.some (.call 12 (.cons (.var 0) (.cons (.var 2) (.cons (.var 6) (.cons (.var 7) .nil)))))) (.bin .add (.var 6) (.tup (.cons (.var 7) .nil))))
theorem ext_run {Φ : Phi} {φ : Fs} (hφ : Φ.fn 12 = some φ) (Fi : FitsOk φ) {ts : List Tile} (ht : ts.length ≤ 200) {w : Nat} (hw : 0 < w) {row : List Nat} (hr : ∀ i ∈ row, i < ts.length) (hrl : row.length ≤ 1000) {h o3 o4 o5 o7 o8 : Option W} (s : List Cell) :
    runE Φ E_ext [some (.d (rowsD ts)), h, some (.d (.int w)), o3, o4, o5, some (.d (rowD row)), o7, o8] s = .ok (.d (.list ((extF ts w row).map rowD))) s := by
  have sz1 : (1 : Nat) ≤ sizeLine := by decide
  have hsm : smallI (ts.length : Int) = true := smallI_len (Nat.le_of_lt (len_sz ht))
  have key : compT Φ (.n 7) [7] (.some (.call 12 (.cons (.var 0) (.cons (.var 2) (.cons (.var 6) (.cons (.var 7) .nil)))))) (.bin .add (.var 6) (.tup (.cons (.var 7) .nil))) [some (.d (rowsD ts)), h, some (.d (.int w)), o3, o4, o5, some (.d (rowD row)), o7, o8] (.ok ((List.range ts.length).map fun (i : Nat) => PyData.int (i : Int)) s) = .ok (((List.range ts.length).filter (fitsB ts w row)).map fun t => rowD (row ++ [t])) s := by
    refine compT_fm (by simpa using len_sz ht) fun t htm => ?_
    have htl : t < ts.length := List.mem_range.mp htm
    have ef := Fi ts w row t s hw hr htl
    have ea : binD .add (rowD row) (.tuple [.int (t : Int)]) = some (rowD (row ++ [t])) := by
      have q := b_addT (a := row.map fun (i : Nat) => PyData.int (i : Int)) (b := [.int (t : Int)]) (by
        have : sizeLine = 16777216 := by decide
        simp; omega)
      rw [show rowD row = .tuple (row.map fun (i : Nat) => PyData.int (i : Int)) from rfl, q]
      unfold rowD
      rw [List.map_append]
      rfl
    cases hf : fitsB ts w row t with
    | true =>
      rw [hf] at ef
      unfold turnK
      simp [-List.map_map, wipeE, asgT, hφ, ef, frzsR, frzAll, sz1, ea, frzR]
    | false =>
      rw [hf] at ef
      unfold turnK
      simp [-List.map_map, wipeE, asgT, hφ, ef]
  have eu : upTo 0 ts.length = (List.range ts.length).map fun (i : Nat) => PyData.int (i : Int) := upTo_range _
  unfold E_ext extF
  rw [rE_fr, rF_comp]
  have eI : runI Φ (.rng1 (.bi .len (.cons (.var 0) .nil))) [some (.d (rowsD ts)), h, some (.d (.int w)), o3, o4, o5, some (.d (rowD row)), o7, o8] s = .ok ((List.range ts.length).map fun (i : Nat) => PyData.int (i : Int)) s := by
    rw [← eu]
    simp [seeAll, hsm]
  rw [eI, key]
  simp only [R.bind_ok, List.map_map]
  rfl
/-! ### all rows longer -/
def B_inner : List S := [(.asg (.n 5) (.bin .add (.var 5) E_ext))]
def B_outer : List S := [(.asg (.n 5) (.fr (.lst .nil))), (.for (.n 6) (.seq (.var 3)) B_inner), (.asg (.n 3) (.var 5))]
theorem inner_step {Φ : Phi} {n : Nat} {A h B o3 o4 r o7 o8 : Option W} {acc new : List PyData} {s : List Cell} (e : runE Φ E_ext [A, h, B, o3, o4, some (.d (.list acc)), r, o7, o8] s = .ok (.d (.list new)) s) (ea : binD .add (.list acc) (.list new) = some (.list (acc ++ new))) :
    runB Φ n B_inner [A, h, B, o3, o4, some (.d (.list acc)), r, o7, o8] s = .ok (.nx, [A, h, B, o3, o4, some (.d (.list (acc ++ new))), r, o7, o8]) s := by
  simp [B_inner, asgT, e, ea]
theorem outer_step {Φ : Phi} {n : Nat} {A h B o4 o5 o6 o6' o7 o8 : Option W} {old new : List PyData} {s : List Cell} (e : forK Φ n (.n 6) B_inner old [A, h, B, some (.d (.list old)), o4, some (.d (.list [])), o6, o7, o8] s = .ok (.nx, [A, h, B, some (.d (.list old)), o4, some (.d (.list new)), o6', o7, o8]) s) :
    runB Φ n B_outer [A, h, B, some (.d (.list old)), o4, o5, o6, o7, o8] s = .ok (.nx, [A, h, B, some (.d (.list new)), o4, some (.d (.list new)), o6', o7, o8]) s := by
  have z0 : (0 : Nat) ≤ sizeLine := Nat.zero_le _
  simp [B_outer, asgT, frzsR, frzAll, frzR, e]
theorem inner_run {Φ : Phi} {n : Nat} {φ : Fs} (hφ : Φ.fn 12 = some φ) (Fi : FitsOk φ) {ts : List Tile} (ht : ts.length ≤ 200) {w : Nat} (hw : 0 < w) {l : List (List Nat)} (hl : ∀ r ∈ l, (∀ i ∈ r, i < ts.length) ∧ r.length ≤ 1000) (hsz : l.length * ts.length ≤ 1000000) {h o3 o4 o6 o7 o8 : Option W} (s : List Cell) :
    ∃ o6' : Option W, forK Φ n (.n 6) B_inner (l.map rowD) [some (.d (rowsD ts)), h, some (.d (.int w)), o3, o4, some (.d (.list [])), o6, o7, o8] s = .ok (.nx, [some (.d (rowsD ts)), h, some (.d (.int w)), o3, o4, some (.d (.list ((l.flatMap (extF ts w)).map rowD))), o6', o7, o8]) s := by
  obtain ⟨ρ', s', e, o6', rfl, rfl⟩ := forK_inv (Φ := Φ) (n := n) (t := .n 6) (b := B_inner)
    (fun q ρ s' => ∃ o6' : Option W, ρ = [some (.d (rowsD ts)), h, some (.d (.int w)), o3, o4, some (.d (.list (((l.take q).flatMap (extF ts w)).map rowD))), o6', o7, o8] ∧ s' = s) (l.map rowD) 0 [some (.d (rowsD ts)), h, some (.d (.int w)), o3, o4, some (.d (.list [])), o6, o7, o8] s ⟨o6, rfl, rfl⟩ fun j x ρ s1 hj ⟨o6', hρ, hs⟩ => by
      subst hρ hs
      rw [List.getElem?_map] at hj
      cases ej : l[j]? with
      | none => rw [ej] at hj; cases hj
      | some r =>
        rw [ej] at hj
        cases hj
        obtain ⟨hjl, er⟩ := List.getElem?_eq_some_iff.mp ej
        have hm : r ∈ l := List.mem_of_getElem? ej
        have e := ext_run hφ Fi ht hw (hl r hm).1 (hl r hm).2 (h := h) (o3 := o3) (o4 := o4) (o5 := some (.d (.list (((l.take (0 + j)).flatMap (extF ts w)).map rowD)))) (o7 := o7) (o8 := o8) s1
        have tk : (l.take (0 + j + 1)).flatMap (extF ts w) = (l.take (0 + j)).flatMap (extF ts w) ++ extF ts w r := by
          rw [Nat.zero_add, List.take_succ, ej, List.flatMap_append]
          simp
        have ea := b_addL (a := ((l.take (0 + j)).flatMap (extF ts w)).map rowD) (b := (extF ts w r).map rowD) (by
          have sp : sizeLine = 16777216 := by decide
          have h1 := flat_len (ts := ts) (w := w) (l.take (0 + j))
          have h2 := extF_len ts w r
          have h3 : (l.take (0 + j)).length * ts.length ≤ l.length * ts.length := Nat.mul_le_mul_right _ (by simp; omega)
          rw [List.length_map, List.length_map]
          omega)
        refine ⟨_, [some (.d (rowsD ts)), h, some (.d (.int w)), o3, o4, some (.d (.list (((l.take (0 + j)).flatMap (extF ts w)).map rowD ++ (extF ts w r).map rowD))), some (.d (rowD r)), o7, o8], s1, rfl, .inl ?_, _, by rw [tk, List.map_append], rfl⟩
        exact inner_step e ea
  refine ⟨o6', ?_⟩
  rw [e, Nat.zero_add, List.length_map, List.take_length]
theorem outer_run {Φ : Phi} {n : Nat} {φ : Fs} (hφ : Φ.fn 12 = some φ) (Fi : FitsOk φ) {ts : List Tile} (ht : ts.length ≤ 200) (h1 : 1 ≤ ts.length) {w : Nat} (hw : 0 < w) (K : Nat) (hK : K ≤ 1000) (hz : ts.length ^ K ≤ 1000000) {h o4 o5 o6 o7 o8 : Option W} (s : List Cell) :
    ∃ o4' o5' o6' : Option W, forK Φ n (.n 4) B_outer (upTo 0 K) [some (.d (rowsD ts)), h, some (.d (.int w)), some (.d (.list [.tuple []])), o4, o5, o6, o7, o8] s = .ok (.nx, [some (.d (rowsD ts)), h, some (.d (.int w)), some (.d (.list ((layF ts w K).map rowD))), o4', o5', o6', o7, o8]) s := by
  obtain ⟨ρ', s', e, o4', o5', o6', rfl, rfl⟩ := forK_inv (Φ := Φ) (n := n) (t := .n 4) (b := B_outer)
    (fun q ρ s' => ∃ o4' o5' o6' : Option W, ρ = [some (.d (rowsD ts)), h, some (.d (.int w)), some (.d (.list ((layF ts w q).map rowD))), o4', o5', o6', o7, o8] ∧ s' = s) (upTo 0 K) 0 [some (.d (rowsD ts)), h, some (.d (.int w)), some (.d (.list [.tuple []])), o4, o5, o6, o7, o8] s ⟨o4, o5, o6, rfl, rfl⟩ fun j x ρ s1 hj ⟨o4', o5', o6', hρ, hs⟩ => by
      subst hρ hs
      obtain ⟨rfl, hjl⟩ := upTo_get _ _ _ _ hj
      rw [Nat.zero_add]
      have hlen := layF_len ts w j
      have hpw : ts.length ^ j * ts.length ≤ ts.length ^ K := by rw [← Nat.pow_succ]; exact Nat.pow_le_pow_right h1 hjl
      have hm : (layF ts w j).length * ts.length ≤ 1000000 := Nat.le_trans (Nat.mul_le_mul_right _ hlen) (Nat.le_trans hpw hz)
      have hml : (layF ts w j).length ≤ 1000000 := by
        have : (layF ts w j).length * 1 ≤ (layF ts w j).length * ts.length := Nat.mul_le_mul_left _ h1
        omega
      obtain ⟨o6'', e⟩ := inner_run (n := n) hφ Fi ht hw (l := layF ts w j) (fun r hr => ⟨(layF_mem hr).2, by rw [(layF_mem hr).1]; omega⟩) hm (h := h) (o3 := some (.d (.list ((layF ts w j).map rowD)))) (o4 := some (.d (.int (0 + (j : Int))))) (o6 := o6') (o7 := o7) (o8 := o8) s1
      refine ⟨_, [some (.d (rowsD ts)), h, some (.d (.int w)), some (.d (.list (((layF ts w j).flatMap (extF ts w)).map rowD))), some (.d (.int (0 + (j : Int)))), some (.d (.list (((layF ts w j).flatMap (extF ts w)).map rowD))), o6'', o7, o8], s1, rfl, .inl ?_, _, _, _, rfl, rfl⟩
      exact outer_step e
  refine ⟨o4', o5', o6', ?_⟩
  rw [e, upTo_len, Nat.zero_add]
/-! ### as rows of the plane -/
def rowsOf (h w : Nat) (r : List Nat) : List (List Nat) := (List.range h).map fun k => (r.drop (k * w)).take w
def layD (L : List (List Nat)) : PyData := .list (L.map rowD)
theorem cut_nat (l : List PyData) {a b : Nat} (h : a ≤ b) : cut l (some (a : Int)) (some (b : Int)) = (l.drop a).take (b - a) := by
  have e : ∀ c : Nat, sIx l.length 0 (some (c : Int)) = min c l.length := fun c => by
    unfold sIx
    simp only
    rw [if_neg (by omega), Int.toNat_natCast]
  have e' : ∀ c : Nat, sIx l.length l.length (some (c : Int)) = min c l.length := fun c => by
    unfold sIx
    simp only
    rw [if_neg (by omega), Int.toNat_natCast]
  unfold cut
  rw [e, e']
  by_cases ha : a ≤ l.length
  · rw [Nat.min_eq_left ha]
    by_cases hb : b ≤ l.length
    · rw [Nat.min_eq_left hb]
    · rw [Nat.min_eq_right (by omega), List.take_of_length_le (by simp), List.take_of_length_le (by simp; omega)]
  · have h1 : min a l.length = l.length := Nat.min_eq_right (by omega)
    have h2 : min b l.length = l.length := Nat.min_eq_right (by omega)
    rw [h1, h2, List.drop_of_length_le (Nat.le_refl _), List.drop_of_length_le (show l.length ≤ a by omega)]
    simp
def E_slc : E := .slc (.var 6) (.some (.bin .mul (.var 8) (.var 2))) (.some (.bin .add (.bin .mul (.var 8) (.var 2)) (.var 2)))
def E_row : E := .fr (.comp (.rng1 (.var 1)) (.n 8) [8] .none E_slc)
theorem slc_run {Φ : Phi} {A h o3 o4 o5 o7 : Option W} {w k : Int} {l : List PyData} {s : List Cell} (hm : mulOk k w = true) : runE Φ E_slc [A, h, some (.d (.int w)), o3, o4, o5, some (.d (.tuple l)), o7, some (.d (.int k))] s = .ok (.d (.tuple (cut l (some (k * w)) (some (k * w + w))))) s := by
  simp [E_slc, b_mul hm]
theorem turn8 {Φ : Phi} {A h w o3 o4 o5 r o7 o8 : Option W} {x y : PyData} {s : List Cell} {e : E} (q : runE Φ e [A, h, w, o3, o4, o5, r, o7, some (.d x)] s = .ok (.d y) s) : turnK Φ (.n 8) [8] .none e [A, h, w, o3, o4, o5, r, o7, o8] x s = .ok (some y) s := by
  unfold turnK
  simp [wipeE, asgT, q, frzR]
theorem turn6 {Φ : Phi} {A h w o3 o4 o5 o6 o7 o8 : Option W} {x y : PyData} {s : List Cell} {e : E} (q : runE Φ e [A, h, w, o3, o4, o5, some (.d x), o7, o8] s = .ok (.d y) s) : turnK Φ (.n 6) [6] .none e [A, h, w, o3, o4, o5, o6, o7, o8] x s = .ok (some y) s := by
  unfold turnK
  simp [wipeE, asgT, q, frzR]
theorem row_run {Φ : Phi} {A o3 o4 o5 o7 o8 : Option W} {h w : Nat} (hh : h ≤ 1000) (hw : w ≤ 1000) {r : List Nat} (s : List Cell) : runE Φ E_row [A, some (.d (.int h)), some (.d (.int w)), o3, o4, o5, some (.d (rowD r)), o7, o8] s = .ok (.d (layD (rowsOf h w r))) s := by
  have sp : sizeLine = 16777216 := by decide
  have hsm : smallI (h : Int) = true := smallI_len (by omega)
  have eu : upTo 0 h = (List.range h).map fun (i : Nat) => PyData.int (i : Int) := upTo_range _
  have key : compT Φ (.n 8) [8] .none E_slc [A, some (.d (.int h)), some (.d (.int w)), o3, o4, o5, some (.d (rowD r)), o7, o8] (.ok ((List.range h).map fun (i : Nat) => PyData.int (i : Int)) s) = .ok ((List.range h).map fun k => rowD ((r.drop (k * w)).take w)) s := by
    refine compT_mp (by simp; omega) fun k hk => turn8 ?_
    have hm : mulOk (k : Int) (w : Int) = true := mulR _ ⟨by omega, by omega⟩
    have q := slc_run (Φ := Φ) (A := A) (h := some (.d (.int h))) (o3 := o3) (o4 := o4) (o5 := o5) (o7 := o7) (l := r.map fun (i : Nat) => PyData.int (i : Int)) (s := s) hm
    have c1 : (k : Int) * (w : Int) = ((k * w : Nat) : Int) := (Int.natCast_mul k w).symm
    have c2 : ((k * w : Nat) : Int) + (w : Int) = ((k * w + w : Nat) : Int) := (Int.natCast_add (k * w) w).symm
    rw [c1, c2, cut_nat _ (Nat.le_add_right _ _), Nat.add_sub_cancel_left, ← List.map_drop, ← List.map_take] at q
    exact q
  have eI : runI Φ (.rng1 (.var 1)) [A, some (.d (.int h)), some (.d (.int w)), o3, o4, o5, some (.d (rowD r)), o7, o8] s = .ok ((List.range h).map fun (i : Nat) => PyData.int (i : Int)) s := by
    rw [← eu]
    simp [hsm]
  unfold E_row
  rw [rE_fr, rF_comp, eI, key]
  unfold layD rowsOf
  rw [List.map_map]
  rfl
def B_layings : List S := [(.asg (.n 3) (.fr (.lst (.cons (.tup .nil) .nil)))), (.for (.n 4) (.rng1 (.bin .mul (.var 1) (.var 2))) B_outer), (.ret (.th (.comp (.seq (.var 3)) (.n 6) [6] .none E_row)))]
def LayingsOk (φ : Fs) : Prop := ∀ (ts : List Tile) (h w : Nat) (s : List Cell), 1 ≤ ts.length → ts.length ≤ 200 → 1 ≤ h → h ≤ 12 → 1 ≤ w → w ≤ 12 → ts.length ^ (h * w) ≤ 1000000 →
  callX φ [.d (rowsD ts), .d (.int h), .d (.int w)] s = .ok (.l ((layF ts w (h * w)).map fun r => layD (rowsOf h w r))) s
theorem callXF {n : Nat} {g : List W → Option Ro} {ws vs : List W} {s : List Cell} {l : List PyData} (hl : ws.length = n) (hv : viewAll s ws = some (vs, false)) (hg : g vs = some (.fresh l)) : callX (.p n g) ws s = .ok (.l l) s := by
  unfold callX
  simp only [hl, if_pos, hv, hg, pX]
  simp
theorem lay_b {Φ : Phi} {n : Nat} {A o4 o5 o6 o7 o8 o4' o5' o6' : Option W} {h w : Int} {k : Nat} {rows out : List PyData} (hmul : mulOk h w = true) (hsm : smallI (h * w) = true) (hk : (h * w).toNat = k)
    (e : forK Φ n (.n 4) B_outer (upTo 0 k) [A, some (.d (.int h)), some (.d (.int w)), some (.d (.list [.tuple []])), o4, o5, o6, o7, o8] [] = .ok (.nx, [A, some (.d (.int h)), some (.d (.int w)), some (.d (.list rows)), o4', o5', o6', o7, o8]) [])
    (e2 : compT Φ (.n 6) [6] .none E_row [A, some (.d (.int h)), some (.d (.int w)), some (.d (.list rows)), o4', o5', o6', o7, o8] (.ok rows []) = .ok out []) :
    endP (runB Φ n B_layings [A, some (.d (.int h)), some (.d (.int w)), none, o4, o5, o6, o7, o8] []) = some (.fresh out) := by
  have z0 : (0 : Nat) ≤ sizeLine := Nat.zero_le _
  have z1 : (1 : Nat) ≤ sizeLine := by decide
  simp [B_layings, asgT, frzsR, frzAll, frzR, b_mul hmul, hsm, hk, e, e2, z0, z1, endP, finP]
theorem layings_ok {Φ : Phi} {φ : Fs} (n : Nat) (hφ : Φ.fn 12 = some φ) (Fi : FitsOk φ) : LayingsOk (.p 3 (gP Φ n B_layings 9)) := fun ts h w s t1 t2 h1 h2 w1 w2 hz => by
  have e1 : ((h : Int) * (w : Int)) = ((h * w : Nat) : Int) := (Int.natCast_mul h w).symm
  have hwb : h * w ≤ 12 * 12 := Nat.mul_le_mul h2 w2
  have sp : sizeLine = 16777216 := by decide
  have hsm : smallI ((h : Int) * (w : Int)) = true := by rw [e1]; exact smallI_len (by omega)
  have hmul : mulOk (h : Int) (w : Int) = true := mulR _ ⟨by omega, by omega⟩
  have etn : ((h : Int) * (w : Int)).toNat = h * w := by rw [e1, Int.toNat_natCast]
  obtain ⟨o4', o5', o6', e⟩ := outer_run (Φ := Φ) (n := n) hφ Fi t2 t1 (w := w) w1 (h * w) (by omega) hz (h := some (.d (.int h))) (o4 := none) (o5 := none) (o6 := none) (o7 := none) (o8 := none) []
  have hlen := Nat.le_trans (layF_len ts w (h * w)) hz
  have e2 : compT Φ (.n 6) [6] .none E_row [some (.d (rowsD ts)), some (.d (.int h)), some (.d (.int w)), some (.d (.list ((layF ts w (h * w)).map rowD))), o4', o5', o6', none, none] (.ok ((layF ts w (h * w)).map rowD) []) = .ok ((layF ts w (h * w)).map fun r => layD (rowsOf h w r)) [] :=
    compT_mp (by omega) fun r hr => turn6 (row_run (by omega) (by omega) [])
  have g : gP Φ n B_layings 9 [.d (rowsD ts), .d (.int h), .d (.int w)] = some (.fresh ((layF ts w (h * w)).map fun r => layD (rowsOf h w r))) := lay_b hmul hsm etn e e2
  exact callXF rfl rfl g
end DM

set_option maxRecDepth 100000
/-! L7: loops that may end the def; what lies beside, below. -/
namespace DM
open PySem
/-- each turn goes on, or ends the def with w -/
theorem forK_find {Φ : Phi} {n : Nat} {t : Tg} {b : List S} {w : W} {s : List Cell} (I : Env → Prop) (p : Nat → Bool) : ∀ (items : List PyData) (k : Nat) (ρ : Env), I ρ →
    (∀ (j : Nat) (x : PyData) (ρ : Env), items[j]? = some x → I ρ → ∃ ρ1, asgT ρ t (.d x) = some ρ1 ∧ (p (k + j) = true → ∃ ρ', (runB Φ n b ρ1 s = .ok (.nx, ρ') s ∨ runB Φ n b ρ1 s = .ok (.ct, ρ') s) ∧ I ρ') ∧ (p (k + j) = false → ∃ ρ', runB Φ n b ρ1 s = .ok (.ret w, ρ') s)) →
    ((∀ j, j < items.length → p (k + j) = true) → ∃ ρ', forK Φ n t b items ρ s = .ok (.nx, ρ') s ∧ I ρ') ∧ (¬ (∀ j, j < items.length → p (k + j) = true) → ∃ ρ', forK Φ n t b items ρ s = .ok (.ret w, ρ') s)
  | [], k, ρ, h, _ => ⟨fun _ => ⟨ρ, rfl, h⟩, fun hn => absurd (fun j hj => absurd hj (Nat.not_lt_zero _)) hn⟩
  | x :: xs, k, ρ, h, st => by
    obtain ⟨ρ1, e1, ht, hf⟩ := st 0 x ρ rfl h
    rw [Nat.add_zero] at ht hf
    cases hp : p k with
    | false =>
      obtain ⟨ρ', e2⟩ := hf hp
      refine ⟨fun ha => ?_, fun _ => ⟨ρ', ?_⟩⟩
      · have := ha 0 (Nat.succ_pos _)
        rw [Nat.add_zero, hp] at this
        cases this
      · rw [forK_cons, e1]
        simp only [e2, R.lp_ret]
    | true =>
      obtain ⟨ρ', e2, h'⟩ := ht hp
      have st' : ∀ (j : Nat) (y : PyData) (ρ : Env), xs[j]? = some y → I ρ → ∃ ρ1, asgT ρ t (.d y) = some ρ1 ∧ (p (k + 1 + j) = true → ∃ ρ', (runB Φ n b ρ1 s = .ok (.nx, ρ') s ∨ runB Φ n b ρ1 s = .ok (.ct, ρ') s) ∧ I ρ') ∧ (p (k + 1 + j) = false → ∃ ρ', runB Φ n b ρ1 s = .ok (.ret w, ρ') s) := fun j y ρ hj hi => by
        have := st (j + 1) y ρ (by simpa using hj) hi
        rwa [show k + (j + 1) = k + 1 + j by omega] at this
      obtain ⟨g1, g2⟩ := forK_find I p xs (k + 1) ρ' h' st'
      have eq : forK Φ n t b (x :: xs) ρ s = forK Φ n t b xs ρ' s := by
        rw [forK_cons, e1]
        rcases e2 with e2 | e2 <;> simp only [e2, R.lp_nx, R.lp_ct]
      rw [eq]
      have iff : (∀ j, j < (x :: xs).length → p (k + j) = true) ↔ (∀ j, j < xs.length → p (k + 1 + j) = true) := by
        constructor
        · intro h j hj
          have := h (j + 1) (by simpa using hj)
          rwa [show k + (j + 1) = k + 1 + j by omega] at this
        · intro h j hj
          cases j with
          | zero => rw [Nat.add_zero]; exact hp
          | succ j =>
            have := h j (by simpa using hj)
            rwa [show k + 1 + j = k + (j + 1) by omega] at this
      exact ⟨fun ha => g1 (iff.mp ha), fun hn => g2 fun h => hn (iff.mpr h)⟩
/-! ### beside, below -/
def B_beside : List S := [(.ret (.cmp .eq (.idx (.idx (.fld (.var 0) 3) (.var 1)) (.cst (.int 1))) (.idx (.idx (.fld (.var 0) 3) (.var 2)) (.cst (.int 3)))))]
def B_below : List S := [(.ret (.cmp .eq (.idx (.idx (.fld (.var 0) 3) (.var 1)) (.cst (.int 2))) (.idx (.idx (.fld (.var 0) 3) (.var 2)) (.cst (.int 0)))))]
def besideB (ts : List Tile) (a b : Nat) : Bool := decide ((tl ts a).e = (tl ts b).w)
def belowB (ts : List Tile) (a b : Nat) : Bool := decide ((tl ts a).s = (tl ts b).n)
def PairOk (φ : Fs) (p : List Tile → Nat → Nat → Bool) : Prop := ∀ (ts : List Tile) (a b : Nat) (s : List Cell), a < ts.length → b < ts.length → callF φ [setW ts, .d (.int a), .d (.int b)] s = .ok (.d (.bool (p ts a b))) s
theorem beside_b {Φ : Phi} {n : Nat} {l : List PyData} {a b x1 x2 x3 x4 y1 y2 y3 y4 : Int} (ha : atD l a = some (.tuple [.int x1, .int x2, .int x3, .int x4])) (hb : atD l b = some (.tuple [.int y1, .int y2, .int y3, .int y4])) :
    gP Φ n B_beside 3 [.o 2 [(3, .list l)], .d (.int a), .d (.int b)] = some (.ret (.d (.bool (decide (x2 = y4))))) := by
  simp only [gP, B_beside, startE]
  simp [fldW, getN, ha, hb, at4_1, at4_3, endP, finP]
theorem below_b {Φ : Phi} {n : Nat} {l : List PyData} {a b x1 x2 x3 x4 y1 y2 y3 y4 : Int} (ha : atD l a = some (.tuple [.int x1, .int x2, .int x3, .int x4])) (hb : atD l b = some (.tuple [.int y1, .int y2, .int y3, .int y4])) :
    gP Φ n B_below 3 [.o 2 [(3, .list l)], .d (.int a), .d (.int b)] = some (.ret (.d (.bool (decide (x3 = y1))))) := by
  simp only [gP, B_below, startE]
  simp [fldW, getN, ha, hb, at4_2, at4_0, endP, finP]
theorem beside_ok (Φ : Phi) (n : Nat) : PairOk (.p 3 (gP Φ n B_beside 3)) besideB := fun ts a b s ha hb =>
  callP rfl (vs := [setW ts, .d (.int a), .d (.int b)]) rfl (beside_b (at_rows ha) (at_rows hb))
theorem below_ok (Φ : Phi) (n : Nat) : PairOk (.p 3 (gP Φ n B_below 3)) belowB := fun ts a b s ha hb =>
  callP rfl (vs := [setW ts, .d (.int a), .d (.int b)]) rfl (below_b (at_rows ha) (at_rows hb))
end DM

set_option maxRecDepth 100000
/-! L8: is_laid. -/
namespace DM
open PySem
def B_laidIn : List S := [(.ite (.and (.cmp .gt (.var 3) (.cst (.int 0))) (.not (.meth (.var 0) 2 (.cons (.idx (.idx (.var 1) (.var 2)) (.bin .sub (.var 3) (.cst (.int 1)))) (.cons (.idx (.idx (.var 1) (.var 2)) (.var 3)) .nil))))) [(.ret (.cst (.bool false)))] []), (.ite (.and (.cmp .gt (.var 2) (.cst (.int 0))) (.not (.meth (.var 0) 3 (.cons (.idx (.idx (.var 1) (.bin .sub (.var 2) (.cst (.int 1)))) (.var 3)) (.cons (.idx (.idx (.var 1) (.var 2)) (.var 3)) .nil))))) [(.ret (.cst (.bool false)))] [])]
theorem laid_in {Φ : Phi} {n : Nat} {β γ : Fs} {fs : List (Nat × PyData)} (hβ : Φ.mt 2 2 = some β) (hγ : Φ.mt 2 3 = some γ) {rows r1 r2 : List PyData} {a k x y z : Int} {b1 b2 : Bool} {s : List Cell}
    (e1 : atD rows a = some (.tuple r1)) (e2 : atD r1 k = some (.int x)) (e3 : 0 < k → atD r1 (k - 1) = some (.int y)) (e4 : 0 < k → callF β [.o 2 fs, .d (.int y), .d (.int x)] s = .ok (.d (.bool b1)) s)
    (e5 : 0 < a → atD rows (a - 1) = some (.tuple r2)) (e6 : 0 < a → atD r2 k = some (.int z)) (e7 : 0 < a → callF γ [.o 2 fs, .d (.int z), .d (.int x)] s = .ok (.d (.bool b2)) s) :
    ((¬ 0 < k ∨ b1 = true) ∧ (¬ 0 < a ∨ b2 = true) → runB Φ n B_laidIn [some (.o 2 fs), some (.d (.list rows)), some (.d (.int a)), some (.d (.int k))] s = .ok (.nx, [some (.o 2 fs), some (.d (.list rows)), some (.d (.int a)), some (.d (.int k))]) s) ∧
    (¬ ((¬ 0 < k ∨ b1 = true) ∧ (¬ 0 < a ∨ b2 = true)) → runB Φ n B_laidIn [some (.o 2 fs), some (.d (.list rows)), some (.d (.int a)), some (.d (.int k))] s = .ok (.ret (.d (.bool false)), [some (.o 2 fs), some (.d (.list rows)), some (.d (.int a)), some (.d (.int k))]) s) := by
  by_cases hk : 0 < k
  · have f3 := e3 hk
    have f4 := e4 hk
    cases b1 with
    | false => exact ⟨fun h => by simp [hk] at h, fun _ => by simp [B_laidIn, hk, clsOf, hβ, e1, e2, f3, f4]⟩
    | true =>
      by_cases ha : 0 < a
      · have f5 := e5 ha
        have f6 := e6 ha
        have f7 := e7 ha
        cases b2 with
        | false => exact ⟨fun h => by simp [ha] at h, fun _ => by simp [B_laidIn, hk, ha, clsOf, hβ, hγ, e1, e2, f3, f4, f5, f6, f7]⟩
        | true => exact ⟨fun _ => by simp [B_laidIn, hk, ha, clsOf, hβ, hγ, e1, e2, f3, f4, f5, f6, f7], fun h => by simp at h⟩
      · exact ⟨fun _ => by simp [B_laidIn, hk, ha, clsOf, hβ, e1, e2, f3, f4], fun h => by simp [ha] at h⟩
  · by_cases ha : 0 < a
    · have f5 := e5 ha
      have f6 := e6 ha
      have f7 := e7 ha
      cases b2 with
      | false => exact ⟨fun h => by simp [ha] at h, fun _ => by simp [B_laidIn, hk, ha, clsOf, hγ, e1, e2, f5, f6, f7]⟩
      | true => exact ⟨fun _ => by simp [B_laidIn, hk, ha, clsOf, hγ, e1, e2, f5, f6, f7], fun h => by simp [hk] at h⟩
    · exact ⟨fun _ => by simp [B_laidIn, hk, ha], fun h => by simp [hk, ha] at h⟩
def gR (L : List (List Nat)) (a : Nat) : List Nat := L.getD a []
theorem at_lay {L : List (List Nat)} {a : Nat} (h : a < L.length) : atD (L.map rowD) (a : Int) = some (.tuple ((gR L a).map fun (i : Nat) => PyData.int (i : Int))) := by
  refine atD_nat (by omega) ?_
  unfold gR
  rw [Int.toNat_natCast, List.getElem?_map, List.getElem?_eq_getElem h, List.getD_eq_getElem?_getD, List.getElem?_eq_getElem h]
  rfl
theorem gR_mem {L : List (List Nat)} {a : Nat} (h : a < L.length) : gR L a ∈ L := by
  unfold gR
  rw [List.getD_eq_getElem?_getD, List.getElem?_eq_getElem h]
  exact List.getElem_mem h
def cellB (ts : List Tile) (L : List (List Nat)) (a k : Nat) : Bool :=
  (decide (k = 0) || besideB ts (gN (gR L a) (k - 1)) (gN (gR L a) k)) && (decide (a = 0) || belowB ts (gN (gR L (a - 1)) k) (gN (gR L a) k))
/-- rows of one width, of numbers of tiles -/
def LayOk (n w : Nat) (L : List (List Nat)) : Prop := ∀ r ∈ L, r.length = w ∧ ∀ i ∈ r, i < n
def laidB (ts : List Tile) (w : Nat) (L : List (List Nat)) : Prop := ∀ a, a < L.length → ∀ k, k < w → cellB ts L a k = true
theorem cell_iff {ts : List Tile} {L : List (List Nat)} {a k : Nat} : ((¬ (0 : Int) < (k : Int) ∨ besideB ts (gN (gR L a) (k - 1)) (gN (gR L a) k) = true) ∧ (¬ (0 : Int) < (a : Int) ∨ belowB ts (gN (gR L (a - 1)) k) (gN (gR L a) k) = true)) ↔ cellB ts L a k = true := by
  unfold cellB
  rw [Bool.and_eq_true, Bool.or_eq_true, Bool.or_eq_true, decide_eq_true_eq, decide_eq_true_eq]
  constructor
  · rintro ⟨h1, h2⟩
    exact ⟨h1.imp_left fun h => by omega, h2.imp_left fun h => by omega⟩
  · rintro ⟨h1, h2⟩
    exact ⟨h1.imp_left fun h => by omega, h2.imp_left fun h => by omega⟩
theorem laid_row {Φ : Phi} {n : Nat} {β γ : Fs} (hβ : Φ.mt 2 2 = some β) (Be : PairOk β besideB) (hγ : Φ.mt 2 3 = some γ) (Bl : PairOk γ belowB) {ts : List Tile} {w : Nat} {L : List (List Nat)} (hL : LayOk ts.length w L) {a : Nat} (ha : a < L.length) (o : Option W) (s : List Cell) :
    ((∀ k, k < w → cellB ts L a k = true) → ∃ o', forK Φ n (.n 3) B_laidIn (upTo 0 w) [some (setW ts), some (.d (layD L)), some (.d (.int a)), o] s = .ok (.nx, [some (setW ts), some (.d (layD L)), some (.d (.int a)), o']) s) ∧
    (¬ (∀ k, k < w → cellB ts L a k = true) → ∃ ρ', forK Φ n (.n 3) B_laidIn (upTo 0 w) [some (setW ts), some (.d (layD L)), some (.d (.int a)), o] s = .ok (.ret (.d (.bool false)), ρ') s) := by
  have step := forK_find (Φ := Φ) (n := n) (t := .n 3) (b := B_laidIn) (w := .d (.bool false)) (s := s) (fun ρ => ∃ o', ρ = [some (setW ts), some (.d (layD L)), some (.d (.int a)), o']) (fun k => cellB ts L a k) (upTo 0 w) 0 [some (setW ts), some (.d (layD L)), some (.d (.int a)), o] ⟨o, rfl⟩ fun j x ρ hj ⟨o', hρ⟩ => by
    subst hρ
    obtain ⟨rfl, hjl⟩ := upTo_get _ _ _ _ hj
    rw [Int.zero_add, Nat.zero_add]
    have hm := hL _ (gR_mem ha)
    have hk : j < (gR L a).length := by rw [hm.1]; exact hjl
    have hb := laid_in (Φ := Φ) (n := n) (fs := [(3, rowsD ts)]) (rows := L.map rowD) (a := (a : Int)) (k := (j : Int)) (y := (gN (gR L a) (j - 1) : Nat)) (z := (gN (gR L (a - 1)) j : Nat)) (r2 := (gR L (a - 1)).map fun (i : Nat) => PyData.int (i : Int)) (b1 := besideB ts (gN (gR L a) (j - 1)) (gN (gR L a) j)) (b2 := belowB ts (gN (gR L (a - 1)) j) (gN (gR L a) j)) (s := s) hβ hγ (at_lay ha) (at_row hk)
      (fun h0 => by
        have e : ((j : Int) - 1) = ((j - 1 : Nat) : Int) := by omega
        rw [e]
        exact at_row (by omega))
      (fun h0 => Be ts _ _ s (getD_lt hm.2 (by omega)) (getD_lt hm.2 hk))
      (fun h0 => by
        have e : ((a : Int) - 1) = ((a - 1 : Nat) : Int) := by omega
        rw [e]
        exact at_lay (by omega))
      (fun h0 => at_row (by rw [(hL _ (gR_mem (show a - 1 < L.length by omega))).1]; exact hjl))
      (fun h0 => Bl ts _ _ s (getD_lt (hL _ (gR_mem (show a - 1 < L.length by omega))).2 (by rw [(hL _ (gR_mem (show a - 1 < L.length by omega))).1]; exact hjl)) (getD_lt hm.2 hk))
    rw [cell_iff] at hb
    refine ⟨_, rfl, fun hp => ⟨_, .inl (hb.1 hp), _, rfl⟩, fun hp => ⟨_, hb.2 (by rw [hp]; exact Bool.false_ne_true)⟩⟩
  rw [upTo_len] at step
  simp only [Nat.zero_add] at step
  refine ⟨fun h => ?_, fun h => step.2 h⟩
  obtain ⟨ρ', e, o', rfl⟩ := step.1 h
  exact ⟨o', e⟩
def B_laid : List S := [(.for (.n 2) (.rng1 (.bi .len (.cons (.var 1) .nil))) [(.for (.n 3) (.rng1 (.bi .len (.cons (.idx (.var 1) (.var 2)) .nil))) B_laidIn)]), (.ret (.cst (.bool true)))]
theorem rng_row {Φ : Phi} {T o : Option W} {rows r1 : List PyData} {a : Int} {s : List Cell} (e1 : atD rows a = some (.tuple r1)) (hl : r1.length ≤ sizeLine) : runI Φ (.rng1 (.bi .len (.cons (.idx (.var 1) (.var 2)) .nil))) [T, some (.d (.list rows)), some (.d (.int a)), o] s = .ok (upTo 0 r1.length) s := by
  have hsm := smallI_len hl
  simp [seeAll, e1, hsm]
theorem rng_all {Φ : Phi} {T o2 o3 : Option W} {rows : List PyData} {s : List Cell} (hl : rows.length ≤ sizeLine) : runI Φ (.rng1 (.bi .len (.cons (.var 1) .nil))) [T, some (.d (.list rows)), o2, o3] s = .ok (upTo 0 rows.length) s := by
  have hsm := smallI_len hl
  simp [seeAll, hsm]
open Classical in
/-- whether it is a laying -/
noncomputable def laidD (ts : List Tile) (w : Nat) (L : List (List Nat)) : Bool := decide (laidB ts w L)
def LaidOk (φ : Fs) : Prop := ∀ (ts : List Tile) (w : Nat) (L : List (List Nat)) (s : List Cell), LayOk ts.length w L → L.length ≤ 1000 → w ≤ 1000 → callF φ [setW ts, .d (layD L)] s = .ok (.d (.bool (laidD ts w L))) s
theorem laid_ok {Φ : Phi} {β γ : Fs} (n : Nat) (hβ : Φ.mt 2 2 = some β) (Be : PairOk β besideB) (hγ : Φ.mt 2 3 = some γ) (Bl : PairOk γ belowB) : LaidOk (.p 2 (gP Φ n B_laid 4)) := fun ts w L s hL hl hw => by
  refine callP rfl (vs := [setW ts, .d (layD L)]) rfl ?_
  have sp : sizeLine = 16777216 := by decide
  have step := forK_find (Φ := Φ) (n := n) (t := .n 2) (b := [(.for (.n 3) (.rng1 (.bi .len (.cons (.idx (.var 1) (.var 2)) .nil))) B_laidIn)]) (w := .d (.bool false)) (s := []) (fun ρ => ∃ o2 o3, ρ = [some (setW ts), some (.d (layD L)), o2, o3])
    (fun a => @decide (∀ k, k < w → cellB ts L a k = true) (Classical.propDecidable _)) (upTo 0 L.length) 0 [some (setW ts), some (.d (layD L)), none, none] ⟨_, _, rfl⟩ fun j x ρ hj ⟨o2, o3, hρ⟩ => by
      subst hρ
      obtain ⟨rfl, hjl⟩ := upTo_get _ _ _ _ hj
      rw [Int.zero_add, Nat.zero_add]
      have hm := hL _ (gR_mem hjl)
      obtain ⟨g1, g2⟩ := laid_row (n := n) hβ Be hγ Bl hL hjl o3 []
      have er := rng_row (Φ := Φ) (T := some (setW ts)) (o := o3) (s := []) (at_lay hjl) (by rw [List.length_map, hm.1]; omega)
      rw [List.length_map, hm.1] at er
      refine ⟨_, rfl, fun hp => ?_, fun hp => ?_⟩
      · obtain ⟨o', e⟩ := g1 (by simpa using hp)
        refine ⟨[some (setW ts), some (.d (layD L)), some (.d (.int (j : Int))), o'], .inl ?_, _, _, rfl⟩
        rw [rB_cons, rS_for]
        exact (congrArg (fun r => R.sq (forS Φ n (.n 3) B_laidIn [some (setW ts), some (.d (layD L)), some (.d (.int (j : Int))), o3] r) (runB Φ n [])) er).trans (by rw [forS_ok, e, R.sq_nx, rB_nil])
      · obtain ⟨ρ', e⟩ := g2 (by simpa using hp)
        refine ⟨ρ', ?_⟩
        rw [rB_cons, rS_for]
        exact (congrArg (fun r => R.sq (forS Φ n (.n 3) B_laidIn [some (setW ts), some (.d (layD L)), some (.d (.int (j : Int))), o3] r) (runB Φ n [])) er).trans (by rw [forS_ok, e, R.sq_ret])
  rw [upTo_len] at step
  simp only [Nat.zero_add, decide_eq_true_eq] at step
  have er := rng_all (Φ := Φ) (T := some (setW ts)) (o2 := none) (o3 := none) (s := []) (rows := L.map rowD) (by rw [List.length_map]; omega)
  rw [List.length_map] at er
  have go : gP Φ n B_laid 4 [setW ts, .d (layD L)] = endP (R.sq (forK Φ n (.n 2) [(.for (.n 3) (.rng1 (.bi .len (.cons (.idx (.var 1) (.var 2)) .nil))) B_laidIn)] (upTo 0 L.length) [some (setW ts), some (.d (layD L)), none, none] []) (runB Φ n [(.ret (.cst (.bool true)))])) := by
    show endP (runB Φ n B_laid [some (setW ts), some (.d (layD L)), none, none] []) = _
    unfold B_laid
    rw [rB_cons, rS_for]
    exact congrArg (fun r => endP (R.sq (forS Φ n (.n 2) [(.for (.n 3) (.rng1 (.bi .len (.cons (.idx (.var 1) (.var 2)) .nil))) B_laidIn)] [some (setW ts), some (.d (layD L)), none, none] r) (runB Φ n [(.ret (.cst (.bool true)))]))) er
  rw [go]
  by_cases h : laidB ts w L
  · obtain ⟨ρ', e, o2, o3, rfl⟩ := step.1 h
    rw [e, R.sq_nx, rB_cons, rS_ret, rE_cst, R.st_ok, R.sq_ret, show laidD ts w L = true by unfold laidD; exact @decide_eq_true _ (_) h]
    rfl
  · obtain ⟨ρ', e⟩ := step.2 h
    rw [e, R.sq_ret, show laidD ts w L = false by unfold laidD; exact @decide_eq_false _ (_) h]
    rfl
end DM

set_option maxRecDepth 100000
/-! L9: the law's own look at a laying. -/
namespace DM
open PySem
def B_lookIn : List S := [(.ite (.and (.cmp .gt (.var 3) (.cst (.int 0))) (.cmp .ne (.idx (.idx (.var 0) (.idx (.idx (.var 1) (.var 2)) (.bin .sub (.var 3) (.cst (.int 1))))) (.cst (.int 1))) (.idx (.idx (.var 0) (.idx (.idx (.var 1) (.var 2)) (.var 3))) (.cst (.int 3))))) [(.ret (.cst (.bool false)))] []), (.ite (.and (.cmp .gt (.var 2) (.cst (.int 0))) (.cmp .ne (.idx (.idx (.var 0) (.idx (.idx (.var 1) (.bin .sub (.var 2) (.cst (.int 1)))) (.var 3))) (.cst (.int 2))) (.idx (.idx (.var 0) (.idx (.idx (.var 1) (.var 2)) (.var 3))) (.cst (.int 0))))) [(.ret (.cst (.bool false)))] [])]
theorem look_in {Φ : Phi} {n : Nat} {tsd rows r1 r2 : List PyData} {a k x y z x1 x2 x3 x4 y1 y2 y3 y4 z1 z2 z3 z4 : Int} {s : List Cell}
    (e1 : atD rows a = some (.tuple r1)) (e2 : atD r1 k = some (.int x)) (ex : atD tsd x = some (.tuple [.int x1, .int x2, .int x3, .int x4])) (e3 : 0 < k → atD r1 (k - 1) = some (.int y)) (e4 : 0 < k → atD tsd y = some (.tuple [.int y1, .int y2, .int y3, .int y4]))
    (e5 : 0 < a → atD rows (a - 1) = some (.tuple r2)) (e6 : 0 < a → atD r2 k = some (.int z)) (e7 : 0 < a → atD tsd z = some (.tuple [.int z1, .int z2, .int z3, .int z4])) :
    ((¬ 0 < k ∨ y2 = x4) ∧ (¬ 0 < a ∨ z3 = x1) → runB Φ n B_lookIn [some (.d (.list tsd)), some (.d (.list rows)), some (.d (.int a)), some (.d (.int k))] s = .ok (.nx, [some (.d (.list tsd)), some (.d (.list rows)), some (.d (.int a)), some (.d (.int k))]) s) ∧
    (¬ ((¬ 0 < k ∨ y2 = x4) ∧ (¬ 0 < a ∨ z3 = x1)) → runB Φ n B_lookIn [some (.d (.list tsd)), some (.d (.list rows)), some (.d (.int a)), some (.d (.int k))] s = .ok (.ret (.d (.bool false)), [some (.d (.list tsd)), some (.d (.list rows)), some (.d (.int a)), some (.d (.int k))]) s) := by
  by_cases hk : 0 < k
  · have f3 := e3 hk
    have f4 := e4 hk
    by_cases h1 : y2 = x4
    · by_cases ha : 0 < a
      · have f5 := e5 ha
        have f6 := e6 ha
        have f7 := e7 ha
        by_cases h2 : z3 = x1
        · exact ⟨fun _ => by simp [B_lookIn, hk, ha, e1, e2, ex, f3, f4, f5, f6, f7, at4_0, at4_1, at4_2, at4_3, h1, h2], fun h => absurd ⟨.inr h1, .inr h2⟩ h⟩
        · exact ⟨fun h => by rcases h.2 with q | q; exact absurd ha q; exact absurd q h2, fun _ => by simp [B_lookIn, hk, ha, e1, e2, ex, f3, f4, f5, f6, f7, at4_0, at4_1, at4_2, at4_3, h1, h2]⟩
      · exact ⟨fun _ => by simp [B_lookIn, hk, ha, e1, e2, ex, f3, f4, at4_0, at4_1, at4_2, at4_3, h1], fun h => absurd ⟨.inr h1, .inl ha⟩ h⟩
    · exact ⟨fun h => by rcases h.1 with q | q; exact absurd hk q; exact absurd q h1, fun _ => by simp [B_lookIn, hk, e1, e2, ex, f3, f4, at4_0, at4_1, at4_2, at4_3, h1]⟩
  · by_cases ha : 0 < a
    · have f5 := e5 ha
      have f6 := e6 ha
      have f7 := e7 ha
      by_cases h2 : z3 = x1
      · exact ⟨fun _ => by simp [B_lookIn, hk, ha, e1, e2, ex, f5, f6, f7, at4_0, at4_1, at4_2, at4_3, h2], fun h => absurd ⟨.inl hk, .inr h2⟩ h⟩
      · exact ⟨fun h => by rcases h.2 with q | q; exact absurd ha q; exact absurd q h2, fun _ => by simp [B_lookIn, hk, ha, e1, e2, ex, f5, f6, f7, at4_0, at4_1, at4_2, at4_3, h2]⟩
    · exact ⟨fun _ => by simp [B_lookIn, hk, ha], fun h => absurd ⟨.inl hk, .inl ha⟩ h⟩
section
variable {Φ : Phi} {n : Nat} {T : W} {Bi : List S} {ts : List Tile} {w : Nat} {L : List (List Nat)}
def InnerOk (Φ : Phi) (n : Nat) (T : W) (Bi : List S) (ts : List Tile) (w : Nat) (L : List (List Nat)) : Prop := ∀ a k, a < L.length → k < w →
  (cellB ts L a k = true → runB Φ n Bi [some T, some (.d (layD L)), some (.d (.int (a : Int))), some (.d (.int (k : Int)))] [] = .ok (.nx, [some T, some (.d (layD L)), some (.d (.int (a : Int))), some (.d (.int (k : Int)))]) []) ∧
  (¬ cellB ts L a k = true → runB Φ n Bi [some T, some (.d (layD L)), some (.d (.int (a : Int))), some (.d (.int (k : Int)))] [] = .ok (.ret (.d (.bool false)), [some T, some (.d (layD L)), some (.d (.int (a : Int))), some (.d (.int (k : Int)))]) [])
theorem row_gen (H : InnerOk Φ n T Bi ts w L) {a : Nat} (ha : a < L.length) (o : Option W) :
    ((∀ k, k < w → cellB ts L a k = true) → ∃ o', forK Φ n (.n 3) Bi (upTo 0 w) [some T, some (.d (layD L)), some (.d (.int a)), o] [] = .ok (.nx, [some T, some (.d (layD L)), some (.d (.int a)), o']) []) ∧
    (¬ (∀ k, k < w → cellB ts L a k = true) → ∃ ρ', forK Φ n (.n 3) Bi (upTo 0 w) [some T, some (.d (layD L)), some (.d (.int a)), o] [] = .ok (.ret (.d (.bool false)), ρ') []) := by
  have step := forK_find (Φ := Φ) (n := n) (t := .n 3) (b := Bi) (w := .d (.bool false)) (s := []) (fun ρ => ∃ o', ρ = [some T, some (.d (layD L)), some (.d (.int a)), o']) (fun k => cellB ts L a k) (upTo 0 w) 0 [some T, some (.d (layD L)), some (.d (.int a)), o] ⟨o, rfl⟩ fun j x ρ hj ⟨o', hρ⟩ => by
    subst hρ
    obtain ⟨rfl, hjl⟩ := upTo_get _ _ _ _ hj
    rw [Int.zero_add, Nat.zero_add]
    have hb := H a j ha hjl
    exact ⟨_, rfl, fun hp => ⟨_, .inl (hb.1 hp), _, rfl⟩, fun hp => ⟨_, hb.2 (by rw [hp]; exact Bool.false_ne_true)⟩⟩
  rw [upTo_len] at step
  simp only [Nat.zero_add] at step
  refine ⟨fun h => ?_, fun h => step.2 h⟩
  obtain ⟨ρ', e, o', rfl⟩ := step.1 h
  exact ⟨o', e⟩
theorem laid_gen (hL : LayOk ts.length w L) (hl : L.length ≤ 1000) (hw : w ≤ 1000) (H : InnerOk Φ n T Bi ts w L) :
    endP (runB Φ n [(.for (.n 2) (.rng1 (.bi .len (.cons (.var 1) .nil))) [(.for (.n 3) (.rng1 (.bi .len (.cons (.idx (.var 1) (.var 2)) .nil))) Bi)]), (.ret (.cst (.bool true)))] [some T, some (.d (layD L)), none, none] []) = some (.ret (.d (.bool (laidD ts w L)))) := by
  have sp : sizeLine = 16777216 := by decide
  have step := forK_find (Φ := Φ) (n := n) (t := .n 2) (b := [(.for (.n 3) (.rng1 (.bi .len (.cons (.idx (.var 1) (.var 2)) .nil))) Bi)]) (w := .d (.bool false)) (s := []) (fun ρ => ∃ o2 o3, ρ = [some T, some (.d (layD L)), o2, o3])
    (fun a => @decide (∀ k, k < w → cellB ts L a k = true) (Classical.propDecidable _)) (upTo 0 L.length) 0 [some T, some (.d (layD L)), none, none] ⟨_, _, rfl⟩ fun j x ρ hj ⟨o2, o3, hρ⟩ => by
      subst hρ
      obtain ⟨rfl, hjl⟩ := upTo_get _ _ _ _ hj
      rw [Int.zero_add, Nat.zero_add]
      have hm := hL _ (gR_mem hjl)
      obtain ⟨g1, g2⟩ := row_gen H hjl o3
      have er := rng_row (Φ := Φ) (T := some T) (o := o3) (s := []) (at_lay hjl) (by rw [List.length_map, hm.1]; omega)
      rw [List.length_map, hm.1] at er
      refine ⟨_, rfl, fun hp => ?_, fun hp => ?_⟩
      · obtain ⟨o', e⟩ := g1 (by simpa using hp)
        refine ⟨[some T, some (.d (layD L)), some (.d (.int (j : Int))), o'], .inl ?_, _, _, rfl⟩
        rw [rB_cons, rS_for]
        exact (congrArg (fun r => R.sq (forS Φ n (.n 3) Bi [some T, some (.d (layD L)), some (.d (.int (j : Int))), o3] r) (runB Φ n [])) er).trans (by rw [forS_ok, e, R.sq_nx, rB_nil])
      · obtain ⟨ρ', e⟩ := g2 (by simpa using hp)
        refine ⟨ρ', ?_⟩
        rw [rB_cons, rS_for]
        exact (congrArg (fun r => R.sq (forS Φ n (.n 3) Bi [some T, some (.d (layD L)), some (.d (.int (j : Int))), o3] r) (runB Φ n [])) er).trans (by rw [forS_ok, e, R.sq_ret])
  rw [upTo_len] at step
  simp only [Nat.zero_add, decide_eq_true_eq] at step
  have er := rng_all (Φ := Φ) (T := some T) (o2 := none) (o3 := none) (s := []) (rows := L.map rowD) (by rw [List.length_map]; omega)
  rw [List.length_map] at er
  rw [rB_cons, rS_for]
  refine (congrArg (fun r => endP (R.sq (forS Φ n (.n 2) [(.for (.n 3) (.rng1 (.bi .len (.cons (.idx (.var 1) (.var 2)) .nil))) Bi)] [some T, some (.d (layD L)), none, none] r) (runB Φ n [(.ret (.cst (.bool true)))]))) er).trans ?_
  simp only [forS_ok]
  by_cases h : laidB ts w L
  · obtain ⟨ρ', e, o2, o3, rfl⟩ := step.1 h
    rw [e, R.sq_nx, rB_cons, rS_ret, rE_cst, R.st_ok, R.sq_ret, show laidD ts w L = true by unfold laidD; exact @decide_eq_true _ (_) h]
    rfl
  · obtain ⟨ρ', e⟩ := step.2 h
    rw [e, R.sq_ret, show laidD ts w L = false by unfold laidD; exact @decide_eq_false _ (_) h]
    rfl
end
theorem atD_tile {ts : List Tile} {i : Nat} (h : i < ts.length) : atD (ts.map Tile.d) (i : Int) = some (.tuple [.int (tl ts i).n, .int (tl ts i).e, .int (tl ts i).s, .int (tl ts i).w]) := at_rows h
theorem cell_iff2 {ts : List Tile} {L : List (List Nat)} {a k : Nat} : ((¬ (0 : Int) < (k : Int) ∨ (tl ts (gN (gR L a) (k - 1))).e = (tl ts (gN (gR L a) k)).w) ∧ (¬ (0 : Int) < (a : Int) ∨ (tl ts (gN (gR L (a - 1)) k)).s = (tl ts (gN (gR L a) k)).n)) ↔ cellB ts L a k = true := by
  rw [← cell_iff]
  unfold besideB belowB
  rw [decide_eq_true_eq, decide_eq_true_eq]
theorem look_inner {Φ : Phi} {n : Nat} {ts : List Tile} {w : Nat} {L : List (List Nat)} (hL : LayOk ts.length w L) : InnerOk Φ n (.d (rowsD ts)) B_lookIn ts w L := fun a j ha hj => by
  have hm := hL _ (gR_mem ha)
  have hk : j < (gR L a).length := by rw [hm.1]; exact hj
  have hb := look_in (Φ := Φ) (n := n) (tsd := ts.map Tile.d) (rows := L.map rowD) (a := (a : Int)) (k := (j : Int)) (y := (gN (gR L a) (j - 1) : Nat)) (z := (gN (gR L (a - 1)) j : Nat)) (r2 := (gR L (a - 1)).map fun (i : Nat) => PyData.int (i : Int)) (s := []) (at_lay ha) (at_row hk) (atD_tile (getD_lt hm.2 hk))
    (fun h0 => by
      have e : ((j : Int) - 1) = ((j - 1 : Nat) : Int) := by omega
      rw [e]
      exact at_row (by omega))
    (fun h0 => atD_tile (getD_lt hm.2 (by omega)))
    (fun h0 => by
      have e : ((a : Int) - 1) = ((a - 1 : Nat) : Int) := by omega
      rw [e]
      exact at_lay (by omega))
    (fun h0 => at_row (by rw [(hL _ (gR_mem (show a - 1 < L.length by omega))).1]; exact hj))
    (fun h0 => atD_tile (getD_lt (hL _ (gR_mem (show a - 1 < L.length by omega))).2 (by rw [(hL _ (gR_mem (show a - 1 < L.length by omega))).1]; exact hj)))
  rw [cell_iff2] at hb
  exact hb
def B_look : List S := [(.for (.n 2) (.rng1 (.bi .len (.cons (.var 1) .nil))) [(.for (.n 3) (.rng1 (.bi .len (.cons (.idx (.var 1) (.var 2)) .nil))) B_lookIn)]), (.ret (.cst (.bool true)))]
def LookOk (φ : Fs) : Prop := ∀ (ts : List Tile) (w : Nat) (L : List (List Nat)) (s : List Cell), LayOk ts.length w L → L.length ≤ 1000 → w ≤ 1000 → callF φ [.d (rowsD ts), .d (layD L)] s = .ok (.d (.bool (laidD ts w L))) s
theorem look_ok (Φ : Phi) (n : Nat) : LookOk (.p 2 (gP Φ n B_look 4)) := fun ts w L s hL hl hw =>
  callP rfl (vs := [.d (rowsD ts), .d (layD L)]) rfl (laid_gen hL hl hw (look_inner hL))
end DM

set_option maxRecDepth 100000
/-! L10: what goes on in itself. -/
namespace DM
open PySem
def B_rollE : List S := [(.ite (.cmp .ne (.idx (.idx (.var 0) (.idx (.var 2) (.bin .sub (.bi .len (.cons (.var 2) .nil)) (.cst (.int 1))))) (.cst (.int 1))) (.idx (.idx (.var 0) (.idx (.var 2) (.cst (.int 0)))) (.cst (.int 3)))) [(.ret (.cst (.bool false)))] [])]
def B_rollS : List S := [(.ite (.cmp .ne (.idx (.idx (.var 0) (.idx (.idx (.var 1) (.bin .sub (.bi .len (.cons (.var 1) .nil)) (.cst (.int 1)))) (.var 3))) (.cst (.int 2))) (.idx (.idx (.var 0) (.idx (.idx (.var 1) (.cst (.int 0))) (.var 3))) (.cst (.int 0)))) [(.ret (.cst (.bool false)))] [])]
theorem rollE_in {Φ : Phi} {n : Nat} {tsd row : List PyData} {v1 o3 : Option W} {x y x1 x2 x3 x4 y1 y2 y3 y4 : Int} {s : List Cell}
    (e1 : atD row ((row.length : Int) - 1) = some (.int x)) (e2 : atD row 0 = some (.int y)) (ex : atD tsd x = some (.tuple [.int x1, .int x2, .int x3, .int x4])) (ey : atD tsd y = some (.tuple [.int y1, .int y2, .int y3, .int y4])) :
    (x2 = y4 → runB Φ n B_rollE [some (.d (.list tsd)), v1, some (.d (.tuple row)), o3] s = .ok (.nx, [some (.d (.list tsd)), v1, some (.d (.tuple row)), o3]) s) ∧
    (¬ x2 = y4 → runB Φ n B_rollE [some (.d (.list tsd)), v1, some (.d (.tuple row)), o3] s = .ok (.ret (.d (.bool false)), [some (.d (.list tsd)), v1, some (.d (.tuple row)), o3]) s) := by
  refine ⟨fun h => ?_, fun h => ?_⟩
  · simp [B_rollE, seeAll, e1, e2, ex, ey, at4_1, at4_3, h]
  · simp [B_rollE, seeAll, e1, e2, ex, ey, at4_1, at4_3, h]
theorem rollS_in {Φ : Phi} {n : Nat} {tsd rows r1 r2 : List PyData} {o2 : Option W} {k x y x1 x2 x3 x4 y1 y2 y3 y4 : Int} {s : List Cell}
    (e1 : atD rows ((rows.length : Int) - 1) = some (.tuple r1)) (e2 : atD rows 0 = some (.tuple r2)) (e3 : atD r1 k = some (.int x)) (e4 : atD r2 k = some (.int y)) (ex : atD tsd x = some (.tuple [.int x1, .int x2, .int x3, .int x4])) (ey : atD tsd y = some (.tuple [.int y1, .int y2, .int y3, .int y4])) :
    (x3 = y1 → runB Φ n B_rollS [some (.d (.list tsd)), some (.d (.list rows)), o2, some (.d (.int k))] s = .ok (.nx, [some (.d (.list tsd)), some (.d (.list rows)), o2, some (.d (.int k))]) s) ∧
    (¬ x3 = y1 → runB Φ n B_rollS [some (.d (.list tsd)), some (.d (.list rows)), o2, some (.d (.int k))] s = .ok (.ret (.d (.bool false)), [some (.d (.list tsd)), some (.d (.list rows)), o2, some (.d (.int k))]) s) := by
  refine ⟨fun h => ?_, fun h => ?_⟩
  · simp [B_rollS, seeAll, e1, e2, e3, e4, ex, ey, at4_0, at4_2, h]
  · simp [B_rollS, seeAll, e1, e2, e3, e4, ex, ey, at4_0, at4_2, h]
def eastP (ts : List Tile) (w : Nat) (L : List (List Nat)) (a : Nat) : Prop := (tl ts (gN (gR L a) (w - 1))).e = (tl ts (gN (gR L a) 0)).w
def southP (ts : List Tile) (L : List (List Nat)) (k : Nat) : Prop := (tl ts (gN (gR L (L.length - 1)) k)).s = (tl ts (gN (gR L 0) k)).n
def rollsP (ts : List Tile) (w : Nat) (L : List (List Nat)) : Prop := (∀ a, a < L.length → eastP ts w L a) ∧ ∀ k, k < w → southP ts L k
open Classical in
noncomputable def rollsD (ts : List Tile) (w : Nat) (L : List (List Nat)) : Bool := decide (rollsP ts w L)
section
variable {Φ : Phi} {n : Nat} {T : W} {B1 B2 : List S} {ts : List Tile} {w : Nat} {L : List (List Nat)}
theorem it_rows {o2 o3 : Option W} {T : Option W} : runI Φ (.seq (.var 1)) [T, some (.d (layD L)), o2, o3] [] = .ok (L.map rowD) [] := by
  unfold layD
  simp [-List.map_map, frzR]
theorem rng_first {T o2 o3 : Option W} {rows r1 : List PyData} (e1 : atD rows 0 = some (.tuple r1)) (hl : r1.length ≤ sizeLine) : runI Φ (.rng1 (.bi .len (.cons (.idx (.var 1) (.cst (.int 0))) .nil))) [T, some (.d (.list rows)), o2, o3] [] = .ok (upTo 0 r1.length) [] := by
  have hsm := smallI_len hl
  simp [seeAll, e1, hsm]
theorem rolls_gen (hL : LayOk ts.length w L) (l1 : 1 ≤ L.length) (hw : w ≤ 1000)
    (H1 : ∀ a o3, a < L.length → (eastP ts w L a → runB Φ n B1 [some T, some (.d (layD L)), some (.d (rowD (gR L a))), o3] [] = .ok (.nx, [some T, some (.d (layD L)), some (.d (rowD (gR L a))), o3]) []) ∧ (¬ eastP ts w L a → runB Φ n B1 [some T, some (.d (layD L)), some (.d (rowD (gR L a))), o3] [] = .ok (.ret (.d (.bool false)), [some T, some (.d (layD L)), some (.d (rowD (gR L a))), o3]) []))
    (H2 : ∀ k o2, k < w → (southP ts L k → runB Φ n B2 [some T, some (.d (layD L)), o2, some (.d (.int (k : Int)))] [] = .ok (.nx, [some T, some (.d (layD L)), o2, some (.d (.int (k : Int)))]) []) ∧ (¬ southP ts L k → runB Φ n B2 [some T, some (.d (layD L)), o2, some (.d (.int (k : Int)))] [] = .ok (.ret (.d (.bool false)), [some T, some (.d (layD L)), o2, some (.d (.int (k : Int)))]) [])) :
    endP (runB Φ n [(.for (.n 2) (.seq (.var 1)) B1), (.for (.n 3) (.rng1 (.bi .len (.cons (.idx (.var 1) (.cst (.int 0))) .nil))) B2), (.ret (.cst (.bool true)))] [some T, some (.d (layD L)), none, none] []) = some (.ret (.d (.bool (rollsD ts w L)))) := by
  have sp : sizeLine = 16777216 := by decide
  have s1 := forK_find (Φ := Φ) (n := n) (t := .n 2) (b := B1) (w := .d (.bool false)) (s := []) (fun ρ => ∃ o2 o3, ρ = [some T, some (.d (layD L)), o2, o3])
    (fun a => @decide (eastP ts w L a) (Classical.propDecidable _)) (L.map rowD) 0 [some T, some (.d (layD L)), none, none] ⟨_, _, rfl⟩ fun j x ρ hj ⟨o2, o3, hρ⟩ => by
      subst hρ
      rw [List.getElem?_map] at hj
      cases ej : L[j]? with
      | none => rw [ej] at hj; cases hj
      | some r =>
        rw [ej] at hj
        cases hj
        obtain ⟨hjl, er⟩ := List.getElem?_eq_some_iff.mp ej
        have : gR L j = r := by unfold gR; rw [List.getD_eq_getElem?_getD, ej]; rfl
        subst this
        rw [Nat.zero_add]
        have hb := H1 j o3 hjl
        exact ⟨_, rfl, fun hp => ⟨_, .inl (hb.1 (by simpa using hp)), _, _, rfl⟩, fun hp => ⟨_, hb.2 (by simpa using hp)⟩⟩
  rw [List.length_map] at s1
  simp only [Nat.zero_add, decide_eq_true_eq] at s1
  rw [rB_cons, rS_for, it_rows, forS_ok]
  by_cases h1 : ∀ a, a < L.length → eastP ts w L a
  · obtain ⟨ρ', e, o2, o3, rfl⟩ := s1.1 h1
    have s2 := forK_find (Φ := Φ) (n := n) (t := .n 3) (b := B2) (w := .d (.bool false)) (s := []) (fun ρ => ∃ o2 o3, ρ = [some T, some (.d (layD L)), o2, o3])
      (fun k => @decide (southP ts L k) (Classical.propDecidable _)) (upTo 0 w) 0 [some T, some (.d (layD L)), o2, o3] ⟨_, _, rfl⟩ fun j x ρ hj ⟨o2, o3, hρ⟩ => by
        subst hρ
        obtain ⟨rfl, hjl⟩ := upTo_get _ _ _ _ hj
        rw [Int.zero_add, Nat.zero_add]
        have hb := H2 j o2 hjl
        exact ⟨_, rfl, fun hp => ⟨_, .inl (hb.1 (by simpa using hp)), _, _, rfl⟩, fun hp => ⟨_, hb.2 (by simpa using hp)⟩⟩
    rw [upTo_len] at s2
    simp only [Nat.zero_add, decide_eq_true_eq] at s2
    have hm := hL _ (gR_mem (show 0 < L.length by omega))
    have er := rng_first (Φ := Φ) (T := some T) (o2 := o2) (o3 := o3) (rows := L.map rowD) (at_lay (show 0 < L.length by omega)) (by rw [List.length_map, hm.1]; omega)
    rw [List.length_map, hm.1] at er
    rw [e, R.sq_nx, rB_cons, rS_for]
    refine (congrArg (fun r => endP (R.sq (forS Φ n (.n 3) B2 [some T, some (.d (layD L)), o2, o3] r) (runB Φ n [(.ret (.cst (.bool true)))]))) er).trans ?_
    simp only [forS_ok]
    by_cases h2 : ∀ k, k < w → southP ts L k
    · obtain ⟨ρ', e, o2, o3, rfl⟩ := s2.1 h2
      rw [e, R.sq_nx, rB_cons, rS_ret, rE_cst, R.st_ok, R.sq_ret, show rollsD ts w L = true by unfold rollsD; exact @decide_eq_true _ (_) ⟨h1, h2⟩]
      rfl
    · obtain ⟨ρ', e⟩ := s2.2 h2
      rw [e, R.sq_ret, show rollsD ts w L = false by unfold rollsD; exact @decide_eq_false _ (_) fun h => h2 h.2]
      rfl
  · obtain ⟨ρ', e⟩ := s1.2 h1
    rw [e, R.sq_ret, show rollsD ts w L = false by unfold rollsD; exact @decide_eq_false _ (_) fun h => h1 h.1]
    rfl
end
end DM

set_option maxRecDepth 100000
/-! L11: rolls, is_rolled. -/
namespace DM
open PySem
def B_rolls : List S := [(.for (.n 2) (.seq (.var 1)) B_rollE), (.for (.n 3) (.rng1 (.bi .len (.cons (.idx (.var 1) (.cst (.int 0))) .nil))) B_rollS), (.ret (.cst (.bool true)))]
def RollsOk (φ : Fs) : Prop := ∀ (ts : List Tile) (w : Nat) (L : List (List Nat)) (s : List Cell), LayOk ts.length w L → 1 ≤ L.length → 1 ≤ w → w ≤ 1000 → callF φ [.d (rowsD ts), .d (layD L)] s = .ok (.d (.bool (rollsD ts w L))) s
theorem at_last {r : List Nat} (h : 1 ≤ r.length) : atD (r.map fun (i : Nat) => PyData.int (i : Int)) ((((r.map fun (i : Nat) => PyData.int (i : Int)).length : Nat) : Int) - 1) = some (.int (gN r (r.length - 1) : Nat)) := by
  rw [List.length_map, show ((r.length : Int) - 1) = ((r.length - 1 : Nat) : Int) by omega]
  exact at_row (by omega)
theorem at_first {r : List Nat} (h : 1 ≤ r.length) : atD (r.map fun (i : Nat) => PyData.int (i : Int)) 0 = some (.int (gN r 0 : Nat)) := at_row (j := 0) (by omega)
theorem lay_last {L : List (List Nat)} (h : 1 ≤ L.length) : atD (L.map rowD) ((((L.map rowD).length : Nat) : Int) - 1) = some (.tuple ((gR L (L.length - 1)).map fun (i : Nat) => PyData.int (i : Int))) := by
  rw [List.length_map, show ((L.length : Int) - 1) = ((L.length - 1 : Nat) : Int) by omega]
  exact at_lay (by omega)
theorem lay_first {L : List (List Nat)} (h : 1 ≤ L.length) : atD (L.map rowD) 0 = some (.tuple ((gR L 0).map fun (i : Nat) => PyData.int (i : Int))) := at_lay (a := 0) (by omega)
theorem rolls_ok (Φ : Phi) (n : Nat) : RollsOk (.p 2 (gP Φ n B_rolls 4)) := fun ts w L s hL l1 w1 hw => by
  refine callP rfl (vs := [.d (rowsD ts), .d (layD L)]) rfl (rolls_gen hL l1 hw (fun a o3 ha => ?_) fun k o2 hk => ?_)
  · have hm := hL _ (gR_mem ha)
    have hb := rollE_in (Φ := Φ) (n := n) (tsd := ts.map Tile.d) (v1 := some (.d (layD L))) (o3 := o3) (s := []) (at_last (r := gR L a) (by omega)) (at_first (by omega)) (atD_tile (getD_lt hm.2 (by omega))) (atD_tile (getD_lt hm.2 (by omega)))
    unfold eastP
    rw [← hm.1]
    exact hb
  · have hm := hL _ (gR_mem (show L.length - 1 < L.length by omega))
    have hm0 := hL _ (gR_mem (show 0 < L.length by omega))
    exact rollS_in (Φ := Φ) (n := n) (tsd := ts.map Tile.d) (o2 := o2) (s := []) (lay_last l1) (lay_first l1) (at_row (by omega)) (at_row (by omega)) (atD_tile (getD_lt hm.2 (by omega))) (atD_tile (getD_lt hm0.2 (by omega)))
def B_rlE : List S := [(.ite (.not (.meth (.var 0) 2 (.cons (.idx (.var 2) (.bin .sub (.bi .len (.cons (.var 2) .nil)) (.cst (.int 1)))) (.cons (.idx (.var 2) (.cst (.int 0))) .nil)))) [(.ret (.cst (.bool false)))] [])]
def B_rlS : List S := [(.ite (.not (.meth (.var 0) 3 (.cons (.idx (.idx (.var 1) (.bin .sub (.bi .len (.cons (.var 1) .nil)) (.cst (.int 1)))) (.var 3)) (.cons (.idx (.idx (.var 1) (.cst (.int 0))) (.var 3)) .nil)))) [(.ret (.cst (.bool false)))] [])]
def B_isRolled : List S := [(.ite (.not (.call 67 (.cons (.var 0) (.cons (.var 1) .nil)))) [(.ret (.cst (.bool false)))] []), (.for (.n 2) (.seq (.var 1)) B_rlE), (.for (.n 3) (.rng1 (.bi .len (.cons (.idx (.var 1) (.cst (.int 0))) .nil))) B_rlS), (.ret (.cst (.bool true)))]
theorem rlE_in {Φ : Phi} {n : Nat} {β : Fs} {fs : List (Nat × PyData)} (hβ : Φ.mt 2 2 = some β) {row : List PyData} {v1 o3 : Option W} {x y : Int} {b : Bool} {s : List Cell}
    (e1 : atD row ((row.length : Int) - 1) = some (.int x)) (e2 : atD row 0 = some (.int y)) (ec : callF β [.o 2 fs, .d (.int x), .d (.int y)] s = .ok (.d (.bool b)) s) :
    (b = true → runB Φ n B_rlE [some (.o 2 fs), v1, some (.d (.tuple row)), o3] s = .ok (.nx, [some (.o 2 fs), v1, some (.d (.tuple row)), o3]) s) ∧
    (¬ b = true → runB Φ n B_rlE [some (.o 2 fs), v1, some (.d (.tuple row)), o3] s = .ok (.ret (.d (.bool false)), [some (.o 2 fs), v1, some (.d (.tuple row)), o3]) s) := by
  cases b with
  | true => exact ⟨fun _ => by simp [B_rlE, clsOf, hβ, seeAll, e1, e2, ec], fun h => absurd rfl h⟩
  | false => exact ⟨fun h => (by cases h), fun _ => by simp [B_rlE, clsOf, hβ, seeAll, e1, e2, ec]⟩
theorem rlS_in {Φ : Phi} {n : Nat} {γ : Fs} {fs : List (Nat × PyData)} (hγ : Φ.mt 2 3 = some γ) {rows r1 r2 : List PyData} {o2 : Option W} {k x y : Int} {b : Bool} {s : List Cell}
    (e1 : atD rows ((rows.length : Int) - 1) = some (.tuple r1)) (e2 : atD rows 0 = some (.tuple r2)) (e3 : atD r1 k = some (.int x)) (e4 : atD r2 k = some (.int y)) (ec : callF γ [.o 2 fs, .d (.int x), .d (.int y)] s = .ok (.d (.bool b)) s) :
    (b = true → runB Φ n B_rlS [some (.o 2 fs), some (.d (.list rows)), o2, some (.d (.int k))] s = .ok (.nx, [some (.o 2 fs), some (.d (.list rows)), o2, some (.d (.int k))]) s) ∧
    (¬ b = true → runB Φ n B_rlS [some (.o 2 fs), some (.d (.list rows)), o2, some (.d (.int k))] s = .ok (.ret (.d (.bool false)), [some (.o 2 fs), some (.d (.list rows)), o2, some (.d (.int k))]) s) := by
  cases b with
  | true => exact ⟨fun _ => by simp [B_rlS, clsOf, hγ, seeAll, e1, e2, e3, e4, ec], fun h => absurd rfl h⟩
  | false => exact ⟨fun h => (by cases h), fun _ => by simp [B_rlS, clsOf, hγ, seeAll, e1, e2, e3, e4, ec]⟩
theorem isRolled_head {Φ : Phi} {n : Nat} {φ : Fs} {T : W} {rows : PyData} {b : Bool} {rest : List S} (hφ : Φ.fn 67 = some φ) (e : callF φ [T, .d rows] [] = .ok (.d (.bool b)) []) :
    runB Φ n ((.ite (.not (.call 67 (.cons (.var 0) (.cons (.var 1) .nil)))) [(.ret (.cst (.bool false)))] []) :: rest) [some T, some (.d rows), none, none] [] = if b = true then runB Φ n rest [some T, some (.d rows), none, none] [] else .ok (.ret (.d (.bool false)), [some T, some (.d rows), none, none]) [] := by
  cases b with
  | true => simp [hφ, e]
  | false => simp [hφ, e]
def IsRolledOk (φ : Fs) : Prop := ∀ (ts : List Tile) (w : Nat) (L : List (List Nat)) (s : List Cell), LayOk ts.length w L → 1 ≤ L.length → L.length ≤ 1000 → 1 ≤ w → w ≤ 1000 → callF φ [setW ts, .d (layD L)] s = .ok (.d (.bool (laidD ts w L && rollsD ts w L))) s
theorem isRolled_ok {Φ : Phi} {φ β γ : Fs} (n : Nat) (hφ : Φ.fn 67 = some φ) (La : LaidOk φ) (hβ : Φ.mt 2 2 = some β) (Be : PairOk β besideB) (hγ : Φ.mt 2 3 = some γ) (Bl : PairOk γ belowB) : IsRolledOk (.p 2 (gP Φ n B_isRolled 4)) := fun ts w L s hL l1 l2 w1 hw => by
  refine callP rfl (vs := [setW ts, .d (layD L)]) rfl ?_
  have e1 := La ts w L [] hL l2 hw
  show endP (runB Φ n B_isRolled [some (setW ts), some (.d (layD L)), none, none] []) = _
  unfold B_isRolled
  rw [isRolled_head hφ e1]
  cases hd : laidD ts w L with
  | false => rw [if_neg Bool.false_ne_true]; rfl
  | true =>
    rw [if_pos rfl, Bool.true_and]
    refine rolls_gen hL l1 hw (fun a o3 ha => ?_) fun k o2 hk => ?_
    · have hm := hL _ (gR_mem ha)
      have hb := rlE_in (Φ := Φ) (n := n) (fs := [(3, rowsD ts)]) hβ (v1 := some (.d (layD L))) (o3 := o3) (s := []) (at_last (r := gR L a) (by omega)) (at_first (by omega)) (Be ts _ _ [] (getD_lt hm.2 (by omega)) (getD_lt hm.2 (by omega)))
      unfold besideB at hb
      rw [decide_eq_true_eq] at hb
      unfold eastP
      rw [← hm.1]
      exact hb
    · have hm := hL _ (gR_mem (show L.length - 1 < L.length by omega))
      have hm0 := hL _ (gR_mem (show 0 < L.length by omega))
      have hb := rlS_in (Φ := Φ) (n := n) (fs := [(3, rowsD ts)]) hγ (o2 := o2) (s := []) (lay_last l1) (lay_first l1) (at_row (j := k) (by omega)) (at_row (j := k) (by omega)) (Bl ts _ _ [] (getD_lt hm.2 (by omega)) (getD_lt hm0.2 (by omega)))
      unfold belowB at hb
      rw [decide_eq_true_eq] at hb
      exact hb
end DM

set_option maxRecDepth 100000
/-! K02b: the law laid_or_not, of its run. -/
namespace DM
open PySem
/-! ### a turn, by what it evaluates -/
theorem turnK_e {Φ : Phi} {i : Nat} {own : List Nat} {e : E} {ρ : Env} {x y : PyData} {s s' : List Cell} (h : runE Φ e ((wipeE ρ own).set i (some (.d x))) s = .ok (.d y) s') : turnK Φ (.n i) own .none e ρ x s = .ok (some y) s' := by
  show ((runC Φ .none ((wipeE ρ own).set i (some (.d x))) s).bind fun b s => if b then (runE Φ e ((wipeE ρ own).set i (some (.d x))) s).bind fun w s => (frzR w s).bind fun y s => .ok (some y) s else .ok none s : R (Option PyData)) = _
  rw [rC_none, R.bind_ok, if_pos rfl, h]
  rfl
theorem turnK_c {Φ : Phi} {i : Nat} {own : List Nat} {c e : E} {ρ : Env} {x y : PyData} {b : Bool} {s s' s'' : List Cell} (hc : runE Φ c ((wipeE ρ own).set i (some (.d x))) s = .ok (.d (.bool b)) s') (h : b = true → runE Φ e ((wipeE ρ own).set i (some (.d x))) s' = .ok (.d y) s'') (hn : b = false → s'' = s') : turnK Φ (.n i) own (.some c) e ρ x s = .ok (if b then some y else none) s'' := by
  show ((runC Φ (.some c) ((wipeE ρ own).set i (some (.d x))) s).bind fun b s => if b then (runE Φ e ((wipeE ρ own).set i (some (.d x))) s).bind fun w s => (frzR w s).bind fun y s => .ok (some y) s else .ok none s : R (Option PyData)) = _
  rw [rC_some, hc]
  cases b with
  | true => simp only [R.bind_ok, tt_b, if_true]; rw [h rfl]; rfl
  | false => simp only [R.bind_ok, tt_b]; rw [hn rfl]; rfl
/-! ### draws in comprehensions -/
theorem compK_draws {Φ : Phi} {tg : Tg} {own : List Nat} {c : Oe} {e : E} {ρ : Env} {β : Type} {d : β → PyData} {P : β → Prop} : ∀ (items : List PyData) (c0 : Cell), OkDice c0 →
    (∀ x ∈ items, ∀ c1, OkDice c1 → ∃ c2 y, turnK Φ tg own c e ρ x [c1] = .ok (some (d y)) [c2] ∧ OkDice c2 ∧ P y) →
    ∃ (c2 : Cell) (ys : List β), compK Φ tg own c e ρ items [c0] = .ok (ys.map d) [c2] ∧ OkDice c2 ∧ ys.length = items.length ∧ ∀ y ∈ ys, P y
  | [], c0, h0, _ => ⟨c0, [], rfl, h0, rfl, by simp⟩
  | x :: xs, c0, h0, h => by
    obtain ⟨c1, y, e1, h1, p1⟩ := h x List.mem_cons_self c0 h0
    obtain ⟨c2, ys, e2, h2, l2, p2⟩ := compK_draws xs c1 h1 fun z hz => h z (List.mem_cons_of_mem _ hz)
    refine ⟨c2, y :: ys, ?_, h2, by simp [l2], ?_⟩
    · show (match turnK Φ tg own c e ρ x [c0] with
        | .ok y s => (compK Φ tg own c e ρ xs s).bind fun ys s => match y with | some y => R.ok (y :: ys) s | none => R.ok ys s
        | _ => R.no) = _
      rw [e1]
      simp only [e2, R.bind_ok, List.map_cons]
    · intro z hz
      rcases List.mem_cons.mp hz with rfl | hz
      · exact p1
      · exact p2 z hz
theorem c_eq_bool (a b : Bool) : cmpD .eq (.bool a) (.bool b) = some (a == b) := by cases a <;> cases b <;> rfl
theorem c_ne_nil {l : List PyData} (h : okD (.list l) = true) : cmpD .ne (.list l) (.list []) = some (!l.isEmpty) := by
  show (if okD (.list l) && okD (.list []) then some (!(PyData.list l).eqv (.list [])) else none) = _
  rw [h]
  cases l <;> rfl
theorem row_Nd (r : List Nat) (h : r.length ≤ sizeLine) : Nd 1 (rowD r) = true := by
  unfold rowD
  simp [Nd, h]
theorem lay_Nd {L : List (List Nat)} (h : L.length ≤ sizeLine) (h2 : ∀ r ∈ L, r.length ≤ sizeLine) : Nd 2 (layD L) = true := by
  unfold layD
  simp only [Nd, Bool.and_eq_true, decide_eq_true_eq, List.length_map, List.all_map, List.all_eq_true]
  exact ⟨h, fun r hr => row_Nd r (h2 r hr)⟩
theorem layOk_Nd {n w : Nat} {L : List (List Nat)} (h : LayOk n w L) (hl : L.length ≤ 1000) (hw : w ≤ 1000) : Nd 2 (layD L) = true := by
  have sp : sizeLine = 16777216 := by decide
  exact lay_Nd (by omega) fun r hr => by rw [(h r hr).1]; omega
theorem lays_Nd {Ls : List (List (List Nat))} (h : Ls.length ≤ sizeLine) (h2 : ∀ L ∈ Ls, Nd 2 (layD L) = true) : Nd 3 (.list (Ls.map layD)) = true := by
  simp only [Nd, Bool.and_eq_true, decide_eq_true_eq, List.length_map, List.all_map, List.all_eq_true]
  exact ⟨h, fun L hL => h2 L hL⟩
theorem rowsOf_ok {n h w : Nat} {r : List Nat} (hr : r.length = h * w) (hn : ∀ i ∈ r, i < n) : LayOk n w (rowsOf h w r) := by
  intro q hq
  unfold rowsOf at hq
  obtain ⟨k, hk, rfl⟩ := List.mem_map.mp hq
  rw [List.mem_range] at hk
  have : k * w + w ≤ h * w := by rw [← Nat.succ_mul]; exact Nat.mul_le_mul_right _ hk
  refine ⟨by simp; omega, fun i hi => hn i (List.mem_of_mem_drop (List.mem_of_mem_take hi))⟩
theorem rowsOf_len (h w : Nat) (r : List Nat) : (rowsOf h w r).length = h := by simp [rowsOf]

/-! ### the law's parts -/
abbrev E_drawRow : E := .tupOf (.fr (.comp (.rng1 (.var 4)) (.n 9) [9] .none (.call 34 (.cons (.var 1) (.cons (.bi .len (.cons (.var 2) .nil)) .nil)))))
abbrev E_drawLay : E := .fr (.comp (.rng1 (.var 3)) (.n 8) [8] .none E_drawRow)
abbrev E_rolling : E := .fr (.comp (.seq (.var 6)) (.n 15) [15] (.some (.call 45 (.cons (.var 2) (.cons (.var 15) .nil)))) (.var 15))
abbrev C_change : List S := [(.asg (.n 8) (.call 34 (.cons (.var 1) (.cons (.var 3) .nil)))), (.asg (.n 9) (.call 34 (.cons (.var 1) (.cons (.var 4) .nil)))), (.asg (.n 10) (.bin .add (.bin .add (.slc (.idx (.var 5) (.var 8)) .none (.some (.var 9))) (.tup (.cons (.call 34 (.cons (.var 1) (.cons (.bi .len (.cons (.var 2) .nil)) .nil))) .nil))) (.slc (.idx (.var 5) (.var 8)) (.some (.bin .add (.var 9) (.cst (.int 1)))) .none))), (.asg (.n 5) (.bin .add (.bin .add (.slc (.var 5) .none (.some (.var 8))) (.fr (.lst (.cons (.var 10) .nil)))) (.slc (.var 5) (.some (.bin .add (.var 8) (.cst (.int 1)))) .none)))]
abbrev C_pick : List S := [(.asg (.n 7) E_rolling), (.asg (.n 5) (.idx (.var 6) (.call 34 (.cons (.var 1) (.cons (.bi .len (.cons (.var 6) .nil)) .nil))))), (.ite (.and (.cmp .ne (.var 7) (.fr (.lst .nil))) (.cmp .eq (.call 34 (.cons (.var 1) (.cons (.cst (.int 2)) .nil))) (.cst (.int 1)))) [(.asg (.n 5) (.idx (.var 7) (.call 34 (.cons (.var 1) (.cons (.bi .len (.cons (.var 7) .nil)) .nil)))))] []), (.ite (.cmp .eq (.call 34 (.cons (.var 1) (.cons (.cst (.int 3)) .nil))) (.cst (.int 2))) C_change [])]
abbrev S_pick : S := .ite (.and (.cmp .ne (.var 6) (.fr (.lst .nil))) (.cmp .gt (.call 34 (.cons (.var 1) (.cons (.cst (.int 3)) .nil))) (.cst (.int 0)))) C_pick []
section
variable {Φ : Phi} {n : Nat} {φ : Fs}
/-- a number drawn -/
theorem draw0 (N : NextOk φ) {c : Cell} (hd : OkDice c) {m : Int} (h0 : 0 < m) (h1 : m < 9223372036854775808) : ∃ (r : Int) (c' : Cell), 0 ≤ r ∧ r < m ∧ OkDice c' ∧ callF φ [.h 0, .d (.int m)] [c] = .ok (.d (.int r)) [c'] := by
  obtain ⟨l, rfl⟩ := hd.lst
  obtain ⟨r, c', a, b, d, e⟩ := N [.lst l] 0 (.lst l) m hd rfl rfl h0 h1
  exact ⟨r, c', a, b, d, e⟩
theorem drawN (N : NextOk φ) {c : Cell} (hd : OkDice c) {m : Nat} (h0 : 0 < m) (h1 : m ≤ 1000000) : ∃ (r : Nat) (c' : Cell), r < m ∧ OkDice c' ∧ callF φ [.h 0, .d (.int (m : Int))] [c] = .ok (.d (.int (r : Int))) [c'] := by
  obtain ⟨r, c', a, b, d, e⟩ := draw0 N hd (m := (m : Int)) (by omega) (by omega)
  have : ((r.toNat : Nat) : Int) = r := by omega
  exact ⟨r.toNat, c', by omega, d, by rw [this]; exact e⟩
abbrev envL (a0 rows h w lay every o7 o8 o9 o10 o11 o12 o13 o14 o15 : Option W) : Env := [a0, some (.h 0), rows, h, w, lay, every, o7, o8, o9, o10, o11, o12, o13, o14, o15]
theorem turn9 {a0 h w o5 o6 o7 o8 o9 o10 o11 o12 o13 o14 o15 : Option W} {rows : List PyData} {x y : PyData} {c c' : Cell} (hφ : Φ.fn 34 = some φ) (e : callF φ [.h 0, .d (.int (rows.length : Int))] [c] = .ok (.d y) [c']) :
    turnK Φ (.n 9) [9] .none (.call 34 (.cons (.var 1) (.cons (.bi .len (.cons (.var 2) .nil)) .nil))) (envL a0 (some (.d (.list rows))) h w o5 o6 o7 o8 o9 o10 o11 o12 o13 o14 o15) x [c] = .ok (some y) [c'] := by
  unfold turnK
  simp [wipeE, asgT, hφ, seeAll, e, frzR]
theorem rng_var {i : Nat} {ρ : Env} {j : Int} {s : List Cell} (h : ρ[i]? = some (some (.d (.int j)))) (hj : smallI j = true) : runI Φ (.rng1 (.var i)) ρ s = .ok (upTo 0 j.toNat) s := by
  simp [h, hj]
theorem drawRow (hφ : Φ.fn 34 = some φ) (N : NextOk φ) {rows : List PyData} (h0 : 0 < rows.length) (h1 : rows.length ≤ 200) {w : Nat} (hw : w ≤ 1000) {a0 h o5 o6 o7 o8 o9 o10 o11 o12 o13 o14 o15 : Option W} {c : Cell} (hc : OkDice c) :
    ∃ (r : List Nat) (c' : Cell), r.length = w ∧ (∀ i ∈ r, i < rows.length) ∧ OkDice c' ∧ runE Φ E_drawRow (envL a0 (some (.d (.list rows))) h (some (.d (.int (w : Int)))) o5 o6 o7 o8 o9 o10 o11 o12 o13 o14 o15) [c] = .ok (.d (rowD r)) [c'] := by
  have sp : sizeLine = 16777216 := by decide
  obtain ⟨c', r, e, hd, hl, hr⟩ := compK_draws (Φ := Φ) (tg := .n 9) (own := [9]) (c := .none) (e := .call 34 (.cons (.var 1) (.cons (.bi .len (.cons (.var 2) .nil)) .nil))) (ρ := envL a0 (some (.d (.list rows))) h (some (.d (.int (w : Int)))) o5 o6 o7 o8 o9 o10 o11 o12 o13 o14 o15) (d := fun (i : Nat) => PyData.int (i : Int)) (P := fun i => i < rows.length) (upTo 0 w) c hc fun x _ c1 h1' => by
    obtain ⟨r, c2, r1, d2, e2⟩ := drawN N h1' h0 (by omega)
    exact ⟨c2, r, turn9 hφ e2, d2, r1⟩
  rw [upTo_len] at hl
  refine ⟨r, c', hl, hr, hd, ?_⟩
  have eI : runI Φ (.rng1 (.var 4)) (envL a0 (some (.d (.list rows))) h (some (.d (.int (w : Int)))) o5 o6 o7 o8 o9 o10 o11 o12 o13 o14 o15) [c] = .ok (upTo 0 w) [c] := by
    rw [rng_var (j := (w : Int)) rfl (smallI_len (by omega)), Int.toNat_natCast]
  have hlen : (upTo 0 w).length < sizeLine := by rw [upTo_len]; omega
  rw [rE_tupOf, rE_fr, rF_comp, eI, compT_ok1 _ _ _ _ _ _ _ _ hlen, e]
  rfl
theorem drawLay (hφ : Φ.fn 34 = some φ) (N : NextOk φ) {rows : List PyData} (h0 : 0 < rows.length) (h1 : rows.length ≤ 200) {h w : Nat} (hh : h ≤ 1000) (hw : w ≤ 1000) {a0 o5 o6 o7 o8 o9 o10 o11 o12 o13 o14 o15 : Option W} {c : Cell} (hc : OkDice c) :
    ∃ (L : List (List Nat)) (c' : Cell), L.length = h ∧ LayOk rows.length w L ∧ OkDice c' ∧ runE Φ E_drawLay (envL a0 (some (.d (.list rows))) (some (.d (.int (h : Int)))) (some (.d (.int (w : Int)))) o5 o6 o7 o8 o9 o10 o11 o12 o13 o14 o15) [c] = .ok (.d (layD L)) [c'] := by
  have sp : sizeLine = 16777216 := by decide
  obtain ⟨c', L, e, hd, hl, hr⟩ := compK_draws (Φ := Φ) (tg := .n 8) (own := [8]) (c := .none) (e := E_drawRow) (ρ := envL a0 (some (.d (.list rows))) (some (.d (.int (h : Int)))) (some (.d (.int (w : Int)))) o5 o6 o7 o8 o9 o10 o11 o12 o13 o14 o15) (d := rowD) (P := fun r => r.length = w ∧ ∀ i ∈ r, i < rows.length) (upTo 0 h) c hc fun x _ c1 h1' => by
    obtain ⟨r, c2, l2, r2, d2, e2⟩ := drawRow hφ N h0 h1 hw h1' (a0 := a0) (h := some (.d (.int (h : Int)))) (o5 := o5) (o6 := o6) (o7 := o7) (o8 := some (.d x)) (o9 := o9) (o10 := o10) (o11 := o11) (o12 := o12) (o13 := o13) (o14 := o14) (o15 := o15)
    refine ⟨c2, r, ?_, d2, l2, r2⟩
    exact turnK_e e2
  rw [upTo_len] at hl
  refine ⟨L, c', hl, hr, hd, ?_⟩
  have eI : runI Φ (.rng1 (.var 3)) (envL a0 (some (.d (.list rows))) (some (.d (.int (h : Int)))) (some (.d (.int (w : Int)))) o5 o6 o7 o8 o9 o10 o11 o12 o13 o14 o15) [c] = .ok (upTo 0 h) [c] := by
    rw [rng_var (j := (h : Int)) rfl (smallI_len (by omega)), Int.toNat_natCast]
  have hlen : (upTo 0 h).length < sizeLine := by rw [upTo_len]; omega
  rw [rE_fr, rF_comp, eI, compT_ok1 _ _ _ _ _ _ _ _ hlen, e]
  rfl
theorem cut_to (l : List PyData) (k : Nat) : cut l none (some (k : Int)) = l.take k := by
  unfold cut
  have e : sIx l.length l.length (some (k : Int)) = min k l.length := by
    unfold sIx
    simp only
    rw [if_neg (by omega), Int.toNat_natCast]
  have e0 : sIx l.length 0 none = 0 := rfl
  rw [e, e0, List.drop_zero, Nat.sub_zero]
  rcases Nat.le_total k l.length with h | h
  · rw [Nat.min_eq_left h]
  · rw [Nat.min_eq_right h, List.take_of_length_le (Nat.le_refl _), List.take_of_length_le h]
theorem cut_from (l : List PyData) (k : Nat) : cut l (some (k : Int)) none = l.drop k := by
  unfold cut
  have e : sIx l.length 0 (some (k : Int)) = min k l.length := by
    unfold sIx
    simp only
    rw [if_neg (by omega), Int.toNat_natCast]
  have e0 : sIx l.length l.length none = l.length := rfl
  rw [e, e0]
  rcases Nat.le_total k l.length with h | h
  · rw [Nat.min_eq_left h, List.take_of_length_le (by simp)]
  · rw [Nat.min_eq_right h, List.drop_of_length_le (Nat.le_refl _), List.drop_of_length_le h]
    simp
theorem change_run (hφ : Φ.fn 34 = some φ) {a0 every o7 o8 o9 o10 o11 o12 o13 o14 o15 : Option W} {rows lay row : List PyData} {h w at_ k t : Int} {c c1 c2 c3 : Cell} (hr : atD lay at_ = some (.tuple row)) (hsz : row.length ≤ 1000) (hsl : lay.length ≤ 1000)
    (e1 : callF φ [.h 0, .d (.int h)] [c] = .ok (.d (.int at_)) [c1]) (e2 : callF φ [.h 0, .d (.int w)] [c1] = .ok (.d (.int k)) [c2]) (e3 : callF φ [.h 0, .d (.int (rows.length : Int))] [c2] = .ok (.d (.int t)) [c3]) :
    ∃ o8' o9' o10', runB Φ n C_change (envL a0 (some (.d (.list rows))) (some (.d (.int h))) (some (.d (.int w))) (some (.d (.list lay))) every o7 o8 o9 o10 o11 o12 o13 o14 o15) [c] =
      .ok (.nx, envL a0 (some (.d (.list rows))) (some (.d (.int h))) (some (.d (.int w))) (some (.d (.list (cut lay none (some at_) ++ [.tuple (cut row none (some k) ++ [.int t] ++ cut row (some (k + 1)) none)] ++ cut lay (some (at_ + 1)) none)))) every o7 o8' o9' o10' o11 o12 o13 o14 o15) [c3] := by
  have sp : sizeLine = 16777216 := by decide
  have cl : ∀ (l : List PyData) (lo hi : Option Int), (cut l lo hi).length ≤ l.length := fun l lo hi => by unfold cut; simp; omega
  have q1 := cl row none (some k)
  have q2 := cl row (some (k + 1)) none
  have q3 := cl lay none (some at_)
  have q4 := cl lay (some (at_ + 1)) none
  have b1 : binD .add (.tuple (cut row none (some k))) (.tuple [.int t]) = some (.tuple (cut row none (some k) ++ [.int t])) := b_addT (by simp; omega)
  have b2 : binD .add (.tuple (cut row none (some k) ++ [.int t])) (.tuple (cut row (some (k + 1)) none)) = some (.tuple (cut row none (some k) ++ [.int t] ++ cut row (some (k + 1)) none)) := b_addT (by simp; omega)
  have b3 := b_addL (a := cut lay none (some at_)) (b := [.tuple (cut row none (some k) ++ [.int t] ++ cut row (some (k + 1)) none)]) (by simp; omega)
  have b4 := b_addL (a := cut lay none (some at_) ++ [.tuple (cut row none (some k) ++ [.int t] ++ cut row (some (k + 1)) none)]) (b := cut lay (some (at_ + 1)) none) (by simp; omega)
  have z1 : (1 : Nat) ≤ sizeLine := by decide
  refine ⟨some (.d (.int at_)), some (.d (.int k)), some (.d (.tuple (cut row none (some k) ++ [.int t] ++ cut row (some (k + 1)) none))), ?_⟩
  simp [-List.append_assoc, C_change, hφ, e1, e2, e3, asgT, hr, frzsR, frzAll, z1, b1, b2, b3, b4, seeAll]
theorem gR_at {L : List (List Nat)} {a : Nat} (h : a < L.length) : L[a]? = some (gR L a) := by
  unfold gR
  rw [List.getD_eq_getElem?_getD, List.getElem?_eq_getElem h]
  rfl
theorem change_ok (hφ : Φ.fn 34 = some φ) (N : NextOk φ) {rows : List PyData} (r0 : 0 < rows.length) (r1 : rows.length ≤ 200) {h w : Nat} (h0 : 1 ≤ h) (w0 : 1 ≤ w) (hh : h ≤ 12) (hw : w ≤ 12) {L : List (List Nat)} (hl : L.length = h) (hL : LayOk rows.length w L) {a0 every o7 o8 o9 o10 o11 o12 o13 o14 o15 : Option W} {c : Cell} (hc : OkDice c) :
    ∃ (o8' o9' o10' : Option W) (c' : Cell) (L' : List (List Nat)), OkDice c' ∧ L'.length = h ∧ LayOk rows.length w L' ∧ runB Φ n C_change (envL a0 (some (.d (.list rows))) (some (.d (.int (h : Int)))) (some (.d (.int (w : Int)))) (some (.d (layD L))) every o7 o8 o9 o10 o11 o12 o13 o14 o15) [c] =
      .ok (.nx, envL a0 (some (.d (.list rows))) (some (.d (.int (h : Int)))) (some (.d (.int (w : Int)))) (some (.d (layD L'))) every o7 o8' o9' o10' o11 o12 o13 o14 o15) [c'] := by
  obtain ⟨a, c1, la, d1, e1⟩ := drawN N hc h0 (by omega)
  obtain ⟨k, c2, lk, d2, e2⟩ := drawN N d1 w0 (by omega)
  obtain ⟨t, c3, lt, d3, e3⟩ := drawN N d2 r0 (by omega)
  have ha : a < L.length := by omega
  have hm := hL _ (gR_mem ha)
  obtain ⟨o8', o9', o10', e⟩ := change_run (n := n) hφ (a0 := a0) (every := every) (o7 := o7) (o8 := o8) (o9 := o9) (o10 := o10) (o11 := o11) (o12 := o12) (o13 := o13) (o14 := o14) (o15 := o15) (at_lay ha) (by simp; omega) (by simp; omega) e1 e2 e3
  refine ⟨o8', o9', o10', c3, L.take a ++ [(gR L a).take k ++ [t] ++ (gR L a).drop (k + 1)] ++ L.drop (a + 1), d3, by simp; omega, fun r hr => ?_, ?_⟩
  · simp only [List.mem_append, List.mem_singleton] at hr
    rcases hr with (hr | rfl) | hr
    · exact hL r (List.mem_of_mem_take hr)
    · refine ⟨by simp; omega, fun i hi => ?_⟩
      simp only [List.mem_append, List.mem_singleton] at hi
      rcases hi with (hi | rfl) | hi
      · exact hm.2 i (List.mem_of_mem_take hi)
      · exact lt
      · exact hm.2 i (List.mem_of_mem_drop hi)
    · exact hL r (List.mem_of_mem_drop hr)
  · have c1 : (a : Int) + 1 = ((a + 1 : Nat) : Int) := rfl
    have c2 : (k : Int) + 1 = ((k + 1 : Nat) : Int) := rfl
    rw [c1, c2, cut_to, cut_to, cut_from, cut_from, ← List.map_take, ← List.map_take, ← List.map_drop, ← List.map_drop] at e
    have q : PyData.list (List.map rowD (List.take a L) ++ [PyData.tuple (List.map (fun (i : Nat) => PyData.int (i : Int)) (List.take k (gR L a)) ++ [PyData.int (t : Int)] ++ List.map (fun (i : Nat) => PyData.int (i : Int)) (List.drop (k + 1) (gR L a)))] ++ List.map rowD (List.drop (a + 1) L)) = layD (L.take a ++ [(gR L a).take k ++ [t] ++ (gR L a).drop (k + 1)] ++ L.drop (a + 1)) := by
      unfold layD rowD
      simp
    rw [q] at e
    exact e
/-! ### one of some layings -/
theorem rolling_run {φr : Fs} (h45 : Φ.fn 45 = some φr) (Ro : RollsOk φr) {ts : List Tile} {h w : Nat} (h0 : 1 ≤ h) (w0 : 1 ≤ w) (hw : w ≤ 12) {Ls : List (List (List Nat))} (hn : Ls.length < sizeLine) (hLs : ∀ L ∈ Ls, L.length = h ∧ LayOk ts.length w L) {a0 o3 o4 o5 o7 o8 o9 o10 o11 o12 o13 o14 o15 : Option W} {s : List Cell} :
    runE Φ E_rolling (envL a0 (some (.d (rowsD ts))) o3 o4 o5 (some (.d (.list (Ls.map layD)))) o7 o8 o9 o10 o11 o12 o13 o14 o15) s = .ok (.d (.list ((Ls.filter (rollsD ts w)).map layD))) s := by
  have key : compT Φ (.n 15) [15] (.some (.call 45 (.cons (.var 2) (.cons (.var 15) .nil)))) (.var 15) (envL a0 (some (.d (rowsD ts))) o3 o4 o5 (some (.d (.list (Ls.map layD)))) o7 o8 o9 o10 o11 o12 o13 o14 o15) (.ok (Ls.map layD) s) = .ok ((Ls.filter (rollsD ts w)).map layD) s := by
    refine compT_fm (by simpa using hn) fun L hL => ?_
    obtain ⟨l1, l2⟩ := hLs L hL
    have er := Ro ts w L s l2 (by omega) w0 (by omega)
    refine turnK_c (s' := s) ?_ (fun _ => rfl) fun _ => rfl
    show runE Φ (.call 45 (.cons (.var 2) (.cons (.var 15) .nil))) (envL a0 (some (.d (rowsD ts))) o3 o4 o5 (some (.d (.list (Ls.map layD)))) o7 o8 o9 o10 o11 o12 o13 o14 (some (.d (layD L)))) s = _
    simp only [rE_call, h45, rEs_cons, rEs_nil, rE_var]
    exact er
  rw [rE_fr, rF_comp]
  have eI : runI Φ (.seq (.var 6)) (envL a0 (some (.d (rowsD ts))) o3 o4 o5 (some (.d (.list (Ls.map layD)))) o7 o8 o9 o10 o11 o12 o13 o14 o15) s = .ok (Ls.map layD) s := rfl
  rw [eI, key]
  rfl
theorem atD_map {β : Type} {f : β → PyData} {l : List β} {j : Nat} (h : j < l.length) : atD (l.map f) (j : Int) = some (f l[j]) := by
  refine atD_nat (by omega) ?_
  rw [Int.toNat_natCast, List.getElem?_map, List.getElem?_eq_getElem h]
  rfl
/-- one step, then the rest -/
theorem step1 {S1 : S} {r : List S} {ρ ρ' : Env} {s s' : List Cell} (h : runS Φ n S1 ρ s = .ok (.nx, ρ') s') : runB Φ n (S1 :: r) ρ s = runB Φ n r ρ' s' := by rw [rB_cons, h, R.sq_nx]
theorem pick_one (hφ : Φ.fn 34 = some φ) {a0 o2 o3 o4 o5 o7 o8 o9 o10 o11 o12 o13 o14 o15 : Option W} {l : List PyData} {j : Int} {x : PyData} {c c' : Cell} (e : callF φ [.h 0, .d (.int (l.length : Int))] [c] = .ok (.d (.int j)) [c']) (ex : atD l j = some x) :
    runS Φ n (.asg (.n 5) (.idx (.var 6) (.call 34 (.cons (.var 1) (.cons (.bi .len (.cons (.var 6) .nil)) .nil))))) (envL a0 o2 o3 o4 o5 (some (.d (.list l))) o7 o8 o9 o10 o11 o12 o13 o14 o15) [c] = .ok (.nx, envL a0 o2 o3 o4 (some (.d x)) (some (.d (.list l))) o7 o8 o9 o10 o11 o12 o13 o14 o15) [c'] := by
  simp [hφ, seeAll, e, ex, asgT]
theorem pick_two (hφ : Φ.fn 34 = some φ) {a0 o2 o3 o4 o5 o6 o8 o9 o10 o11 o12 o13 o14 o15 : Option W} {l : List PyData} {j : Int} {x : PyData} {c c' : Cell} (e : callF φ [.h 0, .d (.int (l.length : Int))] [c] = .ok (.d (.int j)) [c']) (ex : atD l j = some x) :
    runS Φ n (.asg (.n 5) (.idx (.var 7) (.call 34 (.cons (.var 1) (.cons (.bi .len (.cons (.var 7) .nil)) .nil))))) (envL a0 o2 o3 o4 o5 o6 (some (.d (.list l))) o8 o9 o10 o11 o12 o13 o14 o15) [c] = .ok (.nx, envL a0 o2 o3 o4 (some (.d x)) o6 (some (.d (.list l))) o8 o9 o10 o11 o12 o13 o14 o15) [c'] := by
  simp [hφ, seeAll, e, ex, asgT]
theorem set_n {i : Nat} {e : E} {ρ : Env} {w : W} {s s' : List Cell} (h : runE Φ e ρ s = .ok w s') : runS Φ n (.asg (.n i) e) ρ s = .ok (.nx, ρ.set i (some w)) s' := by
  rw [rS_asg, h]
  rfl
theorem ite_T {c : E} {a b : List S} {ρ : Env} {s s' : List Cell} (h : runE Φ c ρ s = .ok (.d (.bool true)) s') : runS Φ n (.ite c a b) ρ s = runB Φ n a ρ s' := by
  rw [rS_ite, h]
  rfl
theorem ite_F {c : E} {a b : List S} {ρ : Env} {s s' : List Cell} (h : runE Φ c ρ s = .ok (.d (.bool false)) s') : runS Φ n (.ite c a b) ρ s = runB Φ n b ρ s' := by
  rw [rS_ite, h]
  rfl
theorem isEmpty_of {β γ : Type} {f : β → γ} {l : List β} : (l.map f).isEmpty = l.isEmpty := by cases l <;> rfl
theorem pick_ok (hφ : Φ.fn 34 = some φ) (N : NextOk φ) {φr : Fs} (h45 : Φ.fn 45 = some φr) (Ro : RollsOk φr) {ts : List Tile} (t0 : 1 ≤ ts.length) (t1 : ts.length ≤ 200) {h w : Nat} (h0 : 1 ≤ h) (w0 : 1 ≤ w) (hh : h ≤ 12) (hw : w ≤ 12) {Ls : List (List (List Nat))} (hne : 0 < Ls.length) (hn : Ls.length ≤ 1000000) (hLs : ∀ L ∈ Ls, L.length = h ∧ LayOk ts.length w L) {a0 o5 o7 o8 o9 o10 o11 o12 o13 o14 o15 : Option W} {c : Cell} (hc : OkDice c) :
    ∃ (o7' o8' o9' o10' : Option W) (c' : Cell) (L' : List (List Nat)), OkDice c' ∧ L'.length = h ∧ LayOk ts.length w L' ∧ runB Φ n C_pick (envL a0 (some (.d (rowsD ts))) (some (.d (.int (h : Int)))) (some (.d (.int (w : Int)))) o5 (some (.d (.list (Ls.map layD)))) o7 o8 o9 o10 o11 o12 o13 o14 o15) [c] =
      .ok (.nx, envL a0 (some (.d (rowsD ts))) (some (.d (.int (h : Int)))) (some (.d (.int (w : Int)))) (some (.d (layD L'))) (some (.d (.list (Ls.map layD)))) o7' o8' o9' o10' o11 o12 o13 o14 o15) [c'] := by
  have sp : sizeLine = 16777216 := by decide
  have e1 := rolling_run h45 Ro h0 w0 hw (Ls := Ls) (by omega) hLs (a0 := a0) (o3 := some (.d (.int (h : Int)))) (o4 := some (.d (.int (w : Int)))) (o5 := o5) (o7 := o7) (o8 := o8) (o9 := o9) (o10 := o10) (o11 := o11) (o12 := o12) (o13 := o13) (o14 := o14) (o15 := o15) (s := [c])
  obtain ⟨j, c1, lj, d1, e2⟩ := drawN N hc hne (by omega)
  have e2' : callF φ [.h 0, .d (.int ((Ls.map layD).length : Int))] [c] = .ok (.d (.int (j : Int))) [c1] := by rw [List.length_map]; exact e2
  have p1 := pick_one (n := n) (a0 := a0) (o2 := some (.d (rowsD ts))) (o3 := some (.d (.int (h : Int)))) (o4 := some (.d (.int (w : Int)))) (o5 := o5) (o7 := some (.d (.list ((Ls.filter (rollsD ts w)).map layD)))) (o8 := o8) (o9 := o9) (o10 := o10) (o11 := o11) (o12 := o12) (o13 := o13) (o14 := o14) (o15 := o15) hφ e2' (atD_map lj)
  have hm1 := hLs _ (List.getElem_mem lj)
  -- the third statement
  have third : ∃ (c2 : Cell) (L2 : List (List Nat)), OkDice c2 ∧ L2 ∈ Ls ∧ runS Φ n (.ite (.and (.cmp .ne (.var 7) (.fr (.lst .nil))) (.cmp .eq (.call 34 (.cons (.var 1) (.cons (.cst (.int 2)) .nil))) (.cst (.int 1)))) [(.asg (.n 5) (.idx (.var 7) (.call 34 (.cons (.var 1) (.cons (.bi .len (.cons (.var 7) .nil)) .nil)))))] [])
      (envL a0 (some (.d (rowsD ts))) (some (.d (.int (h : Int)))) (some (.d (.int (w : Int)))) (some (.d (layD Ls[j]))) (some (.d (.list (Ls.map layD)))) (some (.d (.list ((Ls.filter (rollsD ts w)).map layD)))) o8 o9 o10 o11 o12 o13 o14 o15) [c1] =
      .ok (.nx, envL a0 (some (.d (rowsD ts))) (some (.d (.int (h : Int)))) (some (.d (.int (w : Int)))) (some (.d (layD L2))) (some (.d (.list (Ls.map layD)))) (some (.d (.list ((Ls.filter (rollsD ts w)).map layD)))) o8 o9 o10 o11 o12 o13 o14 o15) [c2] := by
    have fl : (Ls.filter (rollsD ts w)).length ≤ Ls.length := List.length_filter_le _ _
    have hnd : okD (.list ((Ls.filter (rollsD ts w)).map layD)) = true := Nd_okD (n := 3) (by decide) (lays_Nd (by omega) fun L hL => by
      obtain ⟨l1, l2⟩ := hLs L (List.mem_filter.mp hL).1
      exact layOk_Nd l2 (by omega) (by omega))
    have hne' := c_ne_nil hnd
    have z0 : (0 : Nat) ≤ sizeLine := Nat.zero_le _
    rw [isEmpty_of] at hne'
    cases he : (Ls.filter (rollsD ts w)).isEmpty with
    | true =>
      rw [he] at hne'
      refine ⟨c1, Ls[j], d1, List.getElem_mem lj, ?_⟩
      rw [ite_F (s' := [c1]) (by simp [-List.map_map, frzsR, frzAll, hne'])]
      rfl
    | false =>
      rw [he] at hne'
      obtain ⟨b, c2, b0, b1, d2, e3⟩ := draw0 N d1 (m := 2) (by decide) (by decide)
      by_cases hb : b = 1
      · subst hb
        have hl : 0 < (Ls.filter (rollsD ts w)).length := by
          cases q : Ls.filter (rollsD ts w) with
          | nil => rw [q] at he; cases he
          | cons _ _ => simp
        obtain ⟨j2, c3, lj2, d3, e4⟩ := drawN N d2 hl (by omega)
        have e4' : callF φ [.h 0, .d (.int (((Ls.filter (rollsD ts w)).map layD).length : Int))] [c2] = .ok (.d (.int (j2 : Int))) [c3] := by rw [List.length_map]; exact e4
        refine ⟨c3, (Ls.filter (rollsD ts w))[j2], d3, (List.mem_filter.mp (List.getElem_mem lj2)).1, ?_⟩
        rw [ite_T (s' := [c2]) (by simp [-List.map_map, frzsR, frzAll, hne', hφ, e3])]
        rw [step1 (pick_two hφ e4' (atD_map lj2))]
        rfl
      · refine ⟨c2, Ls[j], d2, List.getElem_mem lj, ?_⟩
        rw [ite_F (s' := [c2]) (by simp [-List.map_map, frzsR, frzAll, hne', hφ, e3, hb])]
        rfl
  obtain ⟨c2, L2, d2, hL2, e3⟩ := third
  obtain ⟨l1, l2⟩ := hLs L2 hL2
  obtain ⟨b, c3, b0, b1, d3, e4⟩ := draw0 N d2 (m := 3) (by decide) (by decide)
  unfold C_pick
  rw [step1 (set_n e1)]
  rw [show (envL a0 (some (.d (rowsD ts))) (some (.d (.int (h : Int)))) (some (.d (.int (w : Int)))) o5 (some (.d (.list (Ls.map layD)))) o7 o8 o9 o10 o11 o12 o13 o14 o15).set 7 (some (.d (.list ((Ls.filter (rollsD ts w)).map layD)))) = envL a0 (some (.d (rowsD ts))) (some (.d (.int (h : Int)))) (some (.d (.int (w : Int)))) o5 (some (.d (.list (Ls.map layD)))) (some (.d (.list ((Ls.filter (rollsD ts w)).map layD)))) o8 o9 o10 o11 o12 o13 o14 o15 from rfl]
  rw [step1 p1, step1 e3]
  by_cases hb : b = 2
  · subst hb
    obtain ⟨o8', o9', o10', c4, L4, d4, l4, lo4, e5⟩ := change_ok (n := n) hφ N (rows := ts.map Tile.d) (by simp; omega) (by simpa using t1) h0 w0 hh hw l1 (by simpa using l2) (a0 := a0) (every := some (.d (.list (Ls.map layD)))) (o7 := some (.d (.list ((Ls.filter (rollsD ts w)).map layD)))) (o8 := o8) (o9 := o9) (o10 := o10) (o11 := o11) (o12 := o12) (o13 := o13) (o14 := o14) (o15 := o15) d3
    refine ⟨some (.d (.list ((Ls.filter (rollsD ts w)).map layD))), o8', o9', o10', c4, L4, d4, l4, by simpa using lo4, ?_⟩
    rw [rB_cons, ite_T (s' := [c3]) (by simp [-List.map_map, hφ, e4]), e5]
    rfl
  · refine ⟨some (.d (.list ((Ls.filter (rollsD ts w)).map layD))), o8, o9, o10, c3, L2, d3, l1, l2, ?_⟩
    rw [rB_cons, ite_F (s' := [c3]) (by simp [-List.map_map, hφ, e4, hb])]
    rfl
abbrev B_suf02 : List S := [(.asg (.n 11) (.fr (.list (.var 5)))), (.asg (.n 12) (.call 67 (.cons (.mk 2 (.cons (.var 2) .nil)) (.cons (.var 11) .nil)))), (.ite (.or (.not (.isi .bool (.var 12))) (.cmp .ne (.var 12) (.call 22 (.cons (.var 2) (.cons (.var 5) .nil))))) [(.ret (.cst (.bool false)))] []), (.asg (.n 13) (.call 68 (.cons (.mk 2 (.cons (.var 2) .nil)) (.cons (.var 11) .nil)))), (.asg (.n 14) (.and (.var 12) (.call 45 (.cons (.var 2) (.cons (.var 5) .nil))))), (.ret (.and (.isi .bool (.var 13)) (.and (.cmp .eq (.var 13) (.var 14)) (.cmp .eq (.var 11) (.var 5)))))]
def B_law02 : List S := [(.asg (.n 1) (.th (.call 9 (.cons (.var 0) .nil)))), (.asg (.n 2) (.call 50 (.cons (.var 1) (.cons (.cst (.int 5)) .nil)))), (.asg (.t [3, 4]) (.call 47 (.cons (.var 1) (.cons (.bi .len (.cons (.var 2) .nil)) (.cons (.cst (.int 4096)) .nil))))), (.asg (.n 5) E_drawLay), (.asg (.n 6) (.call 27 (.cons (.var 2) (.cons (.var 3) (.cons (.var 4) .nil))))), S_pick] ++ B_suf02
theorem suf02 {ψ : Ms} {φ67 φ22 φ68 φ45 : Fs} (hψ : Φ.cl 2 = some ψ) (h67 : Φ.fn 67 = some φ67) (h22 : Φ.fn 22 = some φ22) (h68 : Φ.fn 68 = some φ68) (h45 : Φ.fn 45 = some φ45) {T : W} {R : PyData} {l : List PyData} {b r : Bool} {a0 o3 o4 o6 o7 o8 o9 o10 o11 o12 o13 o14 o15 : Option W} {s : List Cell}
    (eK : mkF ψ 2 [.d R] s = .ok T s) (e67 : callF φ67 [T, .d (.list l)] s = .ok (.d (.bool b)) s) (e22 : callF φ22 [.d R, .d (.list l)] s = .ok (.d (.bool b)) s) (e68 : callF φ68 [T, .d (.list l)] s = .ok (.d (.bool (b && r))) s) (e45 : callF φ45 [.d R, .d (.list l)] s = .ok (.d (.bool r)) s) (q : cmpD .eq (.list l) (.list l) = some true) :
    endP (runB Φ n B_suf02 (envL a0 (some (.d R)) o3 o4 (some (.d (.list l))) o6 o7 o8 o9 o10 o11 o12 o13 o14 o15) s) = some (.ret (.d (.bool true))) := by
  cases b <;> cases r <;> simp only [Bool.and_true, Bool.and_false, Bool.false_and, Bool.true_and] at e68 <;> simp [B_suf02, asgT, hψ, eK, h67, h22, h68, h45, e67, e22, e68, e45, q, isiD, c_eq_bool, endP, finP]
theorem law02 {φ9 φ50 φ47 φ27 φ67 φ22 φ68 φ45 : Fs} {ψ : Ms} (h9 : Φ.fn 9 = some φ9) (D : DiceOk φ9) (h50 : Φ.fn 50 = some φ50) (Ti : TilesOk φ50) (h47 : Φ.fn 47 = some φ47) (Si : SizeOk φ47) (hφ : Φ.fn 34 = some φ) (N : NextOk φ) (h27 : Φ.fn 27 = some φ27) (Lg : LayingsOk φ27)
    (h45 : Φ.fn 45 = some φ45) (Ro : RollsOk φ45) (h67 : Φ.fn 67 = some φ67) (La : LaidOk φ67) (h22 : Φ.fn 22 = some φ22) (Lk : LookOk φ22) (h68 : Φ.fn 68 = some φ68) (Ir : IsRolledOk φ68) (hψ : Φ.cl 2 = some ψ) (K : MkTiles ψ) (ns : List Int) (hl : ns.length ≤ 63) : gP Φ n B_law02 16 [.d (.list (ns.map .int))] = some (.ret (.d (.bool true))) := by
  have sp : sizeLine = 16777216 := by decide
  obtain ⟨l, dl, e1⟩ := D ns [] hl
  obtain ⟨ts, c2, t0, t1, tk, d2, e2⟩ := Ti [.lst l] 0 (.lst l) 5 dl rfl rfl (by decide) (by decide)
  replace e2 := callF_X e2
  simp only [List.set_cons_zero] at e2
  have t2 : ts.length ≤ 200 := by omega
  obtain ⟨lst2, rfl⟩ := d2.lst
  obtain ⟨h, w, c3, h0, h4, w0, w4, hz, d3, e3⟩ := Si [.lst lst2] 0 (.lst lst2) ts.length 4096 d2 rfl rfl t0 (by omega) (by omega)
  simp only [List.set_cons_zero] at e3
  rw [show ((4096 : Nat) : Int) = 4096 from rfl] at e3
  obtain ⟨L0, c4, l0, lo0, d4, e4⟩ := drawLay (Φ := Φ) hφ N (rows := ts.map Tile.d) (by simp; omega) (by simpa using t2) (h := h) (w := w) (by omega) (by omega) d3 (a0 := some (.d (.list (ns.map .int)))) (o5 := none) (o6 := none) (o7 := none) (o8 := none) (o9 := none) (o10 := none) (o11 := none) (o12 := none) (o13 := none) (o14 := none) (o15 := none)
  rw [List.length_map] at lo0
  have e5 := callF_X (Lg ts h w [c4] t0 t2 h0 (by omega) w0 (by omega) (by omega))
  have eE : ((layF ts w (h * w)).map fun r => layD (rowsOf h w r)) = ((layF ts w (h * w)).map (rowsOf h w)).map layD := by rw [List.map_map]; rfl
  rw [eE] at e5
  have hLs : ∀ L ∈ (layF ts w (h * w)).map (rowsOf h w), L.length = h ∧ LayOk ts.length w L := fun L hL => by
    obtain ⟨r, hr, rfl⟩ := List.mem_map.mp hL
    obtain ⟨q1, q2⟩ := layF_mem hr
    exact ⟨rowsOf_len _ _ _, rowsOf_ok q1 q2⟩
  have hLn : ((layF ts w (h * w)).map (rowsOf h w)).length ≤ 4096 := by rw [List.length_map]; exact Nat.le_trans (layF_len ts w _) hz
  generalize hg : (layF ts w (h * w)).map (rowsOf h w) = Ls at e5 hLs hLn
  -- one of some, or what is drawn
  have pick : ∃ (o7' o8' o9' o10' : Option W) (c' : Cell) (L' : List (List Nat)), OkDice c' ∧ L'.length = h ∧ LayOk ts.length w L' ∧ runS Φ n S_pick (envL (some (.d (.list (ns.map .int)))) (some (.d (rowsD ts))) (some (.d (.int (h : Int)))) (some (.d (.int (w : Int)))) (some (.d (layD L0))) (some (.d (.list (Ls.map layD)))) none none none none none none none none none) [c4] =
      .ok (.nx, envL (some (.d (.list (ns.map .int)))) (some (.d (rowsD ts))) (some (.d (.int (h : Int)))) (some (.d (.int (w : Int)))) (some (.d (layD L'))) (some (.d (.list (Ls.map layD)))) o7' o8' o9' o10' none none none none none) [c'] := by
    have hnd : okD (.list (Ls.map layD)) = true := Nd_okD (n := 3) (by decide) (lays_Nd (by omega) fun L hL => by
      obtain ⟨l1, l2⟩ := hLs L hL
      exact layOk_Nd l2 (by omega) (by omega))
    have hne' := c_ne_nil hnd
    have z0 : (0 : Nat) ≤ sizeLine := Nat.zero_le _
    rw [isEmpty_of] at hne'
    cases he : Ls.isEmpty with
    | true =>
      rw [he] at hne'
      refine ⟨none, none, none, none, c4, L0, d4, l0, lo0, ?_⟩
      rw [ite_F (s' := [c4]) (by simp [-List.map_map, frzsR, frzAll, hne'])]
      rfl
    | false =>
      rw [he] at hne'
      obtain ⟨b, c5, b0, b1, d5, e6⟩ := draw0 N d4 (m := 3) (by decide) (by decide)
      by_cases hb : 0 < b
      · have hl : 0 < Ls.length := by
          cases Ls with
          | nil => cases he
          | cons _ _ => simp
        obtain ⟨o7', o8', o9', o10', c6, L6, d6, l6, lo6, e7⟩ := pick_ok (n := n) hφ N h45 Ro t0 t2 h0 w0 (by omega) (by omega) hl (by omega) hLs (a0 := some (.d (.list (ns.map .int)))) (o5 := some (.d (layD L0))) (o7 := none) (o8 := none) (o9 := none) (o10 := none) (o11 := none) (o12 := none) (o13 := none) (o14 := none) (o15 := none) d5
        refine ⟨o7', o8', o9', o10', c6, L6, d6, l6, lo6, ?_⟩
        rw [ite_T (s' := [c5]) (by simp [-List.map_map, frzsR, frzAll, hne', hφ, e6, hb])]
        exact e7
      · refine ⟨none, none, none, none, c5, L0, d5, l0, lo0, ?_⟩
        rw [ite_F (s' := [c5]) (by simp [-List.map_map, frzsR, frzAll, hne', hφ, e6, hb])]
        rfl
  obtain ⟨o7', o8', o9', o10', c6, L, d6, lL, loL, e6⟩ := pick
  have s5 : runS Φ n (.asg (.n 5) E_drawLay) (envL (some (.d (.list (ns.map .int)))) (some (.d (rowsD ts))) (some (.d (.int (h : Int)))) (some (.d (.int (w : Int)))) none none none none none none none none none none none) [c3] = .ok (.nx, envL (some (.d (.list (ns.map .int)))) (some (.d (rowsD ts))) (some (.d (.int (h : Int)))) (some (.d (.int (w : Int)))) (some (.d (layD L0))) none none none none none none none none none none) [c4] := set_n e4
  have e1' : runS Φ n (.asg (.n 1) (.th (.call 9 (.cons (.var 0) .nil)))) (startE 16 [.d (.list (ns.map .int))]) [] = .ok (.nx, (startE 16 [.d (.list (ns.map .int))]).set 1 (some (.h 0))) [.lst l] := set_n (by simp [startE, h9, e1])
  have fin := suf02 (n := n) hψ h67 h22 h68 h45 (K ts [c6] t0 t2 tk) (La ts w L [c6] loL (by omega) (by omega)) (Lk ts w L [c6] loL (by omega) (by omega)) (Ir ts w L [c6] loL (by omega) (by omega) w0 (by omega)) (Ro ts w L [c6] loL (by omega) w0 (by omega)) (c_eq_self (n := 2) (by decide) (layOk_Nd loL (by omega) (by omega)))
    (a0 := some (.d (.list (ns.map .int)))) (o3 := some (.d (.int (h : Int)))) (o4 := some (.d (.int (w : Int)))) (o6 := some (.d (.list (Ls.map layD)))) (o7 := o7') (o8 := o8') (o9 := o9') (o10 := o10') (o11 := none) (o12 := none) (o13 := none) (o14 := none) (o15 := none)
  show endP (runB Φ n B_law02 (startE 16 [.d (.list (ns.map .int))]) []) = _
  unfold B_law02
  rw [List.cons_append, step1 e1', List.cons_append]
  rw [step1 (set_n (w := .d (rowsD ts)) (s' := [.lst lst2]) (by simp [-List.map_map, startE, h50, e2]))]
  rw [List.cons_append, step1 (ρ' := envL (some (.d (.list (ns.map .int)))) (some (.d (rowsD ts))) (some (.d (.int (h : Int)))) (some (.d (.int (w : Int)))) none none none none none none none none none none none) (s' := [c3]) (by simp [-List.map_map, startE, h47, seeAll, e3, asgT, setAll])]
  rw [List.cons_append, step1 s5, List.cons_append]
  rw [step1 (show runS Φ n (.asg (.n 6) (.call 27 (.cons (.var 2) (.cons (.var 3) (.cons (.var 4) .nil))))) (envL (some (.d (.list (ns.map .int)))) (some (.d (rowsD ts))) (some (.d (.int (h : Int)))) (some (.d (.int (w : Int)))) (some (.d (layD L0))) none none none none none none none none none none) [c4] = .ok (.nx, envL (some (.d (.list (ns.map .int)))) (some (.d (rowsD ts))) (some (.d (.int (h : Int)))) (some (.d (.int (w : Int)))) (some (.d (layD L0))) (some (.d (.list (Ls.map layD)))) none none none none none none none none none) [c4] from set_n (by simp [-List.map_map, h27, e5]))]
  rw [List.cons_append, step1 e6]
  exact fin
end
end DM

set_option maxRecDepth 100000
/-! L12: loops as folds; sizes, columns. -/
namespace DM
open PySem
theorem forK_pre0 {β : Type} {Φ : Phi} {n : Nat} {t : Tg} {b : List S} (d : β → PyData) (I : List β → Env → List Cell → Prop) : ∀ (xs done : List β) (ρ : Env) (s : List Cell), I done ρ s →
    (∀ pre x post ρ s, xs = pre ++ x :: post → I (done ++ pre) ρ s → ∃ ρ1 ρ' s', asgT ρ t (.d (d x)) = some ρ1 ∧ (runB Φ n b ρ1 s = .ok (.nx, ρ') s' ∨ runB Φ n b ρ1 s = .ok (.ct, ρ') s') ∧ I (done ++ pre ++ [x]) ρ' s') →
    ∃ ρ' s', forK Φ n t b (xs.map d) ρ s = .ok (.nx, ρ') s' ∧ I (done ++ xs) ρ' s'
  | [], done, ρ, s, h, _ => ⟨ρ, s, rfl, by simpa using h⟩
  | x :: xs, done, ρ, s, h, st => by
    obtain ⟨ρ1, ρ', s', e1, e2, h'⟩ := st [] x xs ρ s rfl (by simpa using h)
    obtain ⟨ρ2, s2, e3, h3⟩ := forK_pre0 d I xs (done ++ [x]) ρ' s' (by simpa using h') fun pre y post ρ s e hi => by
      obtain ⟨ρ1, ρ', s', q1, q2, q3⟩ := st (x :: pre) y post ρ s (by rw [e]; rfl) (by simpa using hi)
      exact ⟨ρ1, ρ', s', q1, q2, by simpa using q3⟩
    refine ⟨ρ2, s2, ?_, by simpa using h3⟩
    rw [List.map_cons, forK_cons, e1]
    rcases e2 with e2 | e2 <;> simp only [e2, R.lp_nx, R.lp_ct] <;> exact e3
/-- a loop, by what is done -/
theorem forK_pre {β : Type} {Φ : Phi} {n : Nat} {t : Tg} {b : List S} (d : β → PyData) (I : List β → Env → List Cell → Prop) (xs : List β) (ρ : Env) (s : List Cell) (h : I [] ρ s)
    (st : ∀ pre x post ρ s, xs = pre ++ x :: post → I pre ρ s → ∃ ρ1 ρ' s', asgT ρ t (.d (d x)) = some ρ1 ∧ (runB Φ n b ρ1 s = .ok (.nx, ρ') s' ∨ runB Φ n b ρ1 s = .ok (.ct, ρ') s') ∧ I (pre ++ [x]) ρ' s') :
    ∃ ρ' s', forK Φ n t b (xs.map d) ρ s = .ok (.nx, ρ') s' ∧ I xs ρ' s' := by
  have := forK_pre0 (Φ := Φ) (n := n) (t := t) (b := b) d I xs [] ρ s h (fun pre x post ρ s e hi => by simpa using st pre x post ρ s e (by simpa using hi))
  simpa using this
theorem pre_lt {β : Type} {xs pre post : List β} {x : β} (e : xs = pre ++ x :: post) : pre.length < xs.length := by rw [e]; simp
theorem pre_mem {β : Type} {xs pre post : List β} {x : β} (e : xs = pre ++ x :: post) : x ∈ xs := by rw [e]; simp
theorem pre_range {k : Nat} {pre post : List Nat} {x : Nat} (e : List.range k = pre ++ x :: post) : x = pre.length ∧ x < k ∧ pre = List.range x := by
  have hl := pre_lt e
  rw [List.length_range] at hl
  have h1 : (List.range k)[pre.length]? = some x := by rw [e]; simp
  rw [List.getElem?_range hl] at h1
  cases h1
  refine ⟨rfl, hl, ?_⟩
  have h2 : (List.range k).take pre.length = pre := by rw [e]; simp
  rw [← h2, List.take_range, Nat.min_eq_left (Nat.le_of_lt hl)]
  simp
theorem fold_filter {β γ : Type} (p : β → Bool) (g : β → γ) : ∀ (l : List β) (acc : List γ), l.foldl (fun acc t => if p t then acc ++ [g t] else acc) acc = acc ++ (l.filter p).map g
  | [], acc => by simp
  | x :: l, acc => by
    rw [List.foldl_cons, fold_filter p g l]
    cases h : p x <;> simp [h]
theorem fold_flat {β γ : Type} (g : β → List γ) : ∀ (l : List β) (acc : List γ), l.foldl (fun acc t => acc ++ g t) acc = acc ++ l.flatMap g
  | [], acc => by simp
  | x :: l, acc => by rw [List.foldl_cons, fold_flat g l, List.flatMap_cons, List.append_assoc]
abbrev iD : Nat → PyData := fun i => PyData.int (i : Int)
theorem rng_map (k : Nat) : upTo 0 k = (List.range k).map iD := upTo_range k
/-! ### sizes -/
def B_needSize : List S := [(.ite (.or (.not (.chain .le .le (.cst (.int 1)) (.var 0) (.cst (.int 12)))) (.not (.chain .le .le (.cst (.int 1)) (.var 1) (.cst (.int 12))))) [(.raise 4)] [])]
def NeedOk (φ : Fs) : Prop := ∀ (h w : Int) (s : List Cell), 1 ≤ h → h ≤ 12 → 1 ≤ w → w ≤ 12 → callF φ [.d (.int h), .d (.int w)] s = .ok (.d .none) s
theorem need_ok (Φ : Phi) (n : Nat) : NeedOk (.p 2 (gP Φ n B_needSize 2)) := fun h w s h1 h2 w1 w2 => by
  refine callP rfl (vs := [.d (.int h), .d (.int w)]) rfl ?_
  simp [gP, B_needSize, startE, h1, h2, w1, w2, endP]
/-! ### how many -/
def B_many : List S := [(.ret (.bi .len (.cons (.fld (.var 0) 3) .nil)))]
def ManyOk (φ : Fs) : Prop := ∀ (ts : List Tile) (s : List Cell), callF φ [setW ts] s = .ok (.d (.int (ts.length : Int))) s
theorem many_ok (Φ : Phi) (n : Nat) : ManyOk (.p 1 (gP Φ n B_many 1)) := fun ts s => by
  refine callP rfl (vs := [setW ts]) rfl ?_
  simp [gP, B_many, startE, fldW, getN, seeAll, endP, finP]
/-! ### columns -/
abbrev B_colTile : List S := [(.ite (.or (.cmp .eq (.var 3) (.cst (.int 0))) (.meth (.var 0) 3 (.cons (.idx (.var 5) (.bin .sub (.var 3) (.cst (.int 1)))) (.cons (.var 6) .nil)))) [(.ex (.app (.var 4) (.bin .add (.var 5) (.tup (.cons (.var 6) .nil)))))] [])]
abbrev B_colCol : List S := [(.for (.n 6) (.rng1 (.meth (.var 0) 1 .nil)) B_colTile)]
abbrev B_colPlace : List S := [(.asg (.n 4) (.th (.lst .nil))), (.for (.n 5) (.seq (.var 2)) B_colCol), (.ite (.cmp .gt (.bi .len (.cons (.var 4) .nil)) (.cst (.int 500))) [(.raise 6)] []), (.asg (.n 2) (.var 4))]
def B_columns : List S := [(.ex (.call 78 (.cons (.var 1) (.cons (.cst (.int 1)) .nil)))), (.asg (.n 2) (.fr (.lst (.cons (.tup .nil) .nil)))), (.for (.n 3) (.rng1 (.var 1)) B_colPlace), (.ret (.var 2))]
theorem see_last {base : List Cell} {l : List PyData} : see (base ++ [Cell.lst l]) (.h base.length) = some (.list l) := by simp [see]
theorem get_last {base : List Cell} {c : Cell} : (base ++ [c])[base.length]? = some c := by simp
theorem set_last {base : List Cell} {c c' : Cell} : (base ++ [c]).set base.length c' = base ++ [c'] := by
  rw [List.set_append_right _ _ (Nat.le_refl _)]; simp
section
variable {Φ : Phi} {n : Nat} {γ μ : Fs}
theorem col_yes0 {T h v2 : Option W} {row : List PyData} {t : Int} {acc : List PyData} {base : List Cell} (hr : row.length ≤ 1000) (ha : acc.length < sizeLine) :
    runB Φ n B_colTile [T, h, v2, some (.d (.int 0)), some (.h base.length), some (.d (.tuple row)), some (.d (.int t))] (base ++ [.lst acc]) = .ok (.nx, [T, h, v2, some (.d (.int 0)), some (.h base.length), some (.d (.tuple row)), some (.d (.int t))]) (base ++ [.lst (acc ++ [.tuple (row ++ [.int t])])]) := by
  have sp : sizeLine = 16777216 := by decide
  have ea : binD .add (.tuple row) (.tuple [.int t]) = some (.tuple (row ++ [.int t])) := b_addT (by simp; omega)
  have z1 : (1 : Nat) ≤ sizeLine := by decide
  simp [B_colTile, isL, see_last, frzsR, frzAll, z1, ea, frzR, appW, get_last, ha, set_last]
theorem col_some {fs : List (Nat × PyData)} {h v2 : Option W} {row : List PyData} {j x t : Int} {b : Bool} {acc : List PyData} {base : List Cell} (hγ : Φ.mt 2 3 = some γ) (hj : ¬ j = 0) (hx : atD row (j - 1) = some (.int x)) (hr : row.length ≤ 1000) (ha : acc.length < sizeLine)
    (e : ∀ s, callF γ [.o 2 fs, .d (.int x), .d (.int t)] s = .ok (.d (.bool b)) s) :
    runB Φ n B_colTile [some (.o 2 fs), h, v2, some (.d (.int j)), some (.h base.length), some (.d (.tuple row)), some (.d (.int t))] (base ++ [.lst acc]) = .ok (.nx, [some (.o 2 fs), h, v2, some (.d (.int j)), some (.h base.length), some (.d (.tuple row)), some (.d (.int t))]) (base ++ [.lst (if b then acc ++ [.tuple (row ++ [.int t])] else acc)]) := by
  have sp : sizeLine = 16777216 := by decide
  have ea : binD .add (.tuple row) (.tuple [.int t]) = some (.tuple (row ++ [.int t])) := b_addT (by simp; omega)
  have z1 : (1 : Nat) ≤ sizeLine := by decide
  cases b with
  | true => simp [B_colTile, hj, clsOf, hγ, hx, e, isL, see_last, frzsR, frzAll, z1, ea, frzR, appW, get_last, ha, set_last]
  | false => simp [B_colTile, hj, clsOf, hγ, hx, e]
theorem rowD_snoc (r : List Nat) (t : Nat) : PyData.tuple ((r.map fun (i : Nat) => PyData.int (i : Int)) ++ [.int (t : Int)]) = rowD (r ++ [t]) := by unfold rowD; simp
/-- one tile tried -/
theorem col_tile (hγ : Φ.mt 2 3 = some γ) (Bl : PairOk γ belowB) {ts : List Tile} {h v2 : Option W} {row : List Nat} {t : Nat} (hr : ∀ i ∈ row, i < ts.length) (hl : row.length ≤ 12) (ht : t < ts.length) {acc : List (List Nat)} (ha : acc.length < sizeLine) {base : List Cell} :
    runB Φ n B_colTile [some (setW ts), h, v2, some (.d (.int (row.length : Int))), some (.h base.length), some (.d (rowD row)), some (.d (.int (t : Int)))] (base ++ [.lst (acc.map rowD)]) =
      .ok (.nx, [some (setW ts), h, v2, some (.d (.int (row.length : Int))), some (.h base.length), some (.d (rowD row)), some (.d (.int (t : Int)))]) (base ++ [.lst ((if fitsB ts 1 row t then acc ++ [row ++ [t]] else acc).map rowD)]) := by
  by_cases h0 : row.length = 0
  · obtain rfl := List.eq_nil_of_length_eq_zero h0
    have hf : fitsB ts 1 [] t = true := by simp [fitsB]
    rw [hf, if_pos rfl]
    have := col_yes0 (Φ := Φ) (n := n) (T := some (setW ts)) (h := h) (v2 := v2) (row := []) (t := (t : Int)) (acc := acc.map rowD) (base := base) (by simp) (by simpa using ha)
    rw [List.map_append]
    exact this
  · have hj : row.length - 1 < row.length := by omega
    have e0 : ((row.length : Int) - 1) = ((row.length - 1 : Nat) : Int) := by omega
    have hx := at_row hj
    rw [← e0] at hx
    have hb := fun s => Bl ts _ _ s (getD_lt hr hj) ht
    have hf : fitsB ts 1 row t = belowB ts (gN row (row.length - 1)) t := by
      unfold fitsB belowB
      have : ¬ row.length < 1 := by omega
      simp [Nat.mod_one, this]
    have := col_some (Φ := Φ) (n := n) (fs := [(3, rowsD ts)]) (h := h) (v2 := v2) (j := (row.length : Int)) (t := (t : Int)) (acc := acc.map rowD) (base := base) hγ (by omega) hx (by simp; omega) (by simpa using ha) hb
    rw [hf]
    rw [rowD_snoc] at this
    cases hbb : belowB ts (gN row (row.length - 1)) t with
    | true => rw [hbb] at this; rw [if_pos rfl, List.map_append]; exact this
    | false => rw [hbb] at this; exact this
theorem rng_many (hμ : Φ.mt 2 1 = some μ) (Mn : ManyOk μ) {ts : List Tile} (ht : ts.length ≤ 200) {h v2 v3 v4 v5 v6 : Option W} {s : List Cell} : runI Φ (.rng1 (.meth (.var 0) 1 .nil)) [some (setW ts), h, v2, v3, v4, v5, v6] s = .ok ((List.range ts.length).map iD) s := by
  have hsm : smallI (ts.length : Int) = true := smallI_len (Nat.le_of_lt (len_sz ht))
  have e := Mn ts s
  rw [← rng_map]
  simp only [setW] at e
  simp [clsOf, hμ, e, hsm]
/-- one column tried on -/
theorem col_row (hγ : Φ.mt 2 3 = some γ) (Bl : PairOk γ belowB) (hμ : Φ.mt 2 1 = some μ) (Mn : ManyOk μ) {ts : List Tile} (ht : ts.length ≤ 200) {h v2 o6 : Option W} {row : List Nat} (hr : ∀ i ∈ row, i < ts.length) (hl : row.length ≤ 12) {acc : List (List Nat)} (ha : acc.length ≤ 1000000) {base : List Cell} :
    ∃ o6', runB Φ n B_colCol [some (setW ts), h, v2, some (.d (.int (row.length : Int))), some (.h base.length), some (.d (rowD row)), o6] (base ++ [.lst (acc.map rowD)]) =
      .ok (.nx, [some (setW ts), h, v2, some (.d (.int (row.length : Int))), some (.h base.length), some (.d (rowD row)), o6']) (base ++ [.lst ((acc ++ extF ts 1 row).map rowD)]) := by
  have sp : sizeLine = 16777216 := by decide
  obtain ⟨ρ', s', e, o6', rfl, rfl⟩ := forK_pre (Φ := Φ) (n := n) (t := .n 6) (b := B_colTile) iD
    (fun pre ρ s => ∃ o6', ρ = [some (setW ts), h, v2, some (.d (.int (row.length : Int))), some (.h base.length), some (.d (rowD row)), o6'] ∧ s = base ++ [.lst ((acc ++ (pre.filter (fitsB ts 1 row)).map fun t => row ++ [t]).map rowD)])
    (List.range ts.length) [some (setW ts), h, v2, some (.d (.int (row.length : Int))), some (.h base.length), some (.d (rowD row)), o6] (base ++ [.lst (acc.map rowD)]) ⟨o6, rfl, by simp⟩ fun pre t post ρ s ep ⟨o6', hρ, hs⟩ => by
      subst hρ hs
      obtain ⟨_, htl, _⟩ := pre_range ep
      have hz : (acc ++ (pre.filter (fitsB ts 1 row)).map fun t => row ++ [t]).length < sizeLine := by
        have h1 := List.length_filter_le (fitsB ts 1 row) pre
        have h2 := pre_lt ep
        rw [List.length_range] at h2
        rw [List.length_append, List.length_map]
        omega
      refine ⟨_, _, _, rfl, .inl (col_tile hγ Bl hr hl htl hz), some (.d (.int (t : Int))), rfl, ?_⟩
      congr 4
      rw [List.filter_append, List.map_append]
      cases hf : fitsB ts 1 row t <;> simp [hf]
  refine ⟨o6', ?_⟩
  rw [rB_cons, rS_for, rng_many hμ Mn ht, forS_ok, e]
  rfl
theorem rng_cols {v2 : W} {T h v3 v4 v5 v6 : Option W} {l : List PyData} {s s' : List Cell} (hf : frz s v2 = some (.list l, s')) : runI Φ (.seq (.var 2)) [T, h, some v2, v3, v4, v5, v6] s = .ok l s' := by
  simp [frzR, hf]
theorem col_loop (hγ : Φ.mt 2 3 = some γ) (Bl : PairOk γ belowB) (hμ : Φ.mt 2 1 = some μ) (Mn : ManyOk μ) {ts : List Tile} (ht : ts.length ≤ 200) {h : Option W} {v2 o5 o6 : Option W} {k : Nat} (hk : k ≤ 12) {cols : List (List Nat)} (hc : ∀ r ∈ cols, r.length = k ∧ ∀ i ∈ r, i < ts.length) (hn : cols.length ≤ 500) {base : List Cell} :
    ∃ o5' o6', forK Φ n (.n 5) B_colCol (cols.map rowD) [some (setW ts), h, v2, some (.d (.int (k : Int))), some (.h base.length), o5, o6] (base ++ [.lst []]) =
      .ok (.nx, [some (setW ts), h, v2, some (.d (.int (k : Int))), some (.h base.length), o5', o6']) (base ++ [.lst ((cols.flatMap (extF ts 1)).map rowD)]) := by
  obtain ⟨ρ', s', e, o5', o6', rfl, rfl⟩ := forK_pre (Φ := Φ) (n := n) (t := .n 5) (b := B_colCol) rowD
    (fun pre ρ s => ∃ o5' o6', ρ = [some (setW ts), h, v2, some (.d (.int (k : Int))), some (.h base.length), o5', o6'] ∧ s = base ++ [.lst ((pre.flatMap (extF ts 1)).map rowD)])
    cols [some (setW ts), h, v2, some (.d (.int (k : Int))), some (.h base.length), o5, o6] (base ++ [.lst []]) ⟨o5, o6, rfl, rfl⟩ fun pre row post ρ s ep ⟨o5', o6', hρ, hs⟩ => by
      subst hρ hs
      obtain ⟨hl, hr⟩ := hc row (pre_mem ep)
      have hz : (pre.flatMap (extF ts 1)).length ≤ 1000000 := by
        have h1 := flat_len (ts := ts) (w := 1) pre
        have h2 := pre_lt ep
        have h3 : pre.length * ts.length ≤ 500 * 200 := Nat.mul_le_mul (by omega) ht
        omega
      obtain ⟨o6'', e⟩ := col_row (n := n) hγ Bl hμ Mn ht (h := h) (v2 := v2) (o6 := o6') hr (by omega) hz (base := base)
      rw [hl] at e
      refine ⟨_, _, _, rfl, .inl e, some (.d (rowD row)), o6'', rfl, ?_⟩
      rw [List.flatMap_append]
      simp
  exact ⟨o5', o6', e⟩
theorem col_tail {T h v2 v3 v5 v6 : Option W} {l : List PyData} {base : List Cell} (hl : l.length ≤ 500) :
    runB Φ n [(.ite (.cmp .gt (.bi .len (.cons (.var 4) .nil)) (.cst (.int 500))) [(.raise 6)] []), (.asg (.n 2) (.var 4))] [T, h, v2, v3, some (.h base.length), v5, v6] (base ++ [.lst l]) = .ok (.nx, [T, h, some (.h base.length), v3, some (.h base.length), v5, v6]) (base ++ [.lst l]) := by
  have z : ¬ (500 : Int) < (l.length : Int) := by omega
  simp [seeAll, see_last, z, asgT]
/-- one place more -/
theorem col_place (hγ : Φ.mt 2 3 = some γ) (Bl : PairOk γ belowB) (hμ : Φ.mt 2 1 = some μ) (Mn : ManyOk μ) {ts : List Tile} (ht : ts.length ≤ 200) {h : Option W} {v2 : W} {o4 o5 o6 : Option W} {k : Nat} (hk : k ≤ 12) {cols : List (List Nat)} (hc : ∀ r ∈ cols, r.length = k ∧ ∀ i ∈ r, i < ts.length) (hn : cols.length ≤ 500) (hm : (cols.flatMap (extF ts 1)).length ≤ 500) {s base : List Cell}
    (hf : frz (s ++ [.lst []]) v2 = some (.list (cols.map rowD), base ++ [.lst []])) (hb : base.length = s.length) :
    ∃ o5' o6', runB Φ n B_colPlace [some (setW ts), h, some v2, some (.d (.int (k : Int))), o4, o5, o6] s =
      .ok (.nx, [some (setW ts), h, some (.h base.length), some (.d (.int (k : Int))), some (.h base.length), o5', o6']) (base ++ [.lst ((cols.flatMap (extF ts 1)).map rowD)]) := by
  obtain ⟨o5', o6', e⟩ := col_loop (n := n) hγ Bl hμ Mn ht (h := h) (v2 := some v2) (o5 := o5) (o6 := o6) hk hc hn (base := base)
  refine ⟨o5', o6', ?_⟩
  have z0 : (0 : Nat) ≤ sizeLine := Nat.zero_le _
  have e1 : runS Φ n (.asg (.n 4) (.th (.lst .nil))) [some (setW ts), h, some v2, some (.d (.int (k : Int))), o4, o5, o6] s = .ok (.nx, [some (setW ts), h, some v2, some (.d (.int (k : Int))), some (.h base.length), o5, o6]) (s ++ [.lst []]) := by
    rw [hb]
    exact set_n (by simp [frzsR, frzAll])
  unfold B_colPlace
  rw [step1 e1]
  have e2 : runS Φ n (.for (.n 5) (.seq (.var 2)) B_colCol) [some (setW ts), h, some v2, some (.d (.int (k : Int))), some (.h base.length), o5, o6] (s ++ [.lst []]) = .ok (.nx, [some (setW ts), h, some v2, some (.d (.int (k : Int))), some (.h base.length), o5', o6']) (base ++ [.lst ((cols.flatMap (extF ts 1)).map rowD)]) := by
    rw [rS_for, rng_cols hf, forS_ok, e]
  rw [step1 e2]
  exact col_tail (by simpa using hm)
/-- all columns so high -/
theorem col_all (hγ : Φ.mt 2 3 = some γ) (Bl : PairOk γ belowB) (hμ : Φ.mt 2 1 = some μ) (Mn : ManyOk μ) {ts : List Tile} (ht : ts.length ≤ 200) {H : Nat} (hH : H ≤ 12) (hm : ∀ k, k ≤ H → (layF ts 1 k).length ≤ 500) {h o3 o4 o5 o6 : Option W} :
    ∃ (v2 : W) (o3' o4' o5' o6' : Option W) (s : List Cell), forK Φ n (.n 3) B_colPlace (upTo 0 H) [some (setW ts), h, some (.d (.list [.tuple []])), o3, o4, o5, o6] [] = .ok (.nx, [some (setW ts), h, some v2, o3', o4', o5', o6']) s ∧
      (H = 0 ∨ ∃ base, v2 = .h base.length ∧ s = base ++ [.lst ((layF ts 1 H).map rowD)]) := by
  rw [rng_map]
  obtain ⟨ρ', s', e, v2, o3', o4', o5', o6', rfl, hv⟩ := forK_pre (Φ := Φ) (n := n) (t := .n 3) (b := B_colPlace) iD
    (fun pre ρ s => ∃ (v2 : W) (o3' o4' o5' o6' : Option W), ρ = [some (setW ts), h, some v2, o3', o4', o5', o6'] ∧ ((pre.length = 0 ∧ v2 = .d (.list [.tuple []]) ∧ s = []) ∨ ∃ base, v2 = .h base.length ∧ s = base ++ [.lst ((layF ts 1 pre.length).map rowD)]))
    (List.range H) [some (setW ts), h, some (.d (.list [.tuple []])), o3, o4, o5, o6] [] ⟨_, o3, o4, o5, o6, rfl, .inl ⟨rfl, rfl, rfl⟩⟩ fun pre k post ρ s ep ⟨v2, o3', o4', o5', o6', hρ, hv⟩ => by
      subst hρ
      obtain ⟨hk, hkl, _⟩ := pre_range ep
      rw [← hk] at hv
      have hcols : ∀ r ∈ layF ts 1 k, r.length = k ∧ ∀ i ∈ r, i < ts.length := fun r hr => layF_mem hr
      have key : ∃ base, frz (s ++ [.lst []]) v2 = some (.list ((layF ts 1 k).map rowD), base ++ [.lst []]) ∧ base.length = s.length := by
        rcases hv with ⟨h0, rfl, rfl⟩ | ⟨base, rfl, rfl⟩
        · refine ⟨[], ?_, rfl⟩
          subst h0
          rfl
        · refine ⟨base ++ [.fzl ((layF ts 1 k).map rowD)], ?_, by simp⟩
          have q : (base ++ [Cell.lst ((layF ts 1 k).map rowD)] ++ [Cell.lst []])[base.length]? = some (.lst ((layF ts 1 k).map rowD)) := by simp
          unfold frz
          simp only [q]
          congr 1
          simp [List.set_append_right]
      obtain ⟨base, hf, hb⟩ := key
      obtain ⟨o5'', o6'', e⟩ := col_place (n := n) hγ Bl hμ Mn ht (h := h) (v2 := v2) (o4 := o4') (o5 := o5') (o6 := o6') (by omega) hcols (hm k (by omega)) (hm (k + 1) (by omega)) hf hb
      refine ⟨_, _, _, rfl, .inl e, _, _, _, _, _, rfl, .inr ⟨base, rfl, ?_⟩⟩
      rw [List.length_append, List.length_singleton, ← hk]
      rfl
  rw [List.length_range] at hv
  refine ⟨v2, o3', o4', o5', o6', s', e, ?_⟩
  rcases hv with ⟨h0, _, _⟩ | h
  · exact .inl h0
  · exact .inr h
def ColumnsOk (φ : Fs) : Prop := ∀ (ts : List Tile) (h : Nat) (s : List Cell), ts.length ≤ 200 → 1 ≤ h → h ≤ 12 → (∀ k, k ≤ h → (layF ts 1 k).length ≤ 500) → callX φ [setW ts, .d (.int h)] s = .ok (.l ((layF ts 1 h).map rowD)) s
theorem col_head {φ : Fs} (h78 : Φ.fn 78 = some φ) {T : W} {h : Int} {o2 o3 o4 o5 o6 : Option W} {rest : List S} (e : callF φ [.d (.int h), .d (.int 1)] [] = .ok (.d .none) []) (hsm : smallI h = true) {H : Nat} (hH : h.toNat = H) {b : List S} :
    runB Φ n ((.ex (.call 78 (.cons (.var 1) (.cons (.cst (.int 1)) .nil)))) :: (.asg (.n 2) (.fr (.lst (.cons (.tup .nil) .nil)))) :: (.for (.n 3) (.rng1 (.var 1)) b) :: rest) [some T, some (.d (.int h)), o2, o3, o4, o5, o6] [] = R.sq (forK Φ n (.n 3) b (upTo 0 H) [some T, some (.d (.int h)), some (.d (.list [.tuple []])), o3, o4, o5, o6] []) (runB Φ n rest) := by
  have z0 : (0 : Nat) ≤ sizeLine := Nat.zero_le _
  have z1 : (1 : Nat) ≤ sizeLine := by decide
  have e1 : runS Φ n (.ex (.call 78 (.cons (.var 1) (.cons (.cst (.int 1)) .nil)))) [some T, some (.d (.int h)), o2, o3, o4, o5, o6] [] = .ok (.nx, [some T, some (.d (.int h)), o2, o3, o4, o5, o6]) [] := by simp [h78, e]
  have e2 : runS Φ n (.asg (.n 2) (.fr (.lst (.cons (.tup .nil) .nil)))) [some T, some (.d (.int h)), o2, o3, o4, o5, o6] [] = .ok (.nx, [some T, some (.d (.int h)), some (.d (.list [.tuple []])), o3, o4, o5, o6]) [] := set_n (by simp [frzsR, frzAll, z0, z1])
  rw [step1 e1, step1 e2, rB_cons, rS_for, rng_var (j := h) rfl hsm, hH, forS_ok]
theorem columns_ok {φ : Fs} (h78 : Φ.fn 78 = some φ) (Ne : NeedOk φ) (hγ : Φ.mt 2 3 = some γ) (Bl : PairOk γ belowB) (hμ : Φ.mt 2 1 = some μ) (Mn : ManyOk μ) : ColumnsOk (.p 2 (gP Φ n B_columns 7)) := fun ts h s ht h1 h2 hm => by
  obtain ⟨v2, o3', o4', o5', o6', s', e, hv⟩ := col_all (n := n) hγ Bl hμ Mn ht h2 hm (h := some (.d (.int (h : Int)))) (o3 := none) (o4 := none) (o5 := none) (o6 := none)
  refine callXF rfl (vs := [setW ts, .d (.int h)]) rfl ?_
  rcases hv with h0 | ⟨base, rfl, rfl⟩
  · omega
  · have sp : sizeLine = 16777216 := by decide
    show endP (runB Φ n B_columns [some (setW ts), some (.d (.int (h : Int))), none, none, none, none, none] []) = _
    unfold B_columns
    rw [col_head h78 (Ne _ _ [] (by omega) (by omega) (by omega) (by omega)) (smallI_len (by omega)) (Int.toNat_natCast h), e, R.sq_nx]
    have q : finP (.h base.length) (base ++ [Cell.lst ((layF ts 1 h).map rowD)]) = some (.fresh ((layF ts 1 h).map rowD)) := by
      unfold finP
      simp only [get_last]
    rw [rB_cons, rS_ret]
    exact q
end
end DM

set_option maxRecDepth 100000
/-! K01b: sets refused. -/
namespace DM
open PySem
section
variable {Φ : Phi} {n : Nat}
theorem closedS_mono {j k : Nat} (h : j ≤ k) {s : List Cell} (c : closedS j s = true) : closedS k s = true := by
  unfold closedS at *
  rw [List.all_eq_true] at *
  intro x hx
  have := c x hx
  cases x with
  | ins c fs =>
    simp only [closedC, List.all_eq_true] at this ⊢
    intro p hp
    have := this p hp
    cases e : p.2 with
    | h i =>
      rw [e] at this
      simp only [closedW, decide_eq_true_eq] at this ⊢
      omega
    | _ => rfl
  | _ => rfl
theorem closed_push {s : List Cell} (h : closedS s.length s = true) {c : Cell} (hc : closedC (s.length + 1) c = true) : closedS (s.length + 1) (s ++ [c]) = true := by
  have := closedS_mono (Nat.le_succ s.length) h
  unfold closedS at *
  rw [List.all_append, this]
  simp [hc]
/-- a loop whose turn at x raises -/
theorem forK_ex0 {β : Type} {t : Tg} {b : List S} {z : Xc} {x : β} {post : List β} (d : β → PyData) (I : List β → Env → List Cell → Prop) (Fin : List Cell → Prop) : ∀ (pre done : List β) (ρ : Env) (s : List Cell), I done ρ s →
    (∀ p y q ρ s, pre = p ++ y :: q → I (done ++ p) ρ s → ∃ ρ1 ρ' s', asgT ρ t (.d (d y)) = some ρ1 ∧ runB Φ n b ρ1 s = .ok (.nx, ρ') s' ∧ I (done ++ p ++ [y]) ρ' s') →
    (∀ ρ s, I (done ++ pre) ρ s → ∃ ρ1 ρ' s', asgT ρ t (.d (d x)) = some ρ1 ∧ runB Φ n b ρ1 s = .ok (.ex z, ρ') s' ∧ Fin s') →
    ∃ ρ' s', forK Φ n t b ((pre ++ x :: post).map d) ρ s = .ok (.ex z, ρ') s' ∧ Fin s'
  | [], done, ρ, s, h, _, hx => by
    obtain ⟨ρ1, ρ', s', e1, e2, hf⟩ := hx ρ s (by simpa using h)
    refine ⟨ρ', s', ?_, hf⟩
    rw [List.nil_append, List.map_cons, forK_cons, e1]
    simp only
    rw [e2, R.lp_xx]
  | y :: pre, done, ρ, s, h, st, hx => by
    obtain ⟨ρ1, ρ2, s2, e1, e2, h2⟩ := st [] y pre ρ s rfl (by simpa using h)
    obtain ⟨ρ', s', e3, hf⟩ := forK_ex0 (post := post) d I Fin pre (done ++ [y]) ρ2 s2 (by simpa using h2) (fun p u q ρ s e hi => by
      obtain ⟨ρ1, ρ', s', q1, q2, q3⟩ := st (y :: p) u q ρ s (by rw [e]; rfl) (by simpa using hi)
      exact ⟨ρ1, ρ', s', q1, q2, by simpa using q3⟩) (fun ρ s hi => hx ρ s (by simpa using hi))
    refine ⟨ρ', s', ?_, hf⟩
    rw [List.cons_append, List.map_cons, forK_cons, e1]
    simp only
    rw [e2, R.lp_nx]
    exact e3
theorem forK_ex {β : Type} {t : Tg} {b : List S} {z : Xc} {x : β} {pre post : List β} {ρ : Env} {s : List Cell} (d : β → PyData) (I : List β → Env → List Cell → Prop) (Fin : List Cell → Prop) (h : I [] ρ s)
    (st : ∀ p y q ρ s, pre = p ++ y :: q → I p ρ s → ∃ ρ1 ρ' s', asgT ρ t (.d (d y)) = some ρ1 ∧ runB Φ n b ρ1 s = .ok (.nx, ρ') s' ∧ I (p ++ [y]) ρ' s')
    (hx : ∀ ρ s, I pre ρ s → ∃ ρ1 ρ' s', asgT ρ t (.d (d x)) = some ρ1 ∧ runB Φ n b ρ1 s = .ok (.ex z, ρ') s' ∧ Fin s') : ∃ ρ' s', forK Φ n t b ((pre ++ x :: post).map d) ρ s = .ok (.ex z, ρ') s' ∧ Fin s' :=
  forK_ex0 d I Fin pre [] ρ s h (fun p y q ρ s e hi => by simpa using st p y q ρ s e (by simpa using hi)) (fun ρ s hi => hx ρ s (by simpa using hi))
theorem first_bad {β : Type} (P : β → Prop) : ∀ l : List β, (∀ x ∈ l, P x) ∨ ∃ pre x post, l = pre ++ x :: post ∧ (∀ y ∈ pre, P y) ∧ ¬ P x
  | [] => .inl fun x hx => by cases hx
  | a :: l => by
    by_cases ha : P a
    · rcases first_bad P l with h | ⟨pre, x, post, e, h1, h2⟩
      · exact .inl fun x hx => by
          rcases List.mem_cons.mp hx with rfl | hx
          · exact ha
          · exact h x hx
      · exact .inr ⟨a :: pre, x, post, by rw [e]; rfl, fun y hy => by
          rcases List.mem_cons.mp hy with rfl | hy
          · exact ha
          · exact h1 y hy, h2⟩
    · exact .inr ⟨[], a, l, rfl, (fun y hy => by cases hy), ha⟩
/-! ### Tiles, made -/
abbrev marks (t : Tile) : List Int := [t.n, t.e, t.s, t.w]
theorem tile_d (t : Tile) : t.d = .tuple ((marks t).map .int) := rfl
theorem ok_marks (t : Tile) : t.ok ↔ ∀ x ∈ marks t, MkOk x := by
  unfold Tile.ok marks
  simp
abbrev xMark (j : Nat) : Xc := ⟨0, [(1, .str "mark"), (0, .int (j : Int))]⟩
abbrev xMany : Xc := ⟨0, [(1, .str "many"), (0, .int 0)]⟩
abbrev E_tiC : E := .or (.cmp .lt (.var 3) (.cst (.int 0))) (.cmp .ge (.var 3) (.cst (.int 1000000000000)))
theorem tiC_T {a b c : Option W} {x : Int} {s : List Cell} (h : ¬ MkOk x) : runE Φ E_tiC [a, b, c, some (.d (.int x))] s = .ok (.d (.bool true)) s := by
  unfold MkOk at h
  by_cases h1 : x < 0
  · simp [h1]
  · have h3 : 1000000000000 ≤ x := by omega
    simp [h1, h3]
theorem tiC_F {a b c : Option W} {x : Int} {s : List Cell} (h : MkOk x) : runE Φ E_tiC [a, b, c, some (.d (.int x))] s = .ok (.d (.bool false)) s := by
  unfold MkOk at h
  have h1 : ¬ x < 0 := by omega
  have h3 : ¬ 1000000000000 ≤ x := by omega
  simp [h1, h3]
theorem tiIn_ok {a b c : Option W} {x : Int} {s : List Cell} (h : MkOk x) : runB Φ n B_tiIn [a, b, c, some (.d (.int x))] s = .ok (.nx, [a, b, c, some (.d (.int x))]) s := by
  rw [rB_cons, ite_F (tiC_F h), rB_nil, R.sq_nx, rB_nil]
theorem tiIn_bad {a b : Option W} {j : Nat} {x : Int} {s : List Cell} (hx : Φ.hx.xi 0 = some [0, 1]) (h : ¬ MkOk x) : runB Φ n B_tiIn [a, b, some (.d (.int (j : Int))), some (.d (.int x))] s = .ok (.ex (xMark j), [a, b, some (.d (.int (j : Int))), some (.d (.int x))]) s := by
  rw [rB_cons, ite_T (tiC_T h), rB_cons, rS_raiseA, hx]
  rfl
theorem tmarks_ok {a b c d : Option W} {s : List Cell} {t : Tile} (ht : t.ok) : ∃ d', forK Φ n (.n 3) B_tiIn ((marks t).map .int) [a, b, c, d] s = .ok (.nx, [a, b, c, d']) s := by
  obtain ⟨ρ', s', e, d', rfl, rfl⟩ := forK_pre (Φ := Φ) (n := n) (t := .n 3) (b := B_tiIn) PyData.int (fun _ ρ s' => ∃ d', ρ = [a, b, c, d'] ∧ s' = s) (marks t) [a, b, c, d] s ⟨d, rfl, rfl⟩ fun pre x post ρ s1 ep ⟨d', hρ, hs⟩ => by
    subst hρ hs
    exact ⟨_, _, _, rfl, .inl (tiIn_ok ((ok_marks t).mp ht x (pre_mem ep))), _, rfl, rfl⟩
  exact ⟨d', e⟩
theorem marks_bad {a b d : Option W} {j : Nat} {s : List Cell} {t : Tile} (hx : Φ.hx.xi 0 = some [0, 1]) (ht : ¬ t.ok) : ∃ ρ', forK Φ n (.n 3) B_tiIn ((marks t).map .int) [a, b, some (.d (.int (j : Int))), d] s = .ok (.ex (xMark j), ρ') s := by
  rcases first_bad MkOk (marks t) with h | ⟨pre, x, post, e, h1, h2⟩
  · exact absurd ((ok_marks t).mpr h) ht
  · rw [e]
    obtain ⟨ρ', s', q, rfl⟩ := forK_ex (Φ := Φ) (n := n) (t := .n 3) (b := B_tiIn) (z := xMark j) (x := x) (pre := pre) (post := post) (ρ := [a, b, some (.d (.int (j : Int))), d]) (s := s) PyData.int (fun _ ρ s' => ∃ d', ρ = [a, b, some (.d (.int (j : Int))), d'] ∧ s' = s) (fun s' => s' = s) ⟨d, rfl, rfl⟩
      (fun p y q ρ s1 ep ⟨d', hρ, hs⟩ => by
        subst hρ hs
        exact ⟨_, _, _, rfl, tiIn_ok (h1 y (pre_mem ep)), _, rfl, rfl⟩)
      (fun ρ s1 ⟨d', hρ, hs⟩ => by
        subst hρ hs
        exact ⟨_, _, _, rfl, tiIn_bad hx h2, rfl⟩)
    exact ⟨ρ', q⟩
abbrev B_tiTurn : List S := [(.for (.n 3) (.seq (.idx (.var 1) (.var 2))) B_tiIn)]
theorem tiTurn_I {a d : Option W} {w : W} {s : List Cell} {ts : List Tile} (hw : see s w = some (rowsD ts)) {j : Nat} {t : Tile} (hj : ts[j]? = some t) : runI Φ (.seq (.idx (.var 1) (.var 2))) [a, some w, some (.d (.int (j : Int))), d] s = .ok ((marks t).map .int) s := by
  have hl := (List.getElem?_eq_some_iff.mp hj).1
  have ha : atD (ts.map Tile.d) (j : Int) = some t.d := atD_nat (by omega) (by
    rw [Int.toNat_natCast, List.getElem?_map, hj]; rfl)
  have e : runE Φ (.idx (.var 1) (.var 2)) [a, some w, some (.d (.int (j : Int))), d] s = .ok (.d t.d) s := by
    rw [rE_idx, rE_var]
    simp only [List.getElem?_cons_succ, List.getElem?_cons_zero, R.bind_ok, rE_var, ii, hw, rowsD, ha]
    rfl
  rw [rI_seq, e]
  rfl
theorem tiTurn_ok {a d : Option W} {w : W} {s : List Cell} {ts : List Tile} (hw : see s w = some (rowsD ts)) {j : Nat} {t : Tile} (hj : ts[j]? = some t) (ht : t.ok) : ∃ d', runB Φ n B_tiTurn [a, some w, some (.d (.int (j : Int))), d] s = .ok (.nx, [a, some w, some (.d (.int (j : Int))), d']) s := by
  obtain ⟨d', e⟩ := tmarks_ok (Φ := Φ) (n := n) (a := a) (b := some w) (c := some (.d (.int (j : Int)))) (d := d) (s := s) ht
  refine ⟨d', ?_⟩
  rw [rB_cons, rS_for, tiTurn_I hw hj, forS_ok, e, R.sq_nx, rB_nil]
theorem tiTurn_bad {a d : Option W} {w : W} {s : List Cell} {ts : List Tile} (hx : Φ.hx.xi 0 = some [0, 1]) (hw : see s w = some (rowsD ts)) {j : Nat} {t : Tile} (hj : ts[j]? = some t) (ht : ¬ t.ok) : ∃ ρ', runB Φ n B_tiTurn [a, some w, some (.d (.int (j : Int))), d] s = .ok (.ex (xMark j), ρ') s := by
  obtain ⟨ρ', e⟩ := marks_bad (Φ := Φ) (n := n) (a := a) (b := some w) (j := j) (d := d) (s := s) hx ht
  refine ⟨ρ', ?_⟩
  rw [rB_cons, rS_for, tiTurn_I hw hj, forS_ok, e]
  rfl
/-- Tiles(..), a live instance -/
structure TinM (ψ : Ms) : Prop where
  good : ∀ (ts : List Tile) (s : List Cell) (w : W), see (s ++ [.ins 2 []]) w = some (rowsD ts) → 1 ≤ ts.length → ts.length ≤ 200 → (∀ t ∈ ts, t.ok) → closedS s.length s = true → mkF ψ 2 [w] s = .ok (.h s.length) (s ++ [.ins 2 [(3, .d (rowsD ts))]])
  many : ∀ (ts : List Tile) (s : List Cell) (w : W), see (s ++ [.ins 2 []]) w = some (rowsD ts) → (ts.length = 0 ∨ 200 < ts.length) → closedS s.length s = true → mkF ψ 2 [w] s = .ex xMany (s ++ [.ins 2 []])
  mark : ∀ (ts : List Tile) (s : List Cell) (w : W) (j : Nat) (t : Tile), see (s ++ [.ins 2 []]) w = some (rowsD ts) → 1 ≤ ts.length → ts.length ≤ 200 → (∀ i u, i < j → ts[i]? = some u → u.ok) → ts[j]? = some t → ¬ t.ok → closedS s.length s = true → mkF ψ 2 [w] s = .ex (xMark j) (s ++ [.ins 2 []])
abbrev E_len1 : E := .bi .len (.cons (.var 1) .nil)
theorem len_run {a c d : Option W} {w : W} {s : List Cell} {ts : List Tile} (hw : see s w = some (rowsD ts)) : runE Φ E_len1 [a, some w, c, d] s = .ok (.d (.int (ts.length : Int))) s := by
  have hb : biD .len [rowsD ts] = some (.int (ts.length : Int)) := by
    show some (PyData.int (((ts.map Tile.d).length : Nat) : Int)) = _
    rw [List.length_map]
  rw [rE_bi, rEs_cons, rE_var]
  show R.bind (R.bind (R.ok w s) _) _ = _
  rw [R.bind_ok, rEs_nil]
  show R.bind (R.ok [w] s) _ = _
  rw [R.bind_ok]
  simp only [seeAll, hw]
  show lift ((biD .len [rowsD ts]).map W.d) s = _
  rw [hb]
  rfl
theorem tiL_T {X : E} {ρ : Env} {s : List Cell} {m : Int} (hl : runE Φ X ρ s = .ok (.d (.int m)) s) (h : m < 1 ∨ 200 < m) : runE Φ (.or (.cmp .lt X (.cst (.int 1))) (.cmp .gt X (.cst (.int 200)))) ρ s = .ok (.d (.bool true)) s := by
  by_cases h1 : m < 1
  · simp [hl, h1]
  · have h2 : 200 < m := by omega
    simp [hl, h1, h2]
theorem tiL_F {X : E} {ρ : Env} {s : List Cell} {m : Int} (hl : runE Φ X ρ s = .ok (.d (.int m)) s) (h1 : ¬ m < 1) (h2 : ¬ 200 < m) : runE Φ (.or (.cmp .lt X (.cst (.int 1))) (.cmp .gt X (.cst (.int 200)))) ρ s = .ok (.d (.bool false)) s := by
  simp [hl, h1, h2]
theorem rng1_m {X : E} {ρ : Env} {s : List Cell} {m : Int} (e : runE Φ X ρ s = .ok (.d (.int m)) s) (h : smallI m = true) : runI Φ (.rng1 X) ρ s = .ok (upTo 0 m.toNat) s := by
  rw [rI_rng1, e]
  show (if smallI m = true then R.ok (upTo 0 m.toNat) s else R.no) = _
  rw [if_pos h]
theorem tin_tail {a c d : Option W} {w : W} {s : List Cell} {ts : List Tile} (hw : see s w = some (rowsD ts)) (h : ts.length ≤ 200) : runI Φ (.rng1 E_len1) [a, some w, c, d] s = .ok ((List.range ts.length).map iD) s := by
  refine (rng1_m (len_run hw) (smallI_len (Nat.le_trans h (by decide)))).trans ?_
  rw [Int.toNat_natCast, rng_map]
theorem tin_ok (hh : Φ.has 2 3 = true) (hx : Φ.hx.xi 0 = some [0, 1]) : TinM (.m 1 (gM Φ n B_Tinit 4 0)) := by
  have fin : ∀ {s : List Cell} {w : W} {r : RS} (e : runB Φ n B_Tinit (startE 4 [W.h s.length, w]) (s ++ [.ins 2 []]) = r), mkF (.m 1 (gM Φ n B_Tinit 4 0)) 2 [w] s = (endM (s ++ [Cell.ins 2 []]).length r).bind fun r s' => match r with | .w (.d .none) => .ok (.h s.length) s' | _ => .no := fun {s w r} e => by
    unfold mkF
    simp only [List.length_cons, List.length_nil, if_true, gM, Nat.add_zero]
    rw [e] <;> rfl
  have len1 : ∀ s : List Cell, ∀ c : Cell, (s ++ [c]).length = s.length + 1 := fun s c => by simp
  have exE : ∀ {s : List Cell} {w : W} {z : Xc} {ρ' : Env}, closedS s.length s = true → runB Φ n B_Tinit (startE 4 [W.h s.length, w]) (s ++ [.ins 2 []]) = .ok (.ex z, ρ') (s ++ [.ins 2 []]) → mkF (.m 1 (gM Φ n B_Tinit 4 0)) 2 [w] s = .ex z (s ++ [.ins 2 []]) := fun {s w z ρ'} hc e => by
    rw [fin e]
    simp only [endM, List.take_length]
    rw [len1, closed_push hc rfl]
    simp
  refine ⟨fun ts s w hw h0 h1 ht hc => ?_, fun ts s w hw h hc => ?_, fun ts s w j t hw h0 h1 hpre hj ht hc => ?_⟩
  · have c0 := tiL_F (Φ := Φ) (len_run (Φ := Φ) (a := some (.h s.length)) (c := none) (d := none) hw) (by omega) (by omega)
    obtain ⟨ρ', s', e, c, d, rfl, rfl⟩ := forK_pre (Φ := Φ) (n := n) (t := .n 2) (b := B_tiTurn) iD (fun _ ρ s' => ∃ c d, ρ = [some (.h s.length), some w, c, d] ∧ s' = s ++ [.ins 2 []]) (List.range ts.length) [some (.h s.length), some w, none, none] (s ++ [.ins 2 []]) ⟨none, none, rfl, rfl⟩ fun pre x post ρ s1 ep ⟨c, d, hρ, hs⟩ => by
      subst hρ hs
      obtain ⟨_, hxl, _⟩ := pre_range ep
      obtain ⟨d', e⟩ := tiTurn_ok (Φ := Φ) (n := n) (a := some (.h s.length)) (d := d) hw (List.getElem?_eq_getElem hxl) (ht _ (List.getElem_mem hxl))
      exact ⟨_, _, _, rfl, .inl e, _, _, rfl, rfl⟩
    have e3 : runS Φ n (.setF (.var 0) 3 (.fr (.list (.var 1)))) [some (.h s.length), some w, c, d] (s ++ [.ins 2 []]) = .ok (.nx, [some (.h s.length), some w, c, d]) (s ++ [.ins 2 [(3, .d (rowsD ts))]]) := by
      simp [hw, seqOf, setFW, hh, putN]
    have key : runB Φ n B_Tinit (startE 4 [W.h s.length, w]) (s ++ [.ins 2 []]) = .ok (.nx, [some (.h s.length), some w, c, d]) (s ++ [.ins 2 [(3, .d (rowsD ts))]]) := by
      unfold B_Tinit
      show runB Φ n _ [some (.h s.length), some w, none, none] (s ++ [.ins 2 []]) = _
      rw [rB_cons, ite_F c0, rB_nil, R.sq_nx, rB_cons, rS_for, tin_tail hw h1, forS_ok, e, R.sq_nx, rB_cons, e3]
      rfl
    rw [fin key]
    have hc' : closedS (s.length + 1) (s ++ [Cell.ins 2 [(3, .d (rowsD ts))]]) = true := closed_push hc rfl
    have ht' : (s ++ [Cell.ins 2 [(3, .d (rowsD ts))]]).take (s ++ [Cell.ins 2 []]).length = s ++ [Cell.ins 2 [(3, .d (rowsD ts))]] := List.take_of_length_le (by simp)
    simp only [endM, finM]
    rw [ht', len1, hc']
    simp
  · have c0 := tiL_T (Φ := Φ) (len_run (Φ := Φ) (a := some (.h s.length)) (c := none) (d := none) hw) (by omega)
    refine exE hc (ρ' := [some (.h s.length), some w, none, none]) ?_
    unfold B_Tinit
    show runB Φ n _ [some (.h s.length), some w, none, none] (s ++ [.ins 2 []]) = _
    rw [rB_cons, ite_T c0, rB_cons, rS_raiseA, hx]
    rfl
  · have c0 := tiL_F (Φ := Φ) (len_run (Φ := Φ) (a := some (.h s.length)) (c := none) (d := none) hw) (by omega) (by omega)
    have hjl := (List.getElem?_eq_some_iff.mp hj).1
    have er : List.range ts.length = List.range j ++ j :: (List.range ts.length).drop (j + 1) := by
      have e1 := (List.take_append_drop j (List.range ts.length)).symm
      rw [List.take_range, Nat.min_eq_left (by omega)] at e1
      rw [List.drop_eq_getElem_cons (by simpa using hjl), List.getElem_range] at e1
      exact e1
    obtain ⟨ρ', s', e, rfl⟩ := forK_ex (Φ := Φ) (n := n) (t := .n 2) (b := B_tiTurn) (z := xMark j) (x := j) (pre := List.range j) (post := (List.range ts.length).drop (j + 1)) (ρ := [some (.h s.length), some w, none, none]) (s := s ++ [.ins 2 []]) iD (fun _ ρ s' => ∃ c d, ρ = [some (.h s.length), some w, c, d] ∧ s' = s ++ [.ins 2 []]) (fun s' => s' = s ++ [.ins 2 []]) ⟨none, none, rfl, rfl⟩
      (fun p y q ρ s1 ep ⟨c, d, hρ, hs⟩ => by
        subst hρ hs
        obtain ⟨_, hyl, _⟩ := pre_range ep
        have hy : y < ts.length := by omega
        obtain ⟨d', e⟩ := tiTurn_ok (Φ := Φ) (n := n) (a := some (.h s.length)) (d := d) hw (List.getElem?_eq_getElem hy) (hpre y _ hyl (List.getElem?_eq_getElem hy))
        exact ⟨_, _, _, rfl, e, _, _, rfl, rfl⟩)
      (fun ρ s1 ⟨c, d, hρ, hs⟩ => by
        subst hρ hs
        obtain ⟨ρ', e⟩ := tiTurn_bad (Φ := Φ) (n := n) (a := some (.h s.length)) (d := d) hx hw hj ht
        exact ⟨_, _, _, rfl, e, rfl⟩)
    refine exE hc (ρ' := ρ') ?_
    unfold B_Tinit
    show runB Φ n _ [some (.h s.length), some w, none, none] (s ++ [.ins 2 []]) = _
    rw [rB_cons, ite_F c0, rB_nil, R.sq_nx, rB_cons, rS_for, tin_tail hw h1, forS_ok, er, e]
    rfl
end
end DM

set_option maxRecDepth 100000
/-! K01e: the law k01. -/
namespace DM
open PySem
section
variable {Φ : Phi} {n : Nat}
/-! ### the live instance's methods -/
def TtilesM (φ : Fs) : Prop := ∀ (ts : List Tile) (s : List Cell) (i : Nat), s[i]? = some (.ins 2 [(3, .d (rowsD ts))]) → closedS s.length s = true → callX φ [.h i] s = .ok (.l (ts.map Tile.d)) s
def TmanyM (φ : Fs) : Prop := ∀ (ts : List Tile) (s : List Cell) (i : Nat), s[i]? = some (.ins 2 [(3, .d (rowsD ts))]) → closedS s.length s = true → callX φ [.h i] s = .ok (.w (.d (.int (ts.length : Int)))) s
theorem fld3 {ts : List Tile} {s : List Cell} {i : Nat} (h : s[i]? = some (.ins 2 [(3, .d (rowsD ts))])) : runE Φ (.fld (.var 0) 3) [some (.h i)] s = .ok (.d (rowsD ts)) s := by
  rw [rE_fld, rE_var]
  show lift (fldW s 3 (.h i)) s = _
  simp only [fldW, h]
  rfl
def B_TtilesT : List S := [(.ret (.th (.list (.fld (.var 0) 3))))]
theorem ttilesM_ok : TtilesM (.m 1 (gM Φ n B_TtilesT 1 0)) := fun ts s i h hc => by
  have e : runF Φ (.list (.fld (.var 0) 3)) [some (.h i)] s = .ok (ts.map Tile.d) s := by
    rw [rF_list, fld3 h]
    rfl
  have key : runB Φ n B_TtilesT (startE 1 [W.h i]) s = .ok (.ret (.h s.length), [some (.h i)]) (s ++ [.lst (ts.map Tile.d)]) := by
    unfold B_TtilesT
    show runB Φ n _ [some (.h i)] s = _
    rw [rB_cons, rS_ret, rE_th, e]
    rfl
  unfold callX
  simp only [List.length_cons, List.length_nil, if_true, gM, Nat.add_zero]
  rw [key]
  have ht : (s ++ [Cell.lst (ts.map Tile.d)]).take s.length = s := by simp
  have hg : (s ++ [Cell.lst (ts.map Tile.d)])[s.length]? = some (.lst (ts.map Tile.d)) := by simp
  simp only [endM, finM, ht, hc, Nat.lt_irrefl, if_false, hg]
  simp
theorem tmanyM_ok : TmanyM (.m 1 (gM Φ n B_many 1 0)) := fun ts s i h hc => by
  have hb : biD .len [rowsD ts] = some (.int (ts.length : Int)) := by
    show some (PyData.int (((ts.map Tile.d).length : Nat) : Int)) = _
    rw [List.length_map]
  have key : runB Φ n B_many (startE 1 [W.h i]) s = .ok (.ret (.d (.int (ts.length : Int))), [some (.h i)]) s := by
    unfold B_many
    show runB Φ n _ [some (.h i)] s = _
    rw [rB_cons, rS_ret, rE_bi, rEs_cons, fld3 h, R.bind_ok, rEs_nil]
    show R.sq (R.st (lift ((biD .len [rowsD ts]).map W.d) s) _ _) _ = _
    rw [hb]
    rfl
  unfold callX
  simp only [List.length_cons, List.length_nil, if_true, gM, Nat.add_zero]
  rw [key]
  simp only [endM, finM, List.take_length]
  rw [hc]
  simp
/-! ### a pure def asked with live lists -/
theorem p_live {φ : Fs} {g : List W → Option Ro} {m : Nat} (hφ : φ = .p m g) {ws vs : List W} {s s' : List Cell} {b : Bool} (hv : viewAll s vs = some (vs, false)) (e : callF φ vs s = .ok (.d (.bool b)) s) (hl : ws.length = vs.length) {lv : Bool} (hw : viewAll s' ws = some (vs, lv)) : callF φ ws s' = .ok (.d (.bool b)) s' := by
  subst hφ
  unfold callF callX at *
  dsimp only at e ⊢
  by_cases hm : vs.length = m
  · rw [if_pos (hl.trans hm), hw]
    rw [if_pos hm, hv] at e
    cases hg : g vs with
    | none => simp only [hg, pX] at e; cases e
    | some ro =>
      simp only [hg] at e ⊢
      cases ro with
      | ret w =>
        simp only [pX, Bool.not_false, Bool.or_true, if_true] at e
        cases e
        rfl
      | fresh l =>
        simp only [pX, Bool.not_false, if_true] at e
        cases e
      | ex z => cases e
  · rw [if_neg hm] at e
    cases e
/-! ### refused -/
abbrev H_ref : HE := .and (.is 20 (.cst (.str "set"))) (.and (.whole 52 0) (.and (.cmpF .eq 0 (.var 1)) (.and (.isStr 1) (.cmpF .eq 1 (.var 2)))))
def B_refused : List S := [(.tryAs [(.ex (.mk 2 (.cons (.var 0) .nil)))] 3 3 H_ref), (.ret (.cst (.bool false)))]
def RefOk (φ : Fs) : Prop := ∀ (ts : List Tile) (s : List Cell) (j : Nat) (wd : Str), (((ts.length = 0 ∨ 200 < ts.length) ∧ j = 0 ∧ wd = "many") ∨ (1 ≤ ts.length ∧ ts.length ≤ 200 ∧ (∀ i u, i < j → ts[i]? = some u → u.ok) ∧ (∃ t, ts[j]? = some t ∧ ¬ t.ok) ∧ wd = "mark")) →
  callF φ [.d (rowsD ts), .d (.int (j : Int)), .d (.str wd)] s = .ok (.d (.bool true)) s
theorem href_run {j : Nat} {wd : Str} {rw : Option W} {s : List Cell} {z : Xc} (hz : z = ⟨0, [(1, .str wd), (0, .int (j : Int))]⟩) (hw : wd = "many" ∨ wd = "mark") (hwd : Φ.hx.wd 20 0 = some [true, false, false, false, false]) (hwh : Φ.hx.wh 52 = true) (hx0 : Φ.hx.xf 0 0 = true) (hx1 : Φ.hx.xf 0 1 = true) :
    runH Φ z H_ref [rw, some (.d (.int (j : Int))), some (.d (.str wd)), none] s = .ok (.d (.bool true)) s := by
  subst hz
  have a1 : okD (.str "set") = true := by decide +kernel
  have a2 : isAns [true, false, false, false, false] "set" = true := by decide +kernel
  have a3 : cmpD .eq (.str wd) (.str wd) = some true := by rcases hw with rfl | rfl <;> decide +kernel
  have a4 : isiD .str (.str wd) = true := rfl
  have c1 : runH Φ ⟨0, [(1, .str wd), (0, .int (j : Int))]⟩ (.is 20 (.cst (.str "set"))) [rw, some (.d (.int (j : Int))), some (.d (.str wd)), none] s = .ok (.d (.bool true)) s := by
    show (match Φ.hx.wd 20 0 with | some ks => R.bind (R.ok (W.d (.str "set")) s) _ | none => _) = _
    rw [hwd]
    show (if okD (.str "set") = true then R.ok (W.d (.bool (isAns [true, false, false, false, false] "set"))) s else R.no) = _
    rw [if_pos a1, a2]
  have c2 : runH Φ ⟨0, [(1, .str wd), (0, .int (j : Int))]⟩ (.whole 52 0) [rw, some (.d (.int (j : Int))), some (.d (.str wd)), none] s = .ok (.d (.bool true)) s := by
    show (if (Φ.hx.wh 52 && Φ.hx.xf 0 0) = true then _ else _) = _
    rw [hwh, hx0]
    rfl
  have c3 : runH Φ ⟨0, [(1, .str wd), (0, .int (j : Int))]⟩ (.cmpF .eq 0 (.var 1)) [rw, some (.d (.int (j : Int))), some (.d (.str wd)), none] s = .ok (.d (.bool true)) s := by
    show (if Φ.hx.xf 0 0 = true then _ else _) = _
    rw [hx0]
    show lift ((cmpD .eq (.int (j : Int)) (.int (j : Int))).map fun b => W.d (.bool b)) s = _
    rw [c_eq, decide_eq_true rfl]
    rfl
  have c4 : runH Φ ⟨0, [(1, .str wd), (0, .int (j : Int))]⟩ (.isStr 1) [rw, some (.d (.int (j : Int))), some (.d (.str wd)), none] s = .ok (.d (.bool true)) s := by
    show (if Φ.hx.xf 0 1 = true then _ else _) = _
    rw [hx1]
    rfl
  have c5 : runH Φ ⟨0, [(1, .str wd), (0, .int (j : Int))]⟩ (.cmpF .eq 1 (.var 2)) [rw, some (.d (.int (j : Int))), some (.d (.str wd)), none] s = .ok (.d (.bool true)) s := by
    show (if Φ.hx.xf 0 1 = true then _ else _) = _
    rw [hx1]
    show lift ((cmpD .eq (.str wd) (.str wd)).map fun b => W.d (.bool b)) s = _
    rw [a3]
    rfl
  have an : ∀ {z : Xc} {a b : HE} {ρ : Env} {s : List Cell} {w : W}, runH Φ z a ρ s = .ok (.d (.bool true)) s → runH Φ z b ρ s = .ok w s → runH Φ z (.and a b) ρ s = .ok w s := fun {z a b ρ s w} h1 h2 => by
    show R.bind (runH Φ z a ρ s) _ = _
    rw [h1]
    show (if true = true then runH Φ z b ρ s else R.ok (W.d (.bool false)) s) = _
    rw [if_pos rfl, h2]
  exact an c1 (an c2 (an c3 (an c4 c5)))
theorem refused_ok {ψ : Ms} {f : Nat → Option Bool} (hψ : Φ.cl 2 = some ψ) (T : TinM ψ) (hs : Φ.sub 3 = some f) (hf : f 0 = some true) (hwd : Φ.hx.wd 20 0 = some [true, false, false, false, false]) (hwh : Φ.hx.wh 52 = true) (hx0 : Φ.hx.xf 0 0 = true) (hx1 : Φ.hx.xf 0 1 = true) :
    RefOk (.p 3 (gP Φ n B_refused 4)) := fun ts s j wd h => by
  refine callP rfl (vs := [.d (rowsD ts), .d (.int (j : Int)), .d (.str wd)]) rfl ?_
  have hsee : see ([] ++ [Cell.ins 2 []]) (.d (rowsD ts)) = some (rowsD ts) := rfl
  have hmk : mkF ψ 2 [.d (rowsD ts)] [] = .ex ⟨0, [(1, .str wd), (0, .int (j : Int))]⟩ [.ins 2 []] := by
    rcases h with ⟨h1, rfl, rfl⟩ | ⟨h1, h2, h3, ⟨t, h4, h5⟩, rfl⟩
    · exact T.many ts [] _ hsee h1 rfl
    · exact T.mark ts [] _ j t hsee h1 h2 h3 h4 h5 rfl
  have hw : wd = "many" ∨ wd = "mark" := by
    rcases h with ⟨_, _, h⟩ | ⟨_, _, _, _, h⟩
    · exact .inl h
    · exact .inr h
  have eb : runB Φ n [(.ex (.mk 2 (.cons (.var 0) .nil)))] [some (.d (rowsD ts)), some (.d (.int (j : Int))), some (.d (.str wd)), none] [] = .ok (.ex ⟨0, [(1, .str wd), (0, .int (j : Int))]⟩, [some (.d (rowsD ts)), some (.d (.int (j : Int))), some (.d (.str wd)), none]) [.ins 2 []] := by
    have e : runE Φ (.mk 2 (.cons (.var 0) .nil)) [some (.d (rowsD ts)), some (.d (.int (j : Int))), some (.d (.str wd)), none] [] = .ex ⟨0, [(1, .str wd), (0, .int (j : Int))]⟩ [.ins 2 []] := by
      rw [rE_mk, hψ]
      exact hmk
    rw [rB_cons, rS_ex, e]
    rfl
  have et := tryAs_ex (h := H_ref) (i := 3) (w := .d (.bool true)) (s2 := [.ins 2 []]) _ _ _ _ hs eb hf (by show 3 < 4; decide) (href_run rfl hw hwd hwh hx0 hx1)
  show endP (runB Φ n B_refused [some (.d (rowsD ts)), some (.d (.int (j : Int))), some (.d (.str wd)), none] []) = _
  unfold B_refused
  rw [rB_cons, et]
  rfl
end
end DM

set_option maxRecDepth 100000
/-! K01a: the law k01. -/
namespace DM
open PySem
section
variable {Φ : Phi} {n : Nat}
/-! ### small readings -/
theorem lenV {i : Nat} {w : W} {l : List PyData} {ρ : Env} {s : List Cell} (r : ρ[i]? = some (some w)) (h : see s w = some (.list l)) : runE Φ (.bi .len (.cons (.var i) .nil)) ρ s = .ok (.d (.int (l.length : Int))) s := by
  rw [rE_bi, rEs_cons, rE_var, r]
  show R.bind (R.bind (R.ok w s) _) _ = _
  rw [R.bind_ok, rEs_nil]
  show R.bind (R.ok [w] s) _ = _
  rw [R.bind_ok]
  simp only [seeAll, h]
  rfl
theorem idxV {i : Nat} {e : E} {w : W} {l : List PyData} {ρ : Env} {s : List Cell} {k : Int} {x : PyData} (r : ρ[i]? = some (some w)) (h : see s w = some (.list l)) (he : runE Φ e ρ s = .ok (.d (.int k)) s) (hx : atD l k = some x) : runE Φ (.idx (.var i) e) ρ s = .ok (.d x) s := by
  rw [rE_idx, rE_var, r]
  show R.bind (R.ok w s) _ = _
  rw [R.bind_ok, he]
  simp only [R.bind_ok, ii, h, hx]
  rfl
theorem slcL_to {e e2 : E} {l : List PyData} {w : W} {ρ : Env} {s : List Cell} {k : Nat} (he : runE Φ e ρ s = .ok w s) (h : see s w = some (.list l)) (h2 : runE Φ e2 ρ s = .ok (.d (.int (k : Int))) s) : runE Φ (.slc e .none (.some e2)) ρ s = .ok (.d (.list (l.take k))) s := by
  rw [rE_slc, he]
  simp only [R.bind_ok, rO_none, rO_some, h2, ii, h]
  rw [show cut l none (some (k : Int)) = l.take k from cut_to l k]
theorem slcL_from {e e2 : E} {l : List PyData} {w : W} {ρ : Env} {s : List Cell} {k : Nat} (he : runE Φ e ρ s = .ok w s) (h : see s w = some (.list l)) (h2 : runE Φ e2 ρ s = .ok (.d (.int (k : Int))) s) : runE Φ (.slc e (.some e2) .none) ρ s = .ok (.d (.list (l.drop k))) s := by
  rw [rE_slc, he]
  simp only [R.bind_ok, rO_none, rO_some, h2, ii, h]
  rw [show cut l (some (k : Int)) none = l.drop k from cut_from l k]
theorem slcT_to {e e2 : E} {l : List PyData} {ρ : Env} {s : List Cell} {k : Nat} (he : runE Φ e ρ s = .ok (.d (.tuple l)) s) (h2 : runE Φ e2 ρ s = .ok (.d (.int (k : Int))) s) : runE Φ (.slc e .none (.some e2)) ρ s = .ok (.d (.tuple (l.take k))) s := by
  rw [rE_slc, he]
  simp only [R.bind_ok, rO_none, rO_some, h2, ii, see]
  rw [show cut l none (some (k : Int)) = l.take k from cut_to l k]
theorem slcT_from {e e2 : E} {l : List PyData} {ρ : Env} {s : List Cell} {k : Nat} (he : runE Φ e ρ s = .ok (.d (.tuple l)) s) (h2 : runE Φ e2 ρ s = .ok (.d (.int (k : Int))) s) : runE Φ (.slc e (.some e2) .none) ρ s = .ok (.d (.tuple (l.drop k))) s := by
  rw [rE_slc, he]
  simp only [R.bind_ok, rO_none, rO_some, h2, ii, see]
  rw [show cut l (some (k : Int)) none = l.drop k from cut_from l k]
theorem addT {a b : E} {x y : List PyData} {ρ : Env} {s : List Cell} (ha : runE Φ a ρ s = .ok (.d (.tuple x)) s) (hb : runE Φ b ρ s = .ok (.d (.tuple y)) s) (h : x.length + y.length ≤ 1000) : runE Φ (.bin .add a b) ρ s = .ok (.d (.tuple (x ++ y))) s := by
  have sp : sizeLine = 16777216 := by decide
  rw [rE_bin, ha]
  simp only [R.bind_ok, hb, see]
  show lift (Option.map W.d (if x.length + y.length ≤ sizeLine then some (.tuple (x ++ y)) else none)) s = _
  rw [if_pos (by omega)]
  rfl
theorem addL {a b : E} {x y : List PyData} {ρ : Env} {s : List Cell} (ha : runE Φ a ρ s = .ok (.d (.list x)) s) (hb : runE Φ b ρ s = .ok (.d (.list y)) s) (h : x.length + y.length ≤ 1000) : runE Φ (.bin .add a b) ρ s = .ok (.d (.list (x ++ y))) s := by
  have sp : sizeLine = 16777216 := by decide
  rw [rE_bin, ha]
  simp only [R.bind_ok, hb, see]
  show lift (Option.map W.d (if x.length + y.length ≤ sizeLine then some (.list (x ++ y)) else none)) s = _
  rw [if_pos (by omega)]
  rfl
theorem inc1 {i : Nat} {k : Nat} {ρ : Env} {s : List Cell} (r : ρ[i]? = some (some (.d (.int (k : Int))))) : runE Φ (.bin .add (.var i) (.cst (.int 1))) ρ s = .ok (.d (.int ((k + 1 : Nat) : Int))) s := by
  rw [rE_bin, rE_var, r]
  show R.ok (W.d (.int ((k : Int) + 1))) s = _
  rw [show ((k : Int) + 1) = ((k + 1 : Nat) : Int) by omega]
theorem varV {i : Nat} {w : W} {ρ : Env} {s : List Cell} (r : ρ[i]? = some (some w)) : runE Φ (.var i) ρ s = .ok w s := by rw [rE_var, r]
/-! ### the list that is to be refused -/
def spoil (t : Tile) (k : Nat) (x : Int) : Tile := match k with
  | 0 => ⟨x, t.e, t.s, t.w⟩
  | 1 => ⟨t.n, x, t.s, t.w⟩
  | 2 => ⟨t.n, t.e, x, t.w⟩
  | _ => ⟨t.n, t.e, t.s, x⟩
theorem spoil_d (t : Tile) {k : Nat} (hk : k < 4) (x : Int) : (spoil t k x).d = .tuple ((((marks t).map PyData.int).take k ++ [.int x]) ++ ((marks t).map PyData.int).drop (k + 1)) := by
  match k, hk with
  | 0, _ => rfl
  | 1, _ => rfl
  | 2, _ => rfl
  | 3, _ => rfl
theorem spoil_bad (t : Tile) {k : Nat} {x : Int} (hx : ¬ MkOk x) : ¬ (spoil t k x).ok := by
  unfold Tile.ok spoil
  split <;> simp_all
abbrev E_sp : E := .bin .add (.bin .add (.slc (.idx (.var 2) (.var 4)) .none (.some (.var 5))) (.tup (.cons (.var 6) .nil))) (.slc (.idx (.var 2) (.var 4)) (.some (.bin .add (.var 5) (.cst (.int 1)))) .none)
theorem sp_run {ts : List Tile} {a k : Nat} {x : Int} {t : Tile} {w : W} {ρ : Env} {s : List Cell} (r2 : ρ[2]? = some (some w)) (hw : see s w = some (rowsD ts)) (r4 : ρ[4]? = some (some (.d (.int (a : Int))))) (ha : ts[a]? = some t) (hl : ts.length ≤ 1000) (r5 : ρ[5]? = some (some (.d (.int (k : Int))))) (hk : k < 4) (r6 : ρ[6]? = some (some (.d (.int x)))) :
    runE Φ E_sp ρ s = .ok (.d (spoil t k x).d) s := by
  have sp : sizeLine = 16777216 := by decide
  have hal := (List.getElem?_eq_some_iff.mp ha).1
  have hat : atD (ts.map Tile.d) (a : Int) = some t.d := atD_nat (by omega) (by
    rw [Int.toNat_natCast, List.getElem?_map, ha]; rfl)
  have e1 : runE Φ (.idx (.var 2) (.var 4)) ρ s = .ok (.d (.tuple ((marks t).map .int))) s := idxV r2 hw (varV r4) hat
  have e2 := slcT_to (Φ := Φ) e1 (varV r5)
  have e3 := slcT_from (Φ := Φ) e1 (inc1 r5)
  have e4 : runE Φ (.tup (.cons (.var 6) .nil)) ρ s = .ok (.d (.tuple [.int x])) s := by
    rw [rE_tup, rEs_cons, varV r6, R.bind_ok, rEs_nil]
    rfl
  have l1 : (((marks t).map PyData.int).take k).length ≤ 4 := by rw [List.length_take]; exact Nat.le_trans (Nat.min_le_right _ _) (Nat.le_refl 4)
  have l2 : (((marks t).map PyData.int).drop (k + 1)).length ≤ 4 := by rw [List.length_drop]; exact Nat.sub_le _ _
  rw [spoil_d t hk]
  exact addT (addT e2 e4 (by show _ + 1 ≤ 1000; omega)) e3 (by rw [List.length_append]; show _ + 1 + _ ≤ 1000; omega)
abbrev E_badL : E := .bin .add (.bin .add (.bin .add (.slc (.var 2) .none (.some (.var 4))) (.fr (.lst (.cons (.var 7) .nil)))) (.slc (.var 2) (.some (.bin .add (.var 4) (.cst (.int 1)))) .none)) (.var 8)
theorem badL_run {ts us : List Tile} {a : Nat} {u : Tile} {w : W} {ρ : Env} {s : List Cell} (r2 : ρ[2]? = some (some w)) (hw : see s w = some (rowsD ts)) (r4 : ρ[4]? = some (some (.d (.int (a : Int))))) (hl : ts.length ≤ 100) (r7 : ρ[7]? = some (some (.d u.d))) (r8 : ρ[8]? = some (some (.d (rowsD us)))) (hu : us.length ≤ 100) :
    runE Φ E_badL ρ s = .ok (.d (rowsD (((ts.take a ++ [u]) ++ ts.drop (a + 1)) ++ us))) s := by
  have e1 := slcL_to (Φ := Φ) (varV r2) hw (varV r4)
  have e2 := slcL_from (Φ := Φ) (varV r2) hw (inc1 r4)
  have e3 : runE Φ (.fr (.lst (.cons (.var 7) .nil))) ρ s = .ok (.d (.list [u.d])) s := by
    rw [rE_fr, rF_lst, rEs_cons, varV r7, R.bind_ok, rEs_nil]
    rfl
  have l1 : ((ts.map Tile.d).take a).length ≤ 100 := by rw [List.length_take, List.length_map]; omega
  have l2 : ((ts.map Tile.d).drop (a + 1)).length ≤ 100 := by rw [List.length_drop, List.length_map]; omega
  have := addL (addL (addL e1 e3 (by show _ + 1 ≤ 1000; omega)) e2 (by rw [List.length_append]; show _ + 1 + _ ≤ 1000; omega)) (varV r8) (by
    rw [List.length_append, List.length_append, List.length_map]; show _ + 1 + _ + _ ≤ 1000; omega)
  rw [this]
  simp [rowsD, List.map_append, List.map_take, List.map_drop]
/-! ### the law -/
abbrev E_nx (m : Int) : E := .call 34 (.cons (.var 1) (.cons (.cst (.int m)) .nil))
abbrev E_ref (a b : E) (w : Str) : E := .call 40 (.cons a (.cons b (.cons (.cst (.str w)) .nil)))
abbrev E_i (i : Int) : E := .cst (.int i)
abbrev E_many : E := .fr (.mul (.lst (.cons (.tup (.cons (E_i 0) (.cons (E_i 0) (.cons (E_i 0) (.cons (.neg (E_i 1)) .nil))))) .nil)) (E_i 201))
abbrev B_way5 : List S := [(.ret (.and (E_ref (.fr (.lst .nil)) (E_i 0) "many") (E_ref E_many (E_i 0) "many")))]
abbrev E_bad : E := .idx (.fr (.lst (.cons (.neg (E_i 1)) (.cons (.bin .pow (E_i 10) (E_i 12)) .nil)))) (.bin .sub (.var 3) (E_i 3))
abbrev E_beh : E := .fr (.mul (.lst (.cons (.tup (.cons (.neg (E_i 1)) (.cons (E_i 0) (.cons (E_i 0) (.cons (E_i 0) .nil))))) .nil)) (E_nx 2))
abbrev E_nxL : E := .call 34 (.cons (.var 1) (.cons (.bi .len (.cons (.var 2) .nil)) .nil))
abbrev B_mark : List S := [(.asg (.n 4) E_nxL), (.asg (.n 5) (E_nx 4)), (.asg (.n 6) E_bad), (.asg (.n 7) E_sp), (.asg (.n 8) E_beh), (.ret (E_ref E_badL (.var 4) "mark"))]
abbrev E_c1 : E := .or (.not (.call 29 (.cons (.var 12) (.cons (.var 2) .nil)))) (.not (.call 29 (.cons (.meth (.var 10) 1 .nil) (.cons (.bi .len (.cons (.var 2) .nil)) .nil))))
abbrev B_turn01 : List S := [(.asg (.n 12) (.th (.meth (.var 10) 0 .nil))), (.ite E_c1 [(.ret (.cst (.bool false)))] []), (.ex (.clr (.var 12))), (.ex (.clr (.var 9)))]
abbrev E_200 : E := .bin .mul (.slc (.var 2) .none (.some (E_i 1))) (E_i 200)
abbrev E_last01 : E := .cmp .eq (.bi .len (.cons (.meth (.mk 2 (.cons E_200 .nil)) 0 .nil) .nil)) (E_i 200)
def B_law01 : List S := [(.asg (.n 1) (.th (.call 9 (.cons (.var 0) .nil)))), (.asg (.n 2) (.th (.call 50 (.cons (.var 1) (.cons (E_i 5) .nil))))), (.ite (.cmp .eq (E_nx 3) (E_i 2)) [(.ex (.app (.var 2) (.idx (.var 2) (E_i 0))))] []), (.asg (.n 3) (E_nx 6)), (.ite (.cmp .eq (.var 3) (E_i 5)) B_way5 []), (.ite (.cmp .gt (.var 3) (E_i 2)) B_mark []),
  (.asg (.n 9) (.th (.list (.var 2)))), (.asg (.n 10) (.mk 2 (.cons (.var 9) .nil))), (.for (.n 11) (.rng1 (E_i 2)) B_turn01), (.ret E_last01)]
section
variable {φ9 φ50 φ34 φ40 φt φm : Fs} {ψ : Ms} {g29 : List W → Option Ro}
theorem nx_run (h34 : Φ.fn 34 = some φ34) (N : NextOk φ34) {c : Cell} (hd : OkDice c) (L : List PyData) {m : Int} (h0 : 0 < m) (h1 : m < 9223372036854775808) {ρ : Env} (r1 : ρ[1]? = some (some (.h 0))) : ∃ (q : Int) (c' : Cell), 0 ≤ q ∧ q < m ∧ OkDice c' ∧ ∀ e : E, runE Φ e ρ [c, .lst L] = .ok (.d (.int m)) [c, .lst L] → runE Φ (.call 34 (.cons (.var 1) (.cons e .nil))) ρ [c, .lst L] = .ok (.d (.int q)) [c', .lst L] := by
  obtain ⟨l, rfl⟩ := hd.lst
  obtain ⟨r, c', a, b, d, e⟩ := N [.lst l, .lst L] 0 (.lst l) m hd rfl rfl h0 h1
  refine ⟨r, c', a, b, d, fun x hx => ?_⟩
  simp only [rE_call, h34, rEs_cons, rEs_nil, rE_var, r1, R.bind_ok, hx]
  exact e
theorem cstV {x : PyData} {ρ : Env} {s : List Cell} : runE Φ (.cst x) ρ s = .ok (.d x) s := by rw [rE_cst]
theorem ref_run (h40 : Φ.fn 40 = some φ40) (Rf : RefOk φ40) {a b : E} {ts : List Tile} {j : Nat} {wd : Str} {ρ : Env} {s : List Cell} (ha : runE Φ a ρ s = .ok (.d (rowsD ts)) s) (hb : runE Φ b ρ s = .ok (.d (.int (j : Int))) s)
    (h : ((ts.length = 0 ∨ 200 < ts.length) ∧ j = 0 ∧ wd = "many") ∨ (1 ≤ ts.length ∧ ts.length ≤ 200 ∧ (∀ i u, i < j → ts[i]? = some u → u.ok) ∧ (∃ t, ts[j]? = some t ∧ ¬ t.ok) ∧ wd = "mark")) : runE Φ (E_ref a b wd) ρ s = .ok (.d (.bool true)) s := by
  have e := Rf ts s j wd h
  simp only [rE_call, h40, rEs_cons, rEs_nil, ha, hb, rE_cst, R.bind_ok]
  exact e
theorem way5_run (h40 : Φ.fn 40 = some φ40) (Rf : RefOk φ40) {ρ : Env} {s : List Cell} : runB Φ n B_way5 ρ s = .ok (.ret (.d (.bool true)), ρ) s := by
  have sp : sizeLine = 16777216 := by decide
  have e1 : runE Φ (.fr (.lst .nil)) ρ s = .ok (.d (rowsD [])) s := rfl
  have e2 : runE Φ E_many ρ s = .ok (.d (rowsD (List.replicate 201 ⟨0, 0, 0, -1⟩))) s := rfl
  have c1 := ref_run (Φ := Φ) h40 Rf (ts := []) (j := 0) (wd := "many") e1 (b := E_i 0) cstV (.inl ⟨.inl rfl, rfl, rfl⟩)
  have c2 := ref_run (Φ := Φ) h40 Rf (j := 0) (wd := "many") e2 (b := E_i 0) cstV (.inl ⟨.inr (by rw [List.length_replicate]; decide), rfl, rfl⟩)
  rw [rB_cons, rS_ret, rE_and, c1, R.bind_ok, tt_b, R.bind_ok, if_pos rfl, c2]
  rfl
theorem mark_run (h34 : Φ.fn 34 = some φ34) (N : NextOk φ34) (h40 : Φ.fn 40 = some φ40) (Rf : RefOk φ40) {ts : List Tile} (t0 : 1 ≤ ts.length) (t6 : ts.length ≤ 6) (tk : ∀ t ∈ ts, t.ok) {c : Cell} (hd : OkDice c) {way : Int} (w0 : 2 < way) (w1 : way < 5) {A o4 o5 o6 o7 o8 o9 o10 o11 o12 : Option W} :
    ∃ ρ' s', runB Φ n B_mark [A, some (.h 0), some (.h 1), some (.d (.int way)), o4, o5, o6, o7, o8, o9, o10, o11, o12] [c, .lst (ts.map Tile.d)] = .ok (.ret (.d (.bool true)), ρ') s' := by
  have sp : sizeLine = 16777216 := by decide
  have hsee : ∀ c : Cell, see [c, .lst (ts.map Tile.d)] (.h 1) = some (rowsD ts) := fun _ => rfl
  have hlen : ∀ c : Cell, ∀ ρ : Env, ρ[2]? = some (some (.h 1)) → runE Φ (.bi .len (.cons (.var 2) .nil)) ρ [c, .lst (ts.map Tile.d)] = .ok (.d (.int (ts.length : Int))) [c, .lst (ts.map Tile.d)] := fun c ρ r => by
    have := lenV (Φ := Φ) r (hsee c)
    rw [List.length_map] at this
    exact this
  obtain ⟨q1, c1, a0, a1, d1, e1⟩ := nx_run h34 N hd (ts.map Tile.d) (m := (ts.length : Int)) (by omega) (by omega) (ρ := [A, some (.h 0), some (.h 1), some (.d (.int way)), o4, o5, o6, o7, o8, o9, o10, o11, o12]) rfl
  obtain ⟨a, rfl⟩ : ∃ a : Nat, q1 = (a : Int) := ⟨q1.toNat, by omega⟩
  have hal : a < ts.length := by omega
  obtain ⟨q2, c2, b0, b1, d2, e2⟩ := nx_run h34 N d1 (ts.map Tile.d) (m := 4) (by decide) (by decide) (ρ := [A, some (.h 0), some (.h 1), some (.d (.int way)), some (.d (.int (a : Int))), o5, o6, o7, o8, o9, o10, o11, o12]) rfl
  obtain ⟨k, rfl⟩ : ∃ k : Nat, q2 = (k : Int) := ⟨q2.toNat, by omega⟩
  have hbad : ∃ x : Int, ¬ MkOk x ∧ runE Φ E_bad [A, some (.h 0), some (.h 1), some (.d (.int way)), some (.d (.int (a : Int))), some (.d (.int (k : Int))), o6, o7, o8, o9, o10, o11, o12] [c2, .lst (ts.map Tile.d)] = .ok (.d (.int x)) [c2, .lst (ts.map Tile.d)] := by
    have : way = 3 ∨ way = 4 := by omega
    rcases this with rfl | rfl
    · exact ⟨-1, by unfold MkOk; omega, by rfl⟩
    · exact ⟨1000000000000, by unfold MkOk; omega, by rfl⟩
  obtain ⟨x, hx, e3⟩ := hbad
  have ht : ts[a]? = some ts[a] := List.getElem?_eq_getElem hal
  have e4 := sp_run (Φ := Φ) (ts := ts) (a := a) (k := k) (x := x) (ρ := [A, some (.h 0), some (.h 1), some (.d (.int way)), some (.d (.int (a : Int))), some (.d (.int (k : Int))), some (.d (.int x)), o7, o8, o9, o10, o11, o12]) (s := [c2, .lst (ts.map Tile.d)]) rfl (hsee c2) rfl ht (by omega) rfl (by omega) rfl
  obtain ⟨q5, c5, f0, f1, d5, e5⟩ := nx_run h34 N d2 (ts.map Tile.d) (m := 2) (by decide) (by decide) (ρ := [A, some (.h 0), some (.h 1), some (.d (.int way)), some (.d (.int (a : Int))), some (.d (.int (k : Int))), some (.d (.int x)), some (.d (spoil ts[a] k x).d), o8, o9, o10, o11, o12]) rfl
  have hbeh : ∃ us : List Tile, us.length ≤ 1 ∧ runE Φ E_beh [A, some (.h 0), some (.h 1), some (.d (.int way)), some (.d (.int (a : Int))), some (.d (.int (k : Int))), some (.d (.int x)), some (.d (spoil ts[a] k x).d), o8, o9, o10, o11, o12] [c2, .lst (ts.map Tile.d)] = .ok (.d (rowsD us)) [c5, .lst (ts.map Tile.d)] := by
    have e6 := e5 (E_i 2) cstV
    have el : runF Φ (.lst (.cons (.tup (.cons (.neg (E_i 1)) (.cons (E_i 0) (.cons (E_i 0) (.cons (E_i 0) .nil))))) .nil)) [A, some (.h 0), some (.h 1), some (.d (.int way)), some (.d (.int (a : Int))), some (.d (.int (k : Int))), some (.d (.int x)), some (.d (spoil ts[a] k x).d), o8, o9, o10, o11, o12] [c2, .lst (ts.map Tile.d)] = .ok [(⟨-1, 0, 0, 0⟩ : Tile).d] [c2, .lst (ts.map Tile.d)] := rfl
    have : q5 = 0 ∨ q5 = 1 := by omega
    rcases this with rfl | rfl
    · refine ⟨[], by decide, ?_⟩
      rw [rE_fr, rF_mul, el, R.bind_ok, e6]
      rfl
    · refine ⟨[⟨-1, 0, 0, 0⟩], by decide, ?_⟩
      rw [rE_fr, rF_mul, el, R.bind_ok, e6]
      rfl
  obtain ⟨us, hu, e6⟩ := hbeh
  have e7 := badL_run (Φ := Φ) (ts := ts) (us := us) (a := a) (u := spoil ts[a] k x) (ρ := [A, some (.h 0), some (.h 1), some (.d (.int way)), some (.d (.int (a : Int))), some (.d (.int (k : Int))), some (.d (.int x)), some (.d (spoil ts[a] k x).d), some (.d (rowsD us)), o9, o10, o11, o12]) (s := [c5, .lst (ts.map Tile.d)]) rfl (hsee c5) rfl (by omega) rfl rfl (by omega)
  have hat : (ts.take a).length = a := by rw [List.length_take]; omega
  have e8 := ref_run (Φ := Φ) h40 Rf (j := a) (wd := "mark") e7 (b := .var 4) (varV rfl) (.inr ⟨by simp; omega, by simp; omega, fun i u hi e => by
    rw [List.append_assoc, List.append_assoc, List.getElem?_append_left (by omega), List.getElem?_take_of_lt hi] at e
    exact tk u (List.mem_of_getElem? e), ⟨spoil ts[a] k x, by
      rw [List.append_assoc, List.append_assoc, List.getElem?_append_right (by omega), hat, Nat.sub_self]; rfl, spoil_bad _ hx⟩, rfl⟩)
  refine ⟨[A, some (.h 0), some (.h 1), some (.d (.int way)), some (.d (.int (a : Int))), some (.d (.int (k : Int))), some (.d (.int x)), some (.d (spoil ts[a] k x).d), some (.d (rowsD us)), o9, o10, o11, o12], [c5, .lst (ts.map Tile.d)], ?_⟩
  rw [step1 (set_n (e1 _ (hlen c _ rfl)))]
  show runB Φ n _ [A, some (.h 0), some (.h 1), some (.d (.int way)), some (.d (.int (a : Int))), o5, o6, o7, o8, o9, o10, o11, o12] [c1, .lst (ts.map Tile.d)] = _
  rw [step1 (set_n (e2 (E_i 4) cstV))]
  show runB Φ n _ [A, some (.h 0), some (.h 1), some (.d (.int way)), some (.d (.int (a : Int))), some (.d (.int (k : Int))), o6, o7, o8, o9, o10, o11, o12] [c2, .lst (ts.map Tile.d)] = _
  rw [step1 (set_n e3)]
  show runB Φ n _ [A, some (.h 0), some (.h 1), some (.d (.int way)), some (.d (.int (a : Int))), some (.d (.int (k : Int))), some (.d (.int x)), o7, o8, o9, o10, o11, o12] [c2, .lst (ts.map Tile.d)] = _
  rw [step1 (set_n e4)]
  show runB Φ n _ [A, some (.h 0), some (.h 1), some (.d (.int way)), some (.d (.int (a : Int))), some (.d (.int (k : Int))), some (.d (.int x)), some (.d (spoil ts[a] k x).d), o8, o9, o10, o11, o12] [c2, .lst (ts.map Tile.d)] = _
  rw [step1 (set_n e6)]
  show runB Φ n _ [A, some (.h 0), some (.h 1), some (.d (.int way)), some (.d (.int (a : Int))), some (.d (.int (k : Int))), some (.d (.int x)), some (.d (spoil ts[a] k x).d), some (.d (rowsD us)), o9, o10, o11, o12] [c5, .lst (ts.map Tile.d)] = _
  rw [rB_cons, rS_ret, e8]
  rfl
theorem take1 : ∀ (ts : List Tile) (h : 0 < ts.length), (ts.map Tile.d).take 1 = [ts[0].d]
  | a :: r, _ => rfl
theorem th10 {s : List Cell} {ts : List Tile} {i m : Nat} {φ : Fs} (hμ : Φ.mt 2 m = some φ) (h : s[i]? = some (.ins 2 [(3, .d (rowsD ts))])) {j : Nat} {ρ : Env} (r : ρ[j]? = some (some (.h i))) : runE Φ (.meth (.var j) m .nil) ρ s = callF φ [.h i] s := by
  rw [rE_meth, varV r, R.bind_ok]
  have : clsOf s (.h i) = some 2 := by simp only [clsOf, h]
  rw [this]
  simp only [hμ, rEs_nil, R.bind_ok]
theorem turn01_run (h29 : Φ.fn 29 = some (.p 2 g29)) (Lk : LikeOk (.p 2 g29) 2) (ht0 : Φ.mt 2 0 = some φt) (Tt : TtilesM φt) (hm1 : Φ.mt 2 1 = some φm) (Tm : TmanyM φm) {ts : List Tile} (tl : ts.length ≤ 200) {H : List PyData} {s : List Cell} (s1 : s[1]? = some (.lst (ts.map Tile.d))) (s2 : s[2]? = some (.lst H)) (s3 : s[3]? = some (.ins 2 [(3, .d (rowsD ts))])) (hc : closedS s.length s = true)
    {A o3 o4 o5 o6 o7 o8 o11 o12 : Option W} : runB Φ n B_turn01 [A, some (.h 0), some (.h 1), o3, o4, o5, o6, o7, o8, some (.h 2), some (.h 3), o11, o12] s = .ok (.nx, [A, some (.h 0), some (.h 1), o3, o4, o5, o6, o7, o8, some (.h 2), some (.h 3), o11, some (.h s.length)]) ((s ++ [Cell.lst []]).set 2 (Cell.lst [])) := by
  have lt : ∀ {i : Nat} {c : Cell}, s[i]? = some c → i < s.length := fun h => (List.getElem?_eq_some_iff.mp h).1
  have up : ∀ {i : Nat} {c c' : Cell}, s[i]? = some c → (s ++ [c'])[i]? = some c := fun h => by rw [List.getElem?_append_left (lt h)]; exact h
  have hl : ∀ c' : Cell, (s ++ [c'])[s.length]? = some c' := fun c' => by simp
  have e1 : runE Φ (.th (.meth (.var 10) 0 .nil)) [A, some (.h 0), some (.h 1), o3, o4, o5, o6, o7, o8, some (.h 2), some (.h 3), o11, o12] s = .ok (.h s.length) (s ++ [.lst (ts.map Tile.d)]) := by
    rw [rE_th, rF_meth]
    show R.bind (R.bind (R.ok (W.h 3) s) _) _ = _
    have : clsOf s (.h 3) = some 2 := by simp only [clsOf, s3]
    rw [R.bind_ok, this]
    simp only [ht0, rEs_nil, R.bind_ok, callL]
    rw [Tt ts s 3 s3 hc]
    rfl
  have hc1 : closedS (s ++ [Cell.lst (ts.map Tile.d)]).length (s ++ [Cell.lst (ts.map Tile.d)]) = true := by
    rw [List.length_append]
    exact closed_push hc rfl
  have c1 : runE Φ (.call 29 (.cons (.var 12) (.cons (.var 2) .nil))) [A, some (.h 0), some (.h 1), o3, o4, o5, o6, o7, o8, some (.h 2), some (.h 3), o11, some (.h s.length)] (s ++ [.lst (ts.map Tile.d)]) = .ok (.d (.bool true)) (s ++ [.lst (ts.map Tile.d)]) := by
    have e := Lk (rowsD ts) (s ++ [.lst (ts.map Tile.d)]) (rows_Nd tl)
    have := p_live (φ := .p 2 g29) rfl (ws := [.h s.length, .h 1]) (vs := [.d (rowsD ts), .d (rowsD ts)]) (s := s ++ [.lst (ts.map Tile.d)]) (s' := s ++ [.lst (ts.map Tile.d)]) rfl e rfl (lv := true) (by
      simp only [viewAll, view, hl, up s1]
      rfl)
    simp only [rE_call, h29, rEs_cons, rEs_nil, rE_var]
    exact this
  have c2 : runE Φ (.call 29 (.cons (.meth (.var 10) 1 .nil) (.cons (.bi .len (.cons (.var 2) .nil)) .nil))) [A, some (.h 0), some (.h 1), o3, o4, o5, o6, o7, o8, some (.h 2), some (.h 3), o11, some (.h s.length)] (s ++ [.lst (ts.map Tile.d)]) = .ok (.d (.bool true)) (s ++ [.lst (ts.map Tile.d)]) := by
    have e1 : runE Φ (.meth (.var 10) 1 .nil) [A, some (.h 0), some (.h 1), o3, o4, o5, o6, o7, o8, some (.h 2), some (.h 3), o11, some (.h s.length)] (s ++ [.lst (ts.map Tile.d)]) = .ok (.d (.int (ts.length : Int))) (s ++ [.lst (ts.map Tile.d)]) := by
      rw [th10 hm1 (up s3) rfl]
      unfold callF
      rw [Tm ts _ 3 (up s3) hc1]
      rfl
    have e2 : runE Φ (.bi .len (.cons (.var 2) .nil)) [A, some (.h 0), some (.h 1), o3, o4, o5, o6, o7, o8, some (.h 2), some (.h 3), o11, some (.h s.length)] (s ++ [.lst (ts.map Tile.d)]) = .ok (.d (.int (ts.length : Int))) (s ++ [.lst (ts.map Tile.d)]) := by
      have := lenV (Φ := Φ) (i := 2) (w := .h 1) (l := ts.map Tile.d) (ρ := [A, some (.h 0), some (.h 1), o3, o4, o5, o6, o7, o8, some (.h 2), some (.h 3), o11, some (.h s.length)]) (s := s ++ [.lst (ts.map Tile.d)]) rfl (by simp only [see, up s1])
      rw [List.length_map] at this
      exact this
    have e := Lk (.int (ts.length : Int)) (s ++ [.lst (ts.map Tile.d)]) rfl
    rw [rE_call, h29]
    simp only [rEs_cons, rEs_nil, e1, e2, R.bind_ok]
    exact e
  have cc : runE Φ E_c1 [A, some (.h 0), some (.h 1), o3, o4, o5, o6, o7, o8, some (.h 2), some (.h 3), o11, some (.h s.length)] (s ++ [.lst (ts.map Tile.d)]) = .ok (.d (.bool false)) (s ++ [.lst (ts.map Tile.d)]) := by
    rw [rE_or, rE_not, c1, R.bind_ok, tt_b, R.bind_ok, R.bind_ok, tt_b, R.bind_ok]
    show (if (!true) = true then _ else _) = _
    rw [if_neg (by decide), rE_not, c2]
    rfl
  have e3 : runS Φ n (.ex (.clr (.var 12))) [A, some (.h 0), some (.h 1), o3, o4, o5, o6, o7, o8, some (.h 2), some (.h 3), o11, some (.h s.length)] (s ++ [.lst (ts.map Tile.d)]) = .ok (.nx, [A, some (.h 0), some (.h 1), o3, o4, o5, o6, o7, o8, some (.h 2), some (.h 3), o11, some (.h s.length)]) (s ++ [.lst []]) := by
    rw [rS_ex, rE_clr, varV rfl, R.bind_ok]
    simp only [clrW, hl]
    show R.ok _ ((s ++ [Cell.lst (ts.map Tile.d)]).set s.length (.lst [])) = _
    rw [List.set_append_right _ _ (Nat.le_refl _), Nat.sub_self]
    rfl
  have e4 : runS Φ n (.ex (.clr (.var 9))) [A, some (.h 0), some (.h 1), o3, o4, o5, o6, o7, o8, some (.h 2), some (.h 3), o11, some (.h s.length)] (s ++ [.lst []]) = .ok (.nx, [A, some (.h 0), some (.h 1), o3, o4, o5, o6, o7, o8, some (.h 2), some (.h 3), o11, some (.h s.length)]) ((s ++ [Cell.lst []]).set 2 (Cell.lst [])) := by
    rw [rS_ex, rE_clr, varV (w := .h 2) rfl, R.bind_ok]
    simp only [clrW, up s2]
    rfl
  rw [step1 (set_n e1)]
  show runB Φ n _ [A, some (.h 0), some (.h 1), o3, o4, o5, o6, o7, o8, some (.h 2), some (.h 3), o11, some (.h s.length)] (s ++ [.lst (ts.map Tile.d)]) = _
  rw [rB_cons, ite_F cc, rB_nil, R.sq_nx, step1 e3, step1 e4, rB_nil]
theorem law01 (h9 : Φ.fn 9 = some φ9) (D : DiceOk φ9) (h50 : Φ.fn 50 = some φ50) (Ti : TilesOk φ50) (h34 : Φ.fn 34 = some φ34) (N : NextOk φ34) (h40 : Φ.fn 40 = some φ40) (Rf : RefOk φ40) (h29 : Φ.fn 29 = some (.p 2 g29)) (Lk : LikeOk (.p 2 g29) 2) (hψ : Φ.cl 2 = some ψ) (T : TinM ψ) (ht0 : Φ.mt 2 0 = some φt) (Tt : TtilesM φt) (hm1 : Φ.mt 2 1 = some φm) (Tm : TmanyM φm)
    (ns : List Int) (hl : ns.length ≤ 63) : gP Φ n B_law01 13 [.d (.list (ns.map .int))] = some (.ret (.d (.bool true))) := by
  have sp : sizeLine = 16777216 := by decide
  obtain ⟨l, dl, e1⟩ := D ns [] hl
  obtain ⟨ts0, c2, t0, t5, tk0, d2, e2⟩ := Ti [.lst l] 0 (.lst l) 5 dl rfl rfl (by decide) (by decide)
  generalize hA : (some (.d (.list (ns.map .int))) : Option W) = A
  have s1 : runS Φ n (.asg (.n 1) (.th (.call 9 (.cons (.var 0) .nil)))) (startE 13 [.d (.list (ns.map .int))]) [] = .ok (.nx, [A, some (.h 0), none, none, none, none, none, none, none, none, none, none, none]) [.lst l] := by
    rw [← hA]
    exact set_n (by simp [startE, h9, e1])
  have s2 : runS Φ n (.asg (.n 2) (.th (.call 50 (.cons (.var 1) (.cons (E_i 5) .nil))))) [A, some (.h 0), none, none, none, none, none, none, none, none, none, none, none] [.lst l] = .ok (.nx, [A, some (.h 0), some (.h 1), none, none, none, none, none, none, none, none, none, none]) [c2, .lst (ts0.map Tile.d)] := by
    refine set_n (w := .h 1) ?_
    rw [rE_th, rF_call, h50]
    show R.bind (callL φ50 [.h 0, .d (.int 5)] [.lst l]) _ = _
    unfold callL
    rw [e2]
    rfl
  -- one tile again, perhaps
  obtain ⟨q3, c3, q30, q31, d3, e3⟩ := nx_run (Φ := Φ) h34 N d2 (ts0.map Tile.d) (m := 3) (by decide) (by decide) (ρ := [A, some (.h 0), some (.h 1), none, none, none, none, none, none, none, none, none, none]) rfl
  have s3 : ∃ ts : List Tile, 1 ≤ ts.length ∧ ts.length ≤ 6 ∧ (∀ t ∈ ts, t.ok) ∧ runS Φ n (.ite (.cmp .eq (E_nx 3) (E_i 2)) [(.ex (.app (.var 2) (.idx (.var 2) (E_i 0))))] []) [A, some (.h 0), some (.h 1), none, none, none, none, none, none, none, none, none, none] [c2, .lst (ts0.map Tile.d)] = .ok (.nx, [A, some (.h 0), some (.h 1), none, none, none, none, none, none, none, none, none, none]) [c3, .lst (ts.map Tile.d)] := by
    have ec : runE Φ (.cmp .eq (E_nx 3) (E_i 2)) [A, some (.h 0), some (.h 1), none, none, none, none, none, none, none, none, none, none] [c2, .lst (ts0.map Tile.d)] = .ok (.d (.bool (decide (q3 = 2)))) [c3, .lst (ts0.map Tile.d)] := by
      rw [rE_cmp, e3 (E_i 3) cstV]
      rfl
    by_cases hq : q3 = 2
    · rw [decide_eq_true hq] at ec
      have h0 : ts0[0]? = some ts0[0] := List.getElem?_eq_getElem (by omega)
      have hx : runE Φ (.idx (.var 2) (E_i 0)) [A, some (.h 0), some (.h 1), none, none, none, none, none, none, none, none, none, none] [c3, .lst (ts0.map Tile.d)] = .ok (.d ts0[0].d) [c3, .lst (ts0.map Tile.d)] := idxV (w := .h 1) rfl rfl cstV (atD_nat (by decide) (by rw [List.getElem?_map]; show Option.map _ ts0[0]? = _; rw [h0]; rfl))
      refine ⟨ts0 ++ [ts0[0]], by simp, by simp; omega, fun t ht => ?_, ?_⟩
      · rcases List.mem_append.mp ht with h | h
        · exact tk0 t h
        · rw [List.mem_singleton.mp h]; exact tk0 _ (List.getElem_mem _)
      · rw [ite_T ec, rB_cons, rS_ex, rE_app, varV (w := .h 1) rfl, R.bind_ok]
        show R.sq (R.st (if true = true then _ else _) _ _) _ = _
        rw [if_pos rfl, hx]
        show R.sq (R.st (if (ts0.map Tile.d).length < sizeLine then R.ok (W.d .none) [c3, Cell.lst (ts0.map Tile.d ++ [ts0[0].d])] else R.no) _ _) _ = _
        rw [if_pos (by rw [List.length_map]; omega), List.map_append]
        rfl
    · rw [decide_eq_false hq] at ec
      exact ⟨ts0, t0, by omega, tk0, by rw [ite_F ec, rB_nil]⟩
  obtain ⟨ts, t1, t6, tk, s3⟩ := s3
  obtain ⟨way, c4, w0, w1, d4, e4⟩ := nx_run (Φ := Φ) h34 N d3 (ts.map Tile.d) (m := 6) (by decide) (by decide) (ρ := [A, some (.h 0), some (.h 1), none, none, none, none, none, none, none, none, none, none]) rfl
  have s4 : runS Φ n (.asg (.n 3) (E_nx 6)) [A, some (.h 0), some (.h 1), none, none, none, none, none, none, none, none, none, none] [c3, .lst (ts.map Tile.d)] = .ok (.nx, [A, some (.h 0), some (.h 1), some (.d (.int way)), none, none, none, none, none, none, none, none, none]) [c4, .lst (ts.map Tile.d)] := set_n (e4 (E_i 6) cstV)
  have c5 : runE Φ (.cmp .eq (.var 3) (E_i 5)) [A, some (.h 0), some (.h 1), some (.d (.int way)), none, none, none, none, none, none, none, none, none] [c4, .lst (ts.map Tile.d)] = .ok (.d (.bool (decide (way = 5)))) [c4, .lst (ts.map Tile.d)] := rfl
  have c6 : runE Φ (.cmp .gt (.var 3) (E_i 2)) [A, some (.h 0), some (.h 1), some (.d (.int way)), none, none, none, none, none, none, none, none, none] [c4, .lst (ts.map Tile.d)] = .ok (.d (.bool (decide (2 < way)))) [c4, .lst (ts.map Tile.d)] := rfl
  show endP (runB Φ n B_law01 (startE 13 [.d (.list (ns.map .int))]) []) = _
  unfold B_law01
  rw [step1 s1, step1 s2, step1 s3, step1 s4]
  by_cases h5 : way = 5
  · rw [decide_eq_true h5] at c5
    rw [rB_cons, ite_T c5, way5_run h40 Rf]
    rfl
  · rw [decide_eq_false h5] at c5
    rw [rB_cons, ite_F c5, rB_nil, R.sq_nx]
    by_cases h2 : 2 < way
    · rw [decide_eq_true h2] at c6
      obtain ⟨ρ', s', em⟩ := mark_run (Φ := Φ) (n := n) h34 N h40 Rf t1 t6 tk d4 h2 (by omega) (A := A) (o4 := none) (o5 := none) (o6 := none) (o7 := none) (o8 := none) (o9 := none) (o10 := none) (o11 := none) (o12 := none)
      rw [rB_cons, ite_T c6, em]
      rfl
    · rw [decide_eq_false h2] at c6
      obtain ⟨lc, rfl⟩ := d4.lst
      have s7 : runS Φ n (.asg (.n 9) (.th (.list (.var 2)))) [A, some (.h 0), some (.h 1), some (.d (.int way)), none, none, none, none, none, none, none, none, none] [.lst lc, .lst (ts.map Tile.d)] = .ok (.nx, [A, some (.h 0), some (.h 1), some (.d (.int way)), none, none, none, none, none, some (.h 2), none, none, none]) [.lst lc, .lst (ts.map Tile.d), .lst (ts.map Tile.d)] := rfl
      have em := T.good ts [.lst lc, .lst (ts.map Tile.d), .lst (ts.map Tile.d)] (.h 2) rfl t1 (by omega) tk rfl
      have s8 : runS Φ n (.asg (.n 10) (.mk 2 (.cons (.var 9) .nil))) [A, some (.h 0), some (.h 1), some (.d (.int way)), none, none, none, none, none, some (.h 2), none, none, none] [.lst lc, .lst (ts.map Tile.d), .lst (ts.map Tile.d)] = .ok (.nx, [A, some (.h 0), some (.h 1), some (.d (.int way)), none, none, none, none, none, some (.h 2), some (.h 3), none, none]) [.lst lc, .lst (ts.map Tile.d), .lst (ts.map Tile.d), .ins 2 [(3, .d (rowsD ts))]] := set_n (w := .h 3) (by
        rw [rE_mk, hψ]
        exact em)
      have f1 := turn01_run (Φ := Φ) (n := n) h29 Lk ht0 Tt hm1 Tm (ts := ts) (by omega) (H := ts.map Tile.d) (s := [.lst lc, .lst (ts.map Tile.d), .lst (ts.map Tile.d), .ins 2 [(3, .d (rowsD ts))]]) rfl rfl rfl rfl (A := A) (o3 := some (.d (.int way))) (o4 := none) (o5 := none) (o6 := none) (o7 := none) (o8 := none) (o11 := some (.d (.int 0))) (o12 := none)
      have f2 := turn01_run (Φ := Φ) (n := n) h29 Lk ht0 Tt hm1 Tm (ts := ts) (by omega) (H := []) (s := [.lst lc, .lst (ts.map Tile.d), .lst [], .ins 2 [(3, .d (rowsD ts))], .lst []]) rfl rfl rfl rfl (A := A) (o3 := some (.d (.int way))) (o4 := none) (o5 := none) (o6 := none) (o7 := none) (o8 := none) (o11 := some (.d (.int 1))) (o12 := some (.h 4))
      have s9 : runS Φ n (.for (.n 11) (.rng1 (E_i 2)) B_turn01) [A, some (.h 0), some (.h 1), some (.d (.int way)), none, none, none, none, none, some (.h 2), some (.h 3), none, none] [.lst lc, .lst (ts.map Tile.d), .lst (ts.map Tile.d), .ins 2 [(3, .d (rowsD ts))]] = .ok (.nx, [A, some (.h 0), some (.h 1), some (.d (.int way)), none, none, none, none, none, some (.h 2), some (.h 3), some (.d (.int 1)), some (.h 5)]) [.lst lc, .lst (ts.map Tile.d), .lst [], .ins 2 [(3, .d (rowsD ts))], .lst [], .lst []] := by
        have eI : runI Φ (.rng1 (E_i 2)) [A, some (.h 0), some (.h 1), some (.d (.int way)), none, none, none, none, none, some (.h 2), some (.h 3), none, none] [.lst lc, .lst (ts.map Tile.d), .lst (ts.map Tile.d), .ins 2 [(3, .d (rowsD ts))]] = .ok [.int 0, .int 1] [.lst lc, .lst (ts.map Tile.d), .lst (ts.map Tile.d), .ins 2 [(3, .d (rowsD ts))]] := rfl
        rw [rS_for, eI, forS_ok, forK_cons]
        show R.lp (runB Φ n B_turn01 [A, some (.h 0), some (.h 1), some (.d (.int way)), none, none, none, none, none, some (.h 2), some (.h 3), some (.d (.int 0)), none] [.lst lc, .lst (ts.map Tile.d), .lst (ts.map Tile.d), .ins 2 [(3, .d (rowsD ts))]]) _ = _
        rw [f1, R.lp_nx, forK_cons]
        show R.lp (runB Φ n B_turn01 [A, some (.h 0), some (.h 1), some (.d (.int way)), none, none, none, none, none, some (.h 2), some (.h 3), some (.d (.int 1)), some (.h 4)] [.lst lc, .lst (ts.map Tile.d), .lst [], .ins 2 [(3, .d (rowsD ts))], .lst []]) _ = _
        rw [f2, R.lp_nx, forK_nil]
        rfl
      -- two hundred alike
      have h0 : ts[0]? = some ts[0] := List.getElem?_eq_getElem (by omega)
      have e10 : runE Φ E_200 [A, some (.h 0), some (.h 1), some (.d (.int way)), none, none, none, none, none, some (.h 2), some (.h 3), some (.d (.int 1)), some (.h 5)] [.lst lc, .lst (ts.map Tile.d), .lst [], .ins 2 [(3, .d (rowsD ts))], .lst [], .lst []] = .ok (.d (rowsD (List.replicate 200 ts[0]))) [.lst lc, .lst (ts.map Tile.d), .lst [], .ins 2 [(3, .d (rowsD ts))], .lst [], .lst []] := by
        have e := slcL_to (Φ := Φ) (k := 1) (varV (i := 2) (w := .h 1) (ρ := [A, some (.h 0), some (.h 1), some (.d (.int way)), none, none, none, none, none, some (.h 2), some (.h 3), some (.d (.int 1)), some (.h 5)]) (s := [.lst lc, .lst (ts.map Tile.d), .lst [], .ins 2 [(3, .d (rowsD ts))], .lst [], .lst []]) rfl) rfl (e2 := E_i 1) cstV
        have hk : (ts.map Tile.d).take 1 = [ts[0].d] := take1 ts (by omega)
        rw [hk] at e
        rw [rE_bin, e]
        rfl
      have em2 := T.good (List.replicate 200 ts[0]) [.lst lc, .lst (ts.map Tile.d), .lst [], .ins 2 [(3, .d (rowsD ts))], .lst [], .lst []] (.d (rowsD (List.replicate 200 ts[0]))) rfl (by rw [List.length_replicate]; decide) (by rw [List.length_replicate]; decide) (fun t ht => by rw [List.eq_of_mem_replicate ht]; exact tk _ (List.getElem_mem _)) rfl
      have e11 : runE Φ (.meth (.mk 2 (.cons E_200 .nil)) 0 .nil) [A, some (.h 0), some (.h 1), some (.d (.int way)), none, none, none, none, none, some (.h 2), some (.h 3), some (.d (.int 1)), some (.h 5)] [.lst lc, .lst (ts.map Tile.d), .lst [], .ins 2 [(3, .d (rowsD ts))], .lst [], .lst []] = .ok (.d (rowsD (List.replicate 200 ts[0]))) [.lst lc, .lst (ts.map Tile.d), .lst [], .ins 2 [(3, .d (rowsD ts))], .lst [], .lst [], .ins 2 [(3, .d (rowsD (List.replicate 200 ts[0])))]] := by
        have e : runE Φ (.mk 2 (.cons E_200 .nil)) [A, some (.h 0), some (.h 1), some (.d (.int way)), none, none, none, none, none, some (.h 2), some (.h 3), some (.d (.int 1)), some (.h 5)] [.lst lc, .lst (ts.map Tile.d), .lst [], .ins 2 [(3, .d (rowsD ts))], .lst [], .lst []] = .ok (.h 6) [.lst lc, .lst (ts.map Tile.d), .lst [], .ins 2 [(3, .d (rowsD ts))], .lst [], .lst [], .ins 2 [(3, .d (rowsD (List.replicate 200 ts[0])))]] := by
          rw [rE_mk, hψ]
          simp only [rEs_cons, rEs_nil, e10, R.bind_ok]
          exact em2
        rw [rE_meth, e, R.bind_ok]
        have hcl : clsOf [.lst lc, .lst (ts.map Tile.d), .lst [], .ins 2 [(3, .d (rowsD ts))], .lst [], .lst [], .ins 2 [(3, .d (rowsD (List.replicate 200 ts[0])))]] (.h 6) = some 2 := rfl
        rw [hcl]
        simp only [ht0, rEs_nil, R.bind_ok]
        unfold callF
        rw [Tt (List.replicate 200 ts[0]) _ 6 rfl rfl]
        rfl
      have e12 : runE Φ E_last01 [A, some (.h 0), some (.h 1), some (.d (.int way)), none, none, none, none, none, some (.h 2), some (.h 3), some (.d (.int 1)), some (.h 5)] [.lst lc, .lst (ts.map Tile.d), .lst [], .ins 2 [(3, .d (rowsD ts))], .lst [], .lst []] = .ok (.d (.bool true)) [.lst lc, .lst (ts.map Tile.d), .lst [], .ins 2 [(3, .d (rowsD ts))], .lst [], .lst [], .ins 2 [(3, .d (rowsD (List.replicate 200 ts[0])))]] := by
        rw [rE_cmp, rE_bi, rEs_cons, e11, R.bind_ok, rEs_nil]
        rfl
      rw [rB_cons, ite_F c6, rB_nil, R.sq_nx, step1 s7, step1 s8, step1 s9, rB_cons, rS_ret, e12]
      rfl
end
end
end DM

set_option maxRecDepth 100000
set_option maxHeartbeats 0
namespace K01
open PySem PySem.Spec PyProof.Rows L2 DM
def top (i : Nat) : Stmt := PySem.Challenge.pw_tilelaw_k01_sets_refused.main.body.getD i (.Pass ⟨0, 0, 0, 0⟩)
def NM : Nms := ⟨(["_law_across", "_law_alike", "_law_back", "_law_blocked", "_law_by_sizes", "_law_column", "_law_columns_of", "_law_copied", "_law_counted", "_law_dice", "_law_drawn", "_law_first", "_law_fits", "_law_fixed", "_law_goes", "_law_goes_on", "_law_great", "_law_has", "_law_having", "_law_held", "_law_is", "_law_is_column", "_law_is_laid", "_law_is_laying", "_law_is_naming", "_law_is_ring", "_law_kept", "_law_layings", "_law_lean", "_law_like", "_law_many", "_law_mark", "_law_marks", "_law_more", "_law_next", "_law_none", "_law_orders", "_law_other", "_law_over", "_law_plane", "_law_refused", "_law_renamed", "_law_ring", "_law_ring_size", "_law_rings", "_law_rolls", "_law_side", "_law_size", "_law_small", "_law_steps", "_law_tiles", "_law_told", "_law_whole", "_wall", "around", "blocked", "blocks", "both", "columns", "counts", "either", "filled", "fillings", "forced", "goes_on", "has_neighbours", "is_free", "is_laid", "is_rolled", "laid", "law", "lean", "longest", "mark_of", "matched", "mirrored", "need_few", "need_fixed", "need_size", "number_of", "plane", "read", "rolled", "rows_of", "shortest_ring", "steps_back", "strip", "turned", "written"] : List String).map Str.ofString,
  (["BadSet", "BadText", "Tiles", "TileError", "BadSpot", "NoLaying", "TooMany", "Band", "Laying", "Filling", "Rolling", "Matching"] : List String).map Str.ofString,
  (["tiles", "many", "is_beside", "is_below", "greatest", "step", "fits", "goes", "rows", "__init__"] : List String).map Str.ofString,
  (["at", "why", "row", "squares", "columns", "nexts", "kit", "high", "wide", "fixed", "bad", "known", "one", "other", "names"] : List String).map Str.ofString,
  (["len", "int", "str", "bool", "tuple", "list", "dict", "max", "min", "isinstance", "range", "sorted", "sum", "set"] : List String).map Str.ofString,
  [("MOST_TILES", .int 200), ("MOST_MARK", .int 1000000000000)],
  [[], [], [3], [], [], [], [], [4, 5], [6, 7, 8, 9, 2, 10], [6, 7, 8, 9, 2, 10, 11], [6, 7, 8, 9, 2, 10], [12, 13, 14]], [(3, [(0, true)])], []⟩
abbrev s_law_dice : Stmt := top 13
abbrev N_law_dice : List Str := ["_law_script", "_law_mixed", "_law_cell"]
abbrev p_law_dice : List Str := ["_law_script"]
theorem cb_law_dice : compB (ccOf NM s_law_dice N_law_dice [] [] ["bad", "fixed", "known"] true) (defBody s_law_dice) = B_dice := by kernel_rfl
theorem sc_law_dice : FnScope N_law_dice p_law_dice (defScope s_law_dice) := ⟨rfl, rfl, rfl, by decide +kernel, rfl, by decide +kernel, by decide +kernel⟩
abbrev s_law_next : Stmt := top 14
abbrev N_law_next : List Str := ["_law_dice_here", "_law_many", "_law_found", "_law_cell"]
abbrev p_law_next : List Str := ["_law_dice_here", "_law_many"]
theorem cb_law_next : compB (ccOf NM s_law_next N_law_next [] [] ["bad", "fixed", "known"] false) (defBody s_law_next) = B_next := by kernel_rfl
theorem sc_law_next : FnScope N_law_next p_law_next (defScope s_law_next) := ⟨rfl, rfl, rfl, by decide +kernel, rfl, by decide +kernel, by decide +kernel⟩
abbrev s_law_marks : Stmt := top 17
abbrev N_law_marks : List Str := ["_law_d", "_law_names", "_law_way", "_law_one"]
abbrev p_law_marks : List Str := ["_law_d"]
theorem cb_law_marks : compB (ccOf NM s_law_marks N_law_marks [] [] ["bad", "fixed", "known"] false) (defBody s_law_marks) = B_marks := by kernel_rfl
theorem sc_law_marks : FnScope N_law_marks p_law_marks (defScope s_law_marks) := ⟨rfl, rfl, rfl, by decide +kernel, rfl, by decide +kernel, by decide +kernel⟩
abbrev s_law_tiles : Stmt := top 18
abbrev N_law_tiles : List Str := ["_law_d", "_law_most", "_law_across", "_law_down", "_law_rows", "_law_k", "_law_north", "_law_east", "_law_south"]
abbrev p_law_tiles : List Str := ["_law_d", "_law_most"]
theorem cb_law_tiles : compB (ccOf NM s_law_tiles N_law_tiles ["_law_rows"] [] ["bad", "fixed", "known"] true) (defBody s_law_tiles) = B_tiles := by kernel_rfl
theorem sc_law_tiles : FnScope N_law_tiles p_law_tiles (defScope s_law_tiles) := ⟨rfl, rfl, rfl, by decide +kernel, rfl, by decide +kernel, by decide +kernel⟩
abbrev s_law_like : Stmt := top 16
abbrev N_law_like : List Str := ["_law_found", "_law_due", "_law_k"]
abbrev p_law_like : List Str := ["_law_found", "_law_due"]
theorem cb_law_like : compB (ccOf NM s_law_like N_law_like [] [] ["bad", "fixed", "known"] false) (defBody s_law_like) = B_like := by kernel_rfl
theorem sc_law_like : FnScope N_law_like p_law_like (defScope s_law_like) := ⟨rfl, rfl, rfl, by decide +kernel, rfl, by decide +kernel, by decide +kernel⟩
abbrev s_Tiles_init : Stmt := inClass (top 11) 0
abbrev N_Tiles_init : List Str := ["self", "rows", "at", "mark"]
abbrev p_Tiles_init : List Str := ["self", "rows"]
theorem cb_Tiles_init : compB (ccOf NM s_Tiles_init N_Tiles_init [] [] ["bad", "fixed", "known"] false) (defBody s_Tiles_init) = B_Tinit := by kernel_rfl
theorem sc_Tiles_init : FnScope N_Tiles_init p_Tiles_init (defScope s_Tiles_init) := ⟨rfl, rfl, rfl, by decide +kernel, rfl, by decide +kernel, by decide +kernel⟩
abbrev s_Tiles_tiles : Stmt := inClass (top 11) 1
abbrev N_Tiles_tiles : List Str := ["self"]
abbrev p_Tiles_tiles : List Str := ["self"]
theorem cb_Tiles_tiles : compB (ccOf NM s_Tiles_tiles N_Tiles_tiles [] [] ["bad", "fixed", "known"] true) (defBody s_Tiles_tiles) = B_TtilesT := by kernel_rfl
theorem sc_Tiles_tiles : FnScope N_Tiles_tiles p_Tiles_tiles (defScope s_Tiles_tiles) := ⟨rfl, rfl, rfl, by decide +kernel, rfl, by decide +kernel, by decide +kernel⟩
abbrev s_Tiles_many : Stmt := inClass (top 11) 2
abbrev N_Tiles_many : List Str := ["self"]
abbrev p_Tiles_many : List Str := ["self"]
theorem cb_Tiles_many : compB (ccOf NM s_Tiles_many N_Tiles_many [] [] ["bad", "fixed", "known"] false) (defBody s_Tiles_many) = B_many := by kernel_rfl
theorem sc_Tiles_many : FnScope N_Tiles_many p_Tiles_many (defScope s_Tiles_many) := ⟨rfl, rfl, rfl, by decide +kernel, rfl, by decide +kernel, by decide +kernel⟩
abbrev s_law_refused : Stmt := top 22
abbrev N_law_refused : List Str := ["_law_rows", "_law_at", "_law_why", "_law_e"]
abbrev p_law_refused : List Str := ["_law_rows", "_law_at", "_law_why"]
theorem cb_law_refused : compB (ccOf NM s_law_refused N_law_refused [] [] ["bad", "fixed", "known"] false) (defBody s_law_refused) = B_refused := by kernel_rfl
theorem sc_law_refused : FnScope N_law_refused p_law_refused (defScope s_law_refused) := ⟨rfl, rfl, rfl, by decide +kernel, rfl, by decide +kernel, by decide +kernel⟩
abbrev s_law_is : Stmt := top 21
abbrev N_law_is : List Str := ["_law_e", "_law_word", "_law_kinds", "_law_words", "_law_one"]
abbrev p_law_is : List Str := ["_law_e", "_law_word"]
theorem sc_law_is : FnScope N_law_is p_law_is (defScope s_law_is) := ⟨rfl, rfl, rfl, by decide +kernel, rfl, by decide +kernel, by decide +kernel⟩
abbrev s_law_whole : Stmt := top 15
abbrev N_law_whole : List Str := ["_law_found"]
abbrev p_law_whole : List Str := ["_law_found"]
theorem sc_law_whole : FnScope N_law_whole p_law_whole (defScope s_law_whole) := ⟨rfl, rfl, rfl, by decide +kernel, rfl, by decide +kernel, by decide +kernel⟩
abbrev s_BadSet_init : Stmt := inClass (top 3) 0
abbrev N_BadSet_init : List Str := ["self", "at", "why"]
abbrev p_BadSet_init : List Str := ["self", "at", "why"]
theorem sc_BadSet_init : FnScope N_BadSet_init p_BadSet_init (defScope s_BadSet_init) := ⟨rfl, rfl, rfl, by decide +kernel, rfl, by decide +kernel, by decide +kernel⟩
abbrev s_law : Stmt := top 23
abbrev N_law : List Str := ["_law_script", "_law_d", "_law_rows", "_law_way", "_law_at", "_law_side", "_law_bad", "_law_spoilt", "_law_behind", "_law_handed", "_law_tiles_here", "_law_turn", "_law_found"]
abbrev p_law : List Str := ["_law_script"]
theorem cb_law : compB (ccOf NM s_law N_law ["_law_d", "_law_found", "_law_handed", "_law_rows"] [] ["bad", "fixed", "known"] false) (defBody s_law) = B_law01 := by kernel_rfl
theorem sc_law : FnScope N_law p_law (defScope s_law) := ⟨rfl, rfl, rfl, by decide +kernel, rfl, by decide +kernel, by decide +kernel⟩
theorem isb : defBody s_law_is = DH.isPre ⟨122, 4, 122, 14⟩ ⟨122, 17, 122, 133⟩ ⟨122, 4, 122, 133⟩ ⟨123, 4, 123, 14⟩ ⟨123, 4, 123, 21⟩ ⟨123, 4, 123, 50⟩ ⟨123, 4, 123, 50⟩ ⟨124, 4, 124, 14⟩ ⟨124, 17, 124, 56⟩ ⟨124, 4, 124, 56⟩ ⟨122, 18, 122, 28⟩ ⟨122, 29, 122, 35⟩ ⟨122, 37, 122, 43⟩ ⟨122, 18, 122, 44⟩ ⟨122, 46, 122, 56⟩ ⟨122, 57, 122, 63⟩ ⟨122, 65, 122, 72⟩ ⟨122, 46, 122, 73⟩ ⟨122, 75, 122, 85⟩ ⟨122, 86, 122, 92⟩ ⟨122, 94, 122, 102⟩ ⟨122, 75, 122, 103⟩ ⟨122, 105, 122, 115⟩ ⟨122, 116, 122, 122⟩ ⟨122, 124, 122, 131⟩ ⟨122, 105, 122, 132⟩ ⟨123, 22, 123, 32⟩ ⟨123, 33, 123, 39⟩ ⟨123, 41, 123, 48⟩ ⟨123, 22, 123, 49⟩ ⟨124, 18, 124, 23⟩ ⟨124, 25, 124, 31⟩ ⟨124, 33, 124, 39⟩ ⟨124, 41, 124, 47⟩ ⟨124, 49, 124, 55⟩ 0 0 0 0 0 (DH.isLast ⟨125, 11, 125, 21⟩ ⟨125, 22, 125, 28⟩ ⟨125, 30, 125, 40⟩ ⟨125, 11, 125, 41⟩ ⟨125, 46, 125, 56⟩ ⟨125, 46, 125, 110⟩ ⟨125, 11, 125, 110⟩ ⟨125, 4, 125, 110⟩ ⟨125, 61, 125, 70⟩ ⟨125, 74, 125, 82⟩ ⟨125, 61, 125, 82⟩ ⟨125, 87, 125, 95⟩ ⟨125, 99, 125, 109⟩ ⟨125, 60, 125, 110⟩ (DH.isScope s_law_is)) := by kernel_rfl
theorem isb_sc : DH.isScB (defScope s_law_is) (DH.isScope s_law_is) = true := by decide +kernel
theorem isb_bl : BlkOk DH.isN (defScope s_law_is) (DH.isScope s_law_is) [(("_law_one" : Str), 4)] := blkOk_by (by decide +kernel)
theorem whb : defBody s_law_whole = DH.whBody "_law_found" ⟨71, 11, 71, 21⟩ ⟨71, 22, 71, 32⟩ ⟨71, 34, 71, 37⟩ ⟨71, 11, 71, 38⟩ ⟨71, 48, 71, 58⟩ ⟨71, 59, 71, 69⟩ ⟨71, 71, 71, 75⟩ ⟨71, 48, 71, 76⟩ ⟨71, 44, 71, 76⟩ ⟨71, 11, 71, 77⟩ ⟨71, 4, 71, 77⟩ := by kernel_rfl
theorem whb_sc : (DH.vsB (defScope s_law_whole) "_law_found" && DH.glB (defScope s_law_whole) "isinstance" && DH.glB (defScope s_law_whole) "int" && DH.glB (defScope s_law_whole) "bool") = true := by decide +kernel
theorem bsb : defBody s_BadSet_init = DH.bsBody ⟨10, 8, 10, 17⟩ ⟨10, 8, 10, 26⟩ ⟨10, 27, 10, 31⟩ ⟨10, 33, 10, 36⟩ ⟨10, 8, 10, 37⟩ ⟨10, 8, 10, 37⟩ ⟨11, 8, 11, 12⟩ ⟨11, 8, 11, 15⟩ ⟨11, 18, 11, 20⟩ ⟨11, 8, 11, 20⟩ ⟨12, 8, 12, 12⟩ ⟨12, 8, 12, 16⟩ ⟨12, 19, 12, 22⟩ ⟨12, 8, 12, 22⟩ := by kernel_rfl
theorem bsb_sc : (defScope s_BadSet_init).names.lookup ("TileError" : Str) = some .globalImplicit := by decide +kernel
theorem bsb_v : (DH.vsB (defScope s_BadSet_init) "self" && DH.vsB (defScope s_BadSet_init) "at" && DH.vsB (defScope s_BadSet_init) "why") = true := by decide +kernel
def F0 : Phi := phi0 NM
def hxv : Hx := { wd := fun g c => if g = 20 ∧ c = 0 then some [true, false, false, false, false] else none, wh := fun g => decide (g = 52), xi := fun c => if c = 0 then some [0, 1] else none, xf := fun c f => if c = 0 ∧ f = 0 then true else if c = 0 ∧ f = 1 then true else false }
def F1 : Phi := F0.setFn 9 (.p 1 (gP F0 1 B_dice 3))
def F2 : Phi := F1.setFn 34 (.m 2 (gM F1 1 B_next 4 0))
def F3 : Phi := F2.setFn 32 (.m 1 (gM F2 1 B_marks 4 0))
def F4 : Phi := F3.setFn 50 (.m 2 (gM F3 1 B_tiles 9 0))
def F5 : Phi := F4.setHx hxv
def F6 : Phi := F5.setFn 29 (.p 2 (gP F5 1 B_like 3))
def F7 : Phi := F6.setFn 29 (.p 2 (gP F6 1 B_like 3))
def F8 : Phi := F7.setFn 29 (.p 2 (gP F7 1 B_like 3))
def F9 : Phi := F8.setCl 2 (.m 1 (gM F8 1 B_Tinit 4 0))
def F10 : Phi := F9.setMt 2 0 (.m 1 (gM F9 1 B_TtilesT 1 0))
def F11 : Phi := F10.setMt 2 1 (.m 1 (gM F10 1 B_many 1 0))
def F12 : Phi := F11.setFn 40 (.p 3 (gP F11 1 B_refused 4))
abbrev gLaw : List W → Option Ro := gP F12 1 B_law01 13
theorem law_is : ∀ ns : List Int, ns.length ≤ 63 → gLaw [.d (.list (ns.map .int))] = some (.ret (.d (.bool true))) := fun ns hl => by
  have N : NextOk (.m 2 (gM F1 1 B_next 4 0)) := next_ok _ _
  have M : MarksOk (.m 1 (gM F2 1 B_marks 4 0)) := marks_ok rfl N 1
  have Ti : TilesOk (.m 2 (gM F3 1 B_tiles 9 0)) := tiles_ok 1 rfl N rfl M
  have L0 : LikeOk (.p 2 (gP F5 1 B_like 3)) 0 := like_ok0 1
  have L1 : LikeOk (.p 2 (gP F6 1 B_like 3)) 1 := like_ok 1 rfl L0
  have L2 : LikeOk (.p 2 (gP F7 1 B_like 3)) 2 := like_ok 1 rfl L1
  have T1 : TinM (.m 1 (gM F8 1 B_Tinit 4 0)) := tin_ok rfl rfl
  have Tt : TtilesM (.m 1 (gM F9 1 B_TtilesT 1 0)) := ttilesM_ok
  have Tm : TmanyM (.m 1 (gM F10 1 B_many 1 0)) := tmanyM_ok
  have Rf : RefOk (.p 3 (gP F11 1 B_refused 4)) := refused_ok rfl T1 rfl rfl rfl rfl rfl rfl
  exact law01 rfl (dice_ok _ _) rfl Ti rfl N rfl Rf rfl L2 rfl T1 rfl Tt rfl Tm ns hl
theorem all_mk {l : PySem.W.OpenLaw} {w : World} {K : PySem.W.Frag} {h : Heap} {mg : Str → Option Value} {fa : Addr} {f_law_dice f_law_next f_law_marks f_law_tiles f_law_like f_Tiles_init f_Tiles_tiles f_Tiles_many f_law_refused f_law_is f_law_whole f_BadSet_init f_law C_Tiles C_BadSet C_BadText C_TileError C_BadSpot C_NoLaying C_TooMany : Addr} {nmx_BadSet qx_BadSet : Str} {Nx_BadSet : Addr} {bsx_BadSet bmx_BadSet sbx_BadSet : List Value} {snx_BadSet : List Str} {abx_BadSet : Bool} {clx_BadSet : Option Bool} {ddx_BadSet : Option Addr} {k0x_BadSet k1x_BadSet k2x_BadSet k3x_BadSet k5x_BadSet : Option Value} {od_law_dice an_law_dice od_law_next an_law_next od_law_marks an_law_marks od_law_tiles an_law_tiles od_law_like an_law_like od_Tiles_init an_Tiles_init od_Tiles_tiles an_Tiles_tiles od_Tiles_many an_Tiles_many od_law_refused an_law_refused od_law_is an_law_is od_law_whole an_law_whole od_BadSet_init an_BadSet_init od_law an_law : Option Addr} {sl_law_dice sl_law_next sl_law_marks sl_law_tiles sl_law_like sl_Tiles_init sl_Tiles_tiles sl_Tiles_many sl_law_refused sl_law_is sl_law_whole sl_BadSet_init sl_law : Array (Option Value)} {oc_law_dice kV_law_dice dc_law_dice pm_law_dice cd_law_dice ct_law_dice oc_law_next kV_law_next dc_law_next pm_law_next cd_law_next ct_law_next oc_law_marks kV_law_marks dc_law_marks pm_law_marks cd_law_marks ct_law_marks oc_law_tiles kV_law_tiles dc_law_tiles pm_law_tiles cd_law_tiles ct_law_tiles oc_law_like kV_law_like dc_law_like pm_law_like cd_law_like ct_law_like oc_Tiles_init kV_Tiles_init dc_Tiles_init pm_Tiles_init cd_Tiles_init ct_Tiles_init oc_Tiles_tiles kV_Tiles_tiles dc_Tiles_tiles pm_Tiles_tiles cd_Tiles_tiles ct_Tiles_tiles oc_Tiles_many kV_Tiles_many dc_Tiles_many pm_Tiles_many cd_Tiles_many ct_Tiles_many oc_law_refused kV_law_refused dc_law_refused pm_law_refused cd_law_refused ct_law_refused oc_law_is kV_law_is dc_law_is pm_law_is cd_law_is ct_law_is oc_law_whole kV_law_whole dc_law_whole pm_law_whole cd_law_whole ct_law_whole oc_BadSet_init kV_BadSet_init dc_BadSet_init pm_BadSet_init cd_BadSet_init ct_BadSet_init oc_law kV_law dc_law pm_law cd_law ct_law : Value} {tk_MOST_TILES : Tok} {pv : Program} (X : K.In h) (XPv : PySem.W.XL pv [("MOST_MARK", PySem.W.WData.int 1000000000000)] mg h) (G : h.Ns mainGlobals mg) (hfa : mg "law" = some (.ref fa))
    (aC_Tiles : PySem.W.nsIn K mainGlobals "Tiles" = some (some (.ref C_Tiles)))
    (pg_Tiles : PySem.W.plainGet K C_Tiles Str.empty = true)
    (hd_Tiles : PySem.W.hasDictIn K C_Tiles = true)
    (po_Tiles : PySem.W.plainOver K C_Tiles = true)
    (sa_Tiles : PySem.W.findIn K (.ref C_Tiles) "__setattr__" = some (some (.builtin "object.__setattr__")))
    (mk_Tiles : PySem.W.makesIn K C_Tiles = true)
    (kc_Tiles : PySem.W.keepIn K (.ref C_Tiles) = true)
    (nsquares_Tiles : PySem.W.findIn K (.ref C_Tiles) "squares" = some none)
    (aC_BadSet : PySem.W.nsIn K mainGlobals "BadSet" = some (some (.ref C_BadSet)))
    (kc_BadSet : PySem.W.keepIn K (.ref C_BadSet) = true)
    (dC_BadSet : PySem.W.hasDictIn K C_BadSet = true)
    (tC_BadSet : PySem.W.typeIn K (.ref C_BadSet) = some (.type "type"))
    (sB_BadSet : PySem.W.subIn K (.ref C_BadSet) (.type "BaseException") = some true)
    (aC_BadText : PySem.W.nsIn K mainGlobals "BadText" = some (some (.ref C_BadText)))
    (kc_BadText : PySem.W.keepIn K (.ref C_BadText) = true)
    (dC_BadText : PySem.W.hasDictIn K C_BadText = true)
    (tC_BadText : PySem.W.typeIn K (.ref C_BadText) = some (.type "type"))
    (sB_BadText : PySem.W.subIn K (.ref C_BadText) (.type "BaseException") = some true)
    (aC_TileError : PySem.W.nsIn K mainGlobals "TileError" = some (some (.ref C_TileError)))
    (kc_TileError : PySem.W.keepIn K (.ref C_TileError) = true)
    (dC_TileError : PySem.W.hasDictIn K C_TileError = true)
    (tC_TileError : PySem.W.typeIn K (.ref C_TileError) = some (.type "type"))
    (sB_TileError : PySem.W.subIn K (.ref C_TileError) (.type "BaseException") = some true)
    (aC_BadSpot : PySem.W.nsIn K mainGlobals "BadSpot" = some (some (.ref C_BadSpot)))
    (kc_BadSpot : PySem.W.keepIn K (.ref C_BadSpot) = true)
    (dC_BadSpot : PySem.W.hasDictIn K C_BadSpot = true)
    (tC_BadSpot : PySem.W.typeIn K (.ref C_BadSpot) = some (.type "type"))
    (sB_BadSpot : PySem.W.subIn K (.ref C_BadSpot) (.type "BaseException") = some true)
    (aC_NoLaying : PySem.W.nsIn K mainGlobals "NoLaying" = some (some (.ref C_NoLaying)))
    (kc_NoLaying : PySem.W.keepIn K (.ref C_NoLaying) = true)
    (dC_NoLaying : PySem.W.hasDictIn K C_NoLaying = true)
    (tC_NoLaying : PySem.W.typeIn K (.ref C_NoLaying) = some (.type "type"))
    (sB_NoLaying : PySem.W.subIn K (.ref C_NoLaying) (.type "BaseException") = some true)
    (aC_TooMany : PySem.W.nsIn K mainGlobals "TooMany" = some (some (.ref C_TooMany)))
    (kc_TooMany : PySem.W.keepIn K (.ref C_TooMany) = true)
    (dC_TooMany : PySem.W.hasDictIn K C_TooMany = true)
    (tC_TooMany : PySem.W.typeIn K (.ref C_TooMany) = some (.type "type"))
    (sB_TooMany : PySem.W.subIn K (.ref C_TooMany) (.type "BaseException") = some true)
    (ss_BadSet_TileError : PySem.W.subIn K (.ref C_BadSet) (.ref C_TileError) = some true)
    (zVE : PySem.W.nsIn K mainGlobals "ValueError" = some none)
    (xcg : PySem.W.specialIn K (.builtin "object.__class__") "__get__" = some (some (.builtin "getset_descriptor.__get__")))
    (xct : PySem.W.takesIn K (.builtin "object.__class__") = some true)
    (ga_BadSet : PySem.W.findIn K (.ref C_BadSet) "__getattribute__" = some (some (.builtin "BaseException.__getattribute__")))
    (gg_BadSet : PySem.W.findIn K (.ref C_BadSet) "__getattr__" = some none)
    (cl_BadSet : PySem.W.findIn K (.ref C_BadSet) "__class__" = some (some (.builtin "object.__class__")))
    (mo_BadSet : PySem.W.mroIn K C_BadSet (.type "object") = some true)
    (sv_BadSet : PySem.W.subIn K (.ref C_BadSet) (.type "ValueError") = some true)
    (ss_BadSet_BadSet : PySem.W.subIn K (.ref C_BadSet) (.ref C_BadSet) = some true)
    (ss_BadSet_BadSpot : PySem.W.subIn K (.ref C_BadSet) (.ref C_BadSpot) = some false)
    (ss_BadSet_NoLaying : PySem.W.subIn K (.ref C_BadSet) (.ref C_NoLaying) = some false)
    (ss_BadSet_TooMany : PySem.W.subIn K (.ref C_BadSet) (.ref C_TooMany) = some false)
    (ss_BadSet_BadText : PySem.W.subIn K (.ref C_BadSet) (.ref C_BadText) = some false)
    (sa_BadSet : PySem.W.findIn K (.ref C_BadSet) "__setattr__" = some (some (.builtin "object.__setattr__")))
    (lx_BadSet : K.lookup C_BadSet = some (excClassObj nmx_BadSet qx_BadSet C_BadSet Nx_BadSet bsx_BadSet bmx_BadSet true snx_BadSet sbx_BadSet abx_BadSet clx_BadSet ddx_BadSet k0x_BadSet k1x_BadSet k2x_BadSet k3x_BadSet k5x_BadSet "ValueError.__new__"))
    (rv_BadSet : PySem.HandSPX.refsVE bmx_BadSet = true)
    (nat_BadSet : PySem.W.findIn K (.ref C_BadSet) "at" = some none)
    (nwhy_BadSet : PySem.W.findIn K (.ref C_BadSet) "why" = some none)
    (rdTE : PySem.W.readsIn K C_TileError (Value.type "type") = true)
    (gaTE : PySem.W.specialIn K (.ref C_TileError) "__getattribute__" = some (some (.builtin "type.__getattribute__")))
    (fcTE : PySem.W.findCls K (.ref C_TileError) (Value.type "type") "__init__" = some (.val (.builtin "ValueError.__init__")))
    (a_law_dice : PySem.W.nsIn K mainGlobals "_law_dice" = some (some (.ref f_law_dice)))
    (l_law_dice : K.lookup f_law_dice = some ⟨oc_law_dice, od_law_dice, .func (PySem.W.fnOf "_law_dice" "_law_dice" (defArgs s_law_dice) (defBody s_law_dice) (defScope s_law_dice) .none kV_law_dice dc_law_dice pm_law_dice an_law_dice cd_law_dice ct_law_dice), sl_law_dice⟩)
    (c_law_dice : PySem.W.codeIn K cd_law_dice "_law_dice" = true)
    (k_law_dice : PySem.W.keepIn K (.ref f_law_dice) = true)
    (a_law_next : PySem.W.nsIn K mainGlobals "_law_next" = some (some (.ref f_law_next)))
    (l_law_next : K.lookup f_law_next = some ⟨oc_law_next, od_law_next, .func (PySem.W.fnOf "_law_next" "_law_next" (defArgs s_law_next) (defBody s_law_next) (defScope s_law_next) .none kV_law_next dc_law_next pm_law_next an_law_next cd_law_next ct_law_next), sl_law_next⟩)
    (c_law_next : PySem.W.codeIn K cd_law_next "_law_next" = true)
    (k_law_next : PySem.W.keepIn K (.ref f_law_next) = true)
    (a_law_marks : PySem.W.nsIn K mainGlobals "_law_marks" = some (some (.ref f_law_marks)))
    (l_law_marks : K.lookup f_law_marks = some ⟨oc_law_marks, od_law_marks, .func (PySem.W.fnOf "_law_marks" "_law_marks" (defArgs s_law_marks) (defBody s_law_marks) (defScope s_law_marks) .none kV_law_marks dc_law_marks pm_law_marks an_law_marks cd_law_marks ct_law_marks), sl_law_marks⟩)
    (c_law_marks : PySem.W.codeIn K cd_law_marks "_law_marks" = true)
    (k_law_marks : PySem.W.keepIn K (.ref f_law_marks) = true)
    (a_law_tiles : PySem.W.nsIn K mainGlobals "_law_tiles" = some (some (.ref f_law_tiles)))
    (l_law_tiles : K.lookup f_law_tiles = some ⟨oc_law_tiles, od_law_tiles, .func (PySem.W.fnOf "_law_tiles" "_law_tiles" (defArgs s_law_tiles) (defBody s_law_tiles) (defScope s_law_tiles) .none kV_law_tiles dc_law_tiles pm_law_tiles an_law_tiles cd_law_tiles ct_law_tiles), sl_law_tiles⟩)
    (c_law_tiles : PySem.W.codeIn K cd_law_tiles "_law_tiles" = true)
    (k_law_tiles : PySem.W.keepIn K (.ref f_law_tiles) = true)
    (a_law_like : PySem.W.nsIn K mainGlobals "_law_like" = some (some (.ref f_law_like)))
    (l_law_like : K.lookup f_law_like = some ⟨oc_law_like, od_law_like, .func (PySem.W.fnOf "_law_like" "_law_like" (defArgs s_law_like) (defBody s_law_like) (defScope s_law_like) .none kV_law_like dc_law_like pm_law_like an_law_like cd_law_like ct_law_like), sl_law_like⟩)
    (c_law_like : PySem.W.codeIn K cd_law_like "_law_like" = true)
    (k_law_like : PySem.W.keepIn K (.ref f_law_like) = true)
    (a_Tiles_init : PySem.W.findIn K (.ref C_Tiles) "__init__" = some (some (.ref f_Tiles_init)))
    (i_Tiles_init : PySem.W.isFn K (.ref f_Tiles_init) = true)
    (l_Tiles_init : K.lookup f_Tiles_init = some ⟨oc_Tiles_init, od_Tiles_init, .func (PySem.W.fnOf "__init__" "Tiles.__init__" (defArgs s_Tiles_init) (defBody s_Tiles_init) (defScope s_Tiles_init) .none kV_Tiles_init dc_Tiles_init pm_Tiles_init an_Tiles_init cd_Tiles_init ct_Tiles_init), sl_Tiles_init⟩)
    (c_Tiles_init : PySem.W.codeIn K cd_Tiles_init "Tiles.__init__" = true)
    (k_Tiles_init : PySem.W.keepIn K (.ref f_Tiles_init) = true)
    (a_Tiles_tiles : PySem.W.findIn K (.ref C_Tiles) "tiles" = some (some (.ref f_Tiles_tiles)))
    (i_Tiles_tiles : PySem.W.isFn K (.ref f_Tiles_tiles) = true)
    (l_Tiles_tiles : K.lookup f_Tiles_tiles = some ⟨oc_Tiles_tiles, od_Tiles_tiles, .func (PySem.W.fnOf "tiles" "Tiles.tiles" (defArgs s_Tiles_tiles) (defBody s_Tiles_tiles) (defScope s_Tiles_tiles) .none kV_Tiles_tiles dc_Tiles_tiles pm_Tiles_tiles an_Tiles_tiles cd_Tiles_tiles ct_Tiles_tiles), sl_Tiles_tiles⟩)
    (c_Tiles_tiles : PySem.W.codeIn K cd_Tiles_tiles "Tiles.tiles" = true)
    (k_Tiles_tiles : PySem.W.keepIn K (.ref f_Tiles_tiles) = true)
    (a_Tiles_many : PySem.W.findIn K (.ref C_Tiles) "many" = some (some (.ref f_Tiles_many)))
    (i_Tiles_many : PySem.W.isFn K (.ref f_Tiles_many) = true)
    (l_Tiles_many : K.lookup f_Tiles_many = some ⟨oc_Tiles_many, od_Tiles_many, .func (PySem.W.fnOf "many" "Tiles.many" (defArgs s_Tiles_many) (defBody s_Tiles_many) (defScope s_Tiles_many) .none kV_Tiles_many dc_Tiles_many pm_Tiles_many an_Tiles_many cd_Tiles_many ct_Tiles_many), sl_Tiles_many⟩)
    (c_Tiles_many : PySem.W.codeIn K cd_Tiles_many "Tiles.many" = true)
    (k_Tiles_many : PySem.W.keepIn K (.ref f_Tiles_many) = true)
    (a_law_refused : PySem.W.nsIn K mainGlobals "_law_refused" = some (some (.ref f_law_refused)))
    (l_law_refused : K.lookup f_law_refused = some ⟨oc_law_refused, od_law_refused, .func (PySem.W.fnOf "_law_refused" "_law_refused" (defArgs s_law_refused) (defBody s_law_refused) (defScope s_law_refused) .none kV_law_refused dc_law_refused pm_law_refused an_law_refused cd_law_refused ct_law_refused), sl_law_refused⟩)
    (c_law_refused : PySem.W.codeIn K cd_law_refused "_law_refused" = true)
    (k_law_refused : PySem.W.keepIn K (.ref f_law_refused) = true)
    (a_law_is : PySem.W.nsIn K mainGlobals "_law_is" = some (some (.ref f_law_is)))
    (l_law_is : K.lookup f_law_is = some ⟨oc_law_is, od_law_is, .func (PySem.W.fnOf "_law_is" "_law_is" (defArgs s_law_is) (defBody s_law_is) (defScope s_law_is) .none kV_law_is dc_law_is pm_law_is an_law_is cd_law_is ct_law_is), sl_law_is⟩)
    (c_law_is : PySem.W.codeIn K cd_law_is "_law_is" = true)
    (k_law_is : PySem.W.keepIn K (.ref f_law_is) = true)
    (a_law_whole : PySem.W.nsIn K mainGlobals "_law_whole" = some (some (.ref f_law_whole)))
    (l_law_whole : K.lookup f_law_whole = some ⟨oc_law_whole, od_law_whole, .func (PySem.W.fnOf "_law_whole" "_law_whole" (defArgs s_law_whole) (defBody s_law_whole) (defScope s_law_whole) .none kV_law_whole dc_law_whole pm_law_whole an_law_whole cd_law_whole ct_law_whole), sl_law_whole⟩)
    (c_law_whole : PySem.W.codeIn K cd_law_whole "_law_whole" = true)
    (k_law_whole : PySem.W.keepIn K (.ref f_law_whole) = true)
    (a_BadSet_init : PySem.W.findIn K (.ref C_BadSet) "__init__" = some (some (.ref f_BadSet_init)))
    (l_BadSet_init : K.lookup f_BadSet_init = some ⟨oc_BadSet_init, od_BadSet_init, .func (PySem.W.fnOf "__init__" "BadSet.__init__" (defArgs s_BadSet_init) (defBody s_BadSet_init) (defScope s_BadSet_init) .none kV_BadSet_init dc_BadSet_init pm_BadSet_init an_BadSet_init cd_BadSet_init ct_BadSet_init), sl_BadSet_init⟩)
    (c_BadSet_init : PySem.W.codeIn K cd_BadSet_init "BadSet.__init__" = true)
    (k_BadSet_init : PySem.W.keepIn K (.ref f_BadSet_init) = true)
    (a_law : PySem.W.nsIn K mainGlobals "law" = some (some (.ref f_law)))
    (l_law : K.lookup f_law = some ⟨oc_law, od_law, .func (PySem.W.fnOf "law" "law" (defArgs s_law) (defBody s_law) (defScope s_law) .none kV_law dc_law pm_law an_law cd_law ct_law), sl_law⟩)
    (c_law : PySem.W.codeIn K cd_law "law" = true)
    (k_law : PySem.W.keepIn K (.ref f_law) = true)
    (z_len : PySem.W.nsIn K mainGlobals "len" = some none)
    (z_int : PySem.W.nsIn K mainGlobals "int" = some none)
    (z_str : PySem.W.nsIn K mainGlobals "str" = some none)
    (z_bool : PySem.W.nsIn K mainGlobals "bool" = some none)
    (z_tuple : PySem.W.nsIn K mainGlobals "tuple" = some none)
    (z_list : PySem.W.nsIn K mainGlobals "list" = some none)
    (z_dict : PySem.W.nsIn K mainGlobals "dict" = some none)
    (z_max : PySem.W.nsIn K mainGlobals "max" = some none)
    (z_min : PySem.W.nsIn K mainGlobals "min" = some none)
    (z_isinstance : PySem.W.nsIn K mainGlobals "isinstance" = some none)
    (z_range : PySem.W.nsIn K mainGlobals "range" = some none)
    (z_sorted : PySem.W.nsIn K mainGlobals "sorted" = some none)
    (z_sum : PySem.W.nsIn K mainGlobals "sum" = some none)
    (z_set : PySem.W.nsIn K mainGlobals "set" = some none)
    (g_MOST_TILES : PySem.W.nsIn K mainGlobals "MOST_TILES" = some (some (.int 200 tk_MOST_TILES)))
    (ti_BadSet : PySem.W.typeIn K (.ref f_BadSet_init) = some (.type "function")) :
    ∃ fd : FuncData, (∀ (s : Shared) (v : Value), BindsTo s fd ⟨[v], []⟩ [("_law_script", v)]) ∧ ∀ base : Heap, K.In base → base.Ns mainGlobals mg → FnOk l.prog w K mg base (L2N.CX l.prog w) 26 fa fd ["_law_script"] (spLaw K) := by
  have e := hfa.symm.trans (PySem.W.mg_of X G a_law)
  cases e
  have hc : ClsAll K NM [(2, C_Tiles), (0, C_BadSet), (1, C_BadText), (3, C_TileError), (4, C_BadSpot), (5, C_NoLaying), (6, C_TooMany)] := by
    intro p hp
    simp only [List.mem_cons, List.not_mem_nil, or_false] at hp
    rcases hp with rfl | rfl | rfl | rfl | rfl | rfl | rfl
    · refine .inr ⟨⟨pg_Tiles, hd_Tiles, po_Tiles, sa_Tiles⟩, fun f hf => ?_⟩
      have hf : f ∈ [3] := hf
      simp only [List.mem_cons, List.not_mem_nil, or_false] at hf
      rcases hf with rfl
      · exact nsquares_Tiles
    · exact .inl rfl
    · exact .inl rfl
    · exact .inl rfl
    · exact .inl rfl
    · exact .inl rfl
    · exact .inl rfl
  have A : Amb l.prog w K mg NM [(2, C_Tiles), (0, C_BadSet), (1, C_BadText), (3, C_TileError), (4, C_BadSpot), (5, C_NoLaying), (6, C_TooMany)] := by
    refine ⟨tab_ok (by decide +kernel) (by decide +kernel) hc, blt_of ?_, gl_of ?_⟩
    · intro x hx
      simp only [NM, List.map_cons, List.map_nil, List.mem_cons, List.not_mem_nil, or_false] at hx
      rcases hx with rfl | rfl | rfl | rfl | rfl | rfl | rfl | rfl | rfl | rfl | rfl | rfl | rfl | rfl
      · exact PySem.W.mg_none_of X G z_len
      · exact PySem.W.mg_none_of X G z_int
      · exact PySem.W.mg_none_of X G z_str
      · exact PySem.W.mg_none_of X G z_bool
      · exact PySem.W.mg_none_of X G z_tuple
      · exact PySem.W.mg_none_of X G z_list
      · exact PySem.W.mg_none_of X G z_dict
      · exact PySem.W.mg_none_of X G z_max
      · exact PySem.W.mg_none_of X G z_min
      · exact PySem.W.mg_none_of X G z_isinstance
      · exact PySem.W.mg_none_of X G z_range
      · exact PySem.W.mg_none_of X G z_sorted
      · exact PySem.W.mg_none_of X G z_sum
      · exact PySem.W.mg_none_of X G z_set
    · intro p hp
      simp only [NM, List.mem_cons, List.not_mem_nil, or_false] at hp
      rcases hp with rfl | rfl
      · exact con_int (PySem.W.mg_of X G g_MOST_TILES)
      · exact loose_int XPv (by simp)
  have hD_law_dice := fun_mk (st := s_law_dice) l_law_dice c_law_dice k_law_dice
  have hB_law_dice := hD_law_dice.binds (ps := p_law_dice) fun _ _ _ _ _ _ us hl => match us, hl with | [_], _ => rfl
  have hD_law_next := fun_mk (st := s_law_next) l_law_next c_law_next k_law_next
  have hB_law_next := hD_law_next.binds (ps := p_law_next) fun _ _ _ _ _ _ us hl => match us, hl with | [_, _], _ => rfl
  have hD_law_marks := fun_mk (st := s_law_marks) l_law_marks c_law_marks k_law_marks
  have hB_law_marks := hD_law_marks.binds (ps := p_law_marks) fun _ _ _ _ _ _ us hl => match us, hl with | [_], _ => rfl
  have hD_law_tiles := fun_mk (st := s_law_tiles) l_law_tiles c_law_tiles k_law_tiles
  have hB_law_tiles := hD_law_tiles.binds (ps := p_law_tiles) fun _ _ _ _ _ _ us hl => match us, hl with | [_, _], _ => rfl
  have hD_law_like := fun_mk (st := s_law_like) l_law_like c_law_like k_law_like
  have hB_law_like := hD_law_like.binds (ps := p_law_like) fun _ _ _ _ _ _ us hl => match us, hl with | [_, _], _ => rfl
  have hD_Tiles_init := fun_mk (st := s_Tiles_init) l_Tiles_init c_Tiles_init k_Tiles_init
  have hB_Tiles_init := hD_Tiles_init.binds (ps := p_Tiles_init) fun _ _ _ _ _ _ us hl => match us, hl with | [_, _], _ => rfl
  have hD_Tiles_tiles := fun_mk (st := s_Tiles_tiles) l_Tiles_tiles c_Tiles_tiles k_Tiles_tiles
  have hB_Tiles_tiles := hD_Tiles_tiles.binds (ps := p_Tiles_tiles) fun _ _ _ _ _ _ us hl => match us, hl with | [_], _ => rfl
  have hD_Tiles_many := fun_mk (st := s_Tiles_many) l_Tiles_many c_Tiles_many k_Tiles_many
  have hB_Tiles_many := hD_Tiles_many.binds (ps := p_Tiles_many) fun _ _ _ _ _ _ us hl => match us, hl with | [_], _ => rfl
  have hD_law_refused := fun_mk (st := s_law_refused) l_law_refused c_law_refused k_law_refused
  have hB_law_refused := hD_law_refused.binds (ps := p_law_refused) fun _ _ _ _ _ _ us hl => match us, hl with | [_, _, _], _ => rfl
  have hD_law_is := fun_mk (st := s_law_is) l_law_is c_law_is k_law_is
  have hB_law_is := hD_law_is.binds (ps := p_law_is) fun _ _ _ _ _ _ us hl => match us, hl with | [_, _], _ => rfl
  have hD_law_whole := fun_mk (st := s_law_whole) l_law_whole c_law_whole k_law_whole
  have hB_law_whole := hD_law_whole.binds (ps := p_law_whole) fun _ _ _ _ _ _ us hl => match us, hl with | [_], _ => rfl
  have hD_BadSet_init := fun_mk (st := s_BadSet_init) l_BadSet_init c_BadSet_init k_BadSet_init
  have hB_BadSet_init := hD_BadSet_init.binds (ps := p_BadSet_init) fun _ _ _ _ _ _ us hl => match us, hl with | [_, _, _], _ => rfl
  have hD_law := fun_mk (st := s_law) l_law c_law k_law
  have hB_law := hD_law.binds (ps := p_law) fun _ _ _ _ _ _ us hl => match us, hl with | [_], _ => rfl
  refine ⟨PySem.W.fnOf "law" "law" (defArgs s_law) (defBody s_law) (defScope s_law) .none kV_law dc_law pm_law an_law cd_law ct_law, fun s v => .of_eq rfl, fun base _ _ => ?_⟩
  have XA : ExcA K mg NM [(2, C_Tiles), (0, C_BadSet), (1, C_BadText), (3, C_TileError), (4, C_BadSpot), (5, C_NoLaying), (6, C_TooMany)] := by
    refine ⟨fun q hq => ?_, fun c hc => ?_⟩
    · simp only [NM, List.mem_cons, List.not_mem_nil, or_false] at hq
      rcases hq with rfl
      · refine ⟨C_TileError, PySem.W.mg_of X G aC_TileError, fun r hr C hC => ?_⟩
        simp only [List.mem_cons, List.not_mem_nil, or_false] at hr
        rcases hr with rfl
        · cases hC; exact PySem.W.exm_ref sB_TileError dC_TileError tC_TileError ss_BadSet_TileError
    · cases hc
  have S0 : SndA l.prog w K mg base NM [(2, C_Tiles), (0, C_BadSet), (1, C_BadText), (3, C_TileError), (4, C_BadSpot), (5, C_NoLaying), (6, C_TooMany)] 0 F0 := snd0 (XA)
  have S1 : SndA l.prog w K mg base NM [(2, C_Tiles), (0, C_BadSet), (1, C_BadText), (3, C_TileError), (4, C_BadSpot), (5, C_NoLaying), (6, C_TooMany)] 2 F1 := (S0.mono (k := 2) (by decide)).setFn (PySem.W.mg_of X G a_law_dice) k_law_dice hB_law_dice rfl (fn_P hD_law_dice sc_law_dice A S0 cb_law_dice (g := gP F0 1 B_dice 3) (fun ws ro hl e => ⟨1, e⟩))
  have S2 : SndA l.prog w K mg base NM [(2, C_Tiles), (0, C_BadSet), (1, C_BadText), (3, C_TileError), (4, C_BadSpot), (5, C_NoLaying), (6, C_TooMany)] 4 F2 := (S1.mono (k := 4) (by decide)).setFn (PySem.W.mg_of X G a_law_next) k_law_next hB_law_next rfl (fn_M hD_law_next sc_law_next A S1 cb_law_next (ext := 0) (g := gM F1 1 B_next 4 0) (fun ws s hl hs hne => ⟨1, rfl⟩))
  have S3 : SndA l.prog w K mg base NM [(2, C_Tiles), (0, C_BadSet), (1, C_BadText), (3, C_TileError), (4, C_BadSpot), (5, C_NoLaying), (6, C_TooMany)] 6 F3 := (S2.mono (k := 6) (by decide)).setFn (PySem.W.mg_of X G a_law_marks) k_law_marks hB_law_marks rfl (fn_M hD_law_marks sc_law_marks A S2 cb_law_marks (ext := 0) (g := gM F2 1 B_marks 4 0) (fun ws s hl hs hne => ⟨1, rfl⟩))
  have S4 : SndA l.prog w K mg base NM [(2, C_Tiles), (0, C_BadSet), (1, C_BadText), (3, C_TileError), (4, C_BadSpot), (5, C_NoLaying), (6, C_TooMany)] 8 F4 := (S3.mono (k := 8) (by decide)).setFn (PySem.W.mg_of X G a_law_tiles) k_law_tiles hB_law_tiles rfl (fn_M hD_law_tiles sc_law_tiles A S3 cb_law_tiles (ext := 0) (g := gM F3 1 B_tiles 9 0) (fun ws s hl hs hne => ⟨1, rfl⟩))
  have isk_BadSet : DH.IsK K mg C_BadSet [true, false, false, false, false] := DH.isk_mk ss_BadSet_BadSet (PySem.W.mg_of X G aC_BadSet) ⟨dC_BadSet, tC_BadSet, sB_BadSet⟩ ss_BadSet_BadSet (PySem.W.mg_of X G aC_BadSpot) ⟨dC_BadSpot, tC_BadSpot, sB_BadSpot⟩ ss_BadSet_BadSpot (PySem.W.mg_of X G aC_NoLaying) ⟨dC_NoLaying, tC_NoLaying, sB_NoLaying⟩ ss_BadSet_NoLaying (PySem.W.mg_of X G aC_TooMany) ⟨dC_TooMany, tC_TooMany, sB_TooMany⟩ ss_BadSet_TooMany (PySem.W.mg_of X G aC_BadText) ⟨dC_BadText, tC_BadText, sB_BadText⟩ ss_BadSet_BadText sv_BadSet ⟨ga_BadSet, gg_BadSet, sB_BadSet, dC_BadSet, cl_BadSet, xcg, xct, mo_BadSet⟩
  have HXO : DH.HxOk l.prog w K mg base (tabOf l.prog w K NM [(2, C_Tiles), (0, C_BadSet), (1, C_BadText), (3, C_TileError), (4, C_BadSpot), (5, C_NoLaying), (6, C_TooMany)]) 10 hxv := by
    refine ⟨fun g c ks e => ?_, fun g e => ?_, fun c fs e => ?_, fun c f e C hC => ?_⟩
    · have e : (if g = 20 ∧ c = 0 then some [true, false, false, false, false] else none : Option (List Bool)) = some ks := e
      split at e
      · rename_i h
        obtain ⟨rfl, rfl⟩ := h
        cases e
        refine ⟨f_law_is, _, PySem.W.mg_of X G a_law_is, k_law_is, hB_law_is, fun D hD p dx hz hf => ?_⟩
        obtain rfl : C_BadSet = D := Option.some.inj hD
        exact DH.is_ok hD_law_is sc_law_is isb_sc isb_bl isb rfl (PySem.W.mg_none_of X G z_isinstance) (PySem.W.mg_none_of X G zVE) hz hf isk_BadSet
      cases e
    · have e : (decide (g = 52) : Bool) = true := e
      obtain rfl := of_decide_eq_true e
      exact ⟨f_law_whole, _, _, PySem.W.mg_of X G a_law_whole, k_law_whole, hB_law_whole, fun p => DH.wh_ok hD_law_whole sc_law_whole whb whb_sc (by decide) (by decide) (PySem.W.mg_none_of X G z_isinstance) (PySem.W.mg_none_of X G z_int) (PySem.W.mg_none_of X G z_bool) p⟩
    · have e : (if c = 0 then some [0, 1] else none : Option (List Nat)) = some fs := e
      split at e
      · rename_i h
        subst h
        cases e
        refine ⟨C_BadSet, f_BadSet_init, _, p_BadSet_init, rfl, PySem.W.mg_of X G aC_BadSet, ⟨⟨_, _, _, _, _, _, _, _, _, _, _, _, _, _, _, lx_BadSet, rv_BadSet⟩, sa_BadSet, sB_BadSet, tC_BadSet, kc_BadSet⟩, fun f hf => ?_, a_BadSet_init, ti_BadSet, hB_BadSet_init, ?_⟩
        · simp only [List.mem_cons, List.not_mem_nil, or_false] at hf
          rcases hf with rfl | rfl
          · exact ⟨nat_BadSet, (show 0 < NM.fls.length by decide +kernel)⟩
          · exact ⟨nwhy_BadSet, (show 1 < NM.fls.length by decide +kernel)⟩
        · exact DH.bset_ok rfl hD_BadSet_init sc_BadSet_init bsb rfl bsb_sc bsb_v (PySem.W.mg_of X G aC_TileError) ⟨rdTE, gaTE⟩ fcTE rfl rfl
      cases e
    · have e : (if c = 0 ∧ f = 0 then true else if c = 0 ∧ f = 1 then true else false : Bool) = true := e
      split at e
      · rename_i h
        obtain ⟨rfl, rfl⟩ := h
        obtain rfl : C_BadSet = C := Option.some.inj hC
        exact ⟨⟨ga_BadSet, gg_BadSet, sB_BadSet, dC_BadSet⟩, nat_BadSet, (show 0 < NM.fls.length by decide +kernel)⟩
      split at e
      · rename_i h
        obtain ⟨rfl, rfl⟩ := h
        obtain rfl : C_BadSet = C := Option.some.inj hC
        exact ⟨⟨ga_BadSet, gg_BadSet, sB_BadSet, dC_BadSet⟩, nwhy_BadSet, (show 1 < NM.fls.length by decide +kernel)⟩
      cases e
  have S5 : SndA l.prog w K mg base NM [(2, C_Tiles), (0, C_BadSet), (1, C_BadText), (3, C_TileError), (4, C_BadSpot), (5, C_NoLaying), (6, C_TooMany)] 10 F5 := (S4.mono (k := 10) (by decide)).setHx HXO
  have S6 : SndA l.prog w K mg base NM [(2, C_Tiles), (0, C_BadSet), (1, C_BadText), (3, C_TileError), (4, C_BadSpot), (5, C_NoLaying), (6, C_TooMany)] 12 F6 := (S5.mono (k := 12) (by decide)).setFn (PySem.W.mg_of X G a_law_like) k_law_like hB_law_like rfl (fn_P hD_law_like sc_law_like A S5 cb_law_like (g := gP F5 1 B_like 3) (fun ws ro hl e => ⟨1, e⟩))
  have S7 : SndA l.prog w K mg base NM [(2, C_Tiles), (0, C_BadSet), (1, C_BadText), (3, C_TileError), (4, C_BadSpot), (5, C_NoLaying), (6, C_TooMany)] 14 F7 := (S6.mono (k := 14) (by decide)).setFn (PySem.W.mg_of X G a_law_like) k_law_like hB_law_like rfl (fn_P hD_law_like sc_law_like A S6 cb_law_like (g := gP F6 1 B_like 3) (fun ws ro hl e => ⟨1, e⟩))
  have S8 : SndA l.prog w K mg base NM [(2, C_Tiles), (0, C_BadSet), (1, C_BadText), (3, C_TileError), (4, C_BadSpot), (5, C_NoLaying), (6, C_TooMany)] 16 F8 := (S7.mono (k := 16) (by decide)).setFn (PySem.W.mg_of X G a_law_like) k_law_like hB_law_like rfl (fn_P hD_law_like sc_law_like A S7 cb_law_like (g := gP F7 1 B_like 3) (fun ws ro hl e => ⟨1, e⟩))
  have S9 : SndA l.prog w K mg base NM [(2, C_Tiles), (0, C_BadSet), (1, C_BadText), (3, C_TileError), (4, C_BadSpot), (5, C_NoLaying), (6, C_TooMany)] 18 F9 := (S8.mono (k := 18) (by decide)).setClM rfl (PySem.W.mg_of X G aC_Tiles) ⟨mk_Tiles, a_Tiles_init, i_Tiles_init, kc_Tiles⟩ hB_Tiles_init rfl (fn_M hD_Tiles_init sc_Tiles_init A S8 cb_Tiles_init (ext := 0) (g := gM F8 1 B_Tinit 4 0) (fun ws s hl hs hne => ⟨1, rfl⟩))
  have S10 : SndA l.prog w K mg base NM [(2, C_Tiles), (0, C_BadSet), (1, C_BadText), (3, C_TileError), (4, C_BadSpot), (5, C_NoLaying), (6, C_TooMany)] 20 F10 := (S9.mono (k := 20) (by decide)).setMt rfl ⟨pg_Tiles, hd_Tiles, po_Tiles, sa_Tiles⟩ ⟨a_Tiles_tiles, i_Tiles_tiles, k_Tiles_tiles⟩ hB_Tiles_tiles rfl (fn_M hD_Tiles_tiles sc_Tiles_tiles A S9 cb_Tiles_tiles (ext := 0) (g := gM F9 1 B_TtilesT 1 0) (fun ws s hl hs hne => ⟨1, rfl⟩))
  have S11 : SndA l.prog w K mg base NM [(2, C_Tiles), (0, C_BadSet), (1, C_BadText), (3, C_TileError), (4, C_BadSpot), (5, C_NoLaying), (6, C_TooMany)] 22 F11 := (S10.mono (k := 22) (by decide)).setMt rfl ⟨pg_Tiles, hd_Tiles, po_Tiles, sa_Tiles⟩ ⟨a_Tiles_many, i_Tiles_many, k_Tiles_many⟩ hB_Tiles_many rfl (fn_M hD_Tiles_many sc_Tiles_many A S10 cb_Tiles_many (ext := 0) (g := gM F10 1 B_many 1 0) (fun ws s hl hs hne => ⟨1, rfl⟩))
  have S12 : SndA l.prog w K mg base NM [(2, C_Tiles), (0, C_BadSet), (1, C_BadText), (3, C_TileError), (4, C_BadSpot), (5, C_NoLaying), (6, C_TooMany)] 24 F12 := (S11.mono (k := 24) (by decide)).setFn (PySem.W.mg_of X G a_law_refused) k_law_refused hB_law_refused rfl (fn_P hD_law_refused sc_law_refused A S11 cb_law_refused (g := gP F11 1 B_refused 4) (fun ws ro hl e => ⟨1, e⟩))
  exact law_P (fn_P hD_law sc_law A S12 cb_law (g := gLaw) (fun ws ro hl e => ⟨1, e⟩)) law_is
end K01

set_option maxRecDepth 100000
open PySem PySem.W PyProof.Rows L2 in
set_option maxHeartbeats 0 in
theorem PySem.Challenge.cw_tilelaw_k01_sets_refused_holds : PySem.Challenge.rw_tilelaw_k01_sets_refused.Holds := by
  w_on; o_law; k_head; (case hw => w_witness2)
  k_fill
  refine DM.walkX (l := PySem.Challenge.rw_tilelaw_k01_sets_refused) (x := "_law_script") 26 rfl rfl ⟨rfl, by decide, by decide⟩ (fun w h Y => PySem.W.kIn_of Y) ?F
  case F =>
    intro w mg fa h KX XPv G hmg
    refine' K01.all_mk KX XPv G hmg ?aC_Tiles ?pg_Tiles ?hd_Tiles ?po_Tiles ?sa_Tiles ?mk_Tiles ?kc_Tiles ?nsquares_Tiles ?aC_BadSet ?kc_BadSet ?dC_BadSet ?tC_BadSet ?sB_BadSet ?aC_BadText ?kc_BadText ?dC_BadText ?tC_BadText ?sB_BadText ?aC_TileError ?kc_TileError ?dC_TileError ?tC_TileError ?sB_TileError ?aC_BadSpot ?kc_BadSpot ?dC_BadSpot ?tC_BadSpot ?sB_BadSpot ?aC_NoLaying ?kc_NoLaying ?dC_NoLaying ?tC_NoLaying ?sB_NoLaying ?aC_TooMany ?kc_TooMany ?dC_TooMany ?tC_TooMany ?sB_TooMany ?ss_BadSet_TileError ?zVE ?xcg ?xct ?ga_BadSet ?gg_BadSet ?cl_BadSet ?mo_BadSet ?sv_BadSet ?ss_BadSet_BadSet ?ss_BadSet_BadSpot ?ss_BadSet_NoLaying ?ss_BadSet_TooMany ?ss_BadSet_BadText ?sa_BadSet ?lx_BadSet ?rv_BadSet ?nat_BadSet ?nwhy_BadSet ?rdTE ?gaTE ?fcTE ?a_law_dice ?l_law_dice ?c_law_dice ?k_law_dice ?a_law_next ?l_law_next ?c_law_next ?k_law_next ?a_law_marks ?l_law_marks ?c_law_marks ?k_law_marks ?a_law_tiles ?l_law_tiles ?c_law_tiles ?k_law_tiles ?a_law_like ?l_law_like ?c_law_like ?k_law_like ?a_Tiles_init ?i_Tiles_init ?l_Tiles_init ?c_Tiles_init ?k_Tiles_init ?a_Tiles_tiles ?i_Tiles_tiles ?l_Tiles_tiles ?c_Tiles_tiles ?k_Tiles_tiles ?a_Tiles_many ?i_Tiles_many ?l_Tiles_many ?c_Tiles_many ?k_Tiles_many ?a_law_refused ?l_law_refused ?c_law_refused ?k_law_refused ?a_law_is ?l_law_is ?c_law_is ?k_law_is ?a_law_whole ?l_law_whole ?c_law_whole ?k_law_whole ?a_BadSet_init ?l_BadSet_init ?c_BadSet_init ?k_BadSet_init ?a_law ?l_law ?c_law ?k_law ?z_len ?z_int ?z_str ?z_bool ?z_tuple ?z_list ?z_dict ?z_max ?z_min ?z_isinstance ?z_range ?z_sorted ?z_sum ?z_set ?g_MOST_TILES ?ti_BadSet
    (case aC_Tiles => k_is)
    (case pg_Tiles => k_is)
    (case hd_Tiles => k_is)
    (case po_Tiles => k_is)
    (case sa_Tiles => k_is)
    (case mk_Tiles => k_is)
    (case kc_Tiles => k_is)
    (case nsquares_Tiles => k_is)
    (case aC_BadSet => k_is)
    (case kc_BadSet => k_is)
    (case dC_BadSet => k_is)
    (case tC_BadSet => k_is)
    (case sB_BadSet => k_is)
    (case aC_BadText => k_is)
    (case kc_BadText => k_is)
    (case dC_BadText => k_is)
    (case tC_BadText => k_is)
    (case sB_BadText => k_is)
    (case aC_TileError => k_is)
    (case kc_TileError => k_is)
    (case dC_TileError => k_is)
    (case tC_TileError => k_is)
    (case sB_TileError => k_is)
    (case aC_BadSpot => k_is)
    (case kc_BadSpot => k_is)
    (case dC_BadSpot => k_is)
    (case tC_BadSpot => k_is)
    (case sB_BadSpot => k_is)
    (case aC_NoLaying => k_is)
    (case kc_NoLaying => k_is)
    (case dC_NoLaying => k_is)
    (case tC_NoLaying => k_is)
    (case sB_NoLaying => k_is)
    (case aC_TooMany => k_is)
    (case kc_TooMany => k_is)
    (case dC_TooMany => k_is)
    (case tC_TooMany => k_is)
    (case sB_TooMany => k_is)
    (case ss_BadSet_TileError => k_is)
    (case zVE => k_is)
    (case xcg => k_is)
    (case xct => k_is)
    (case ga_BadSet => k_is)
    (case gg_BadSet => k_is)
    (case cl_BadSet => k_is)
    (case mo_BadSet => k_is)
    (case sv_BadSet => k_is)
    (case ss_BadSet_BadSet => k_is)
    (case ss_BadSet_BadSpot => k_is)
    (case ss_BadSet_NoLaying => k_is)
    (case ss_BadSet_TooMany => k_is)
    (case ss_BadSet_BadText => k_is)
    (case sa_BadSet => k_is)
    (case lx_BadSet => k_is)
    (case rv_BadSet => first | rfl | decide +kernel)
    (case nat_BadSet => k_is)
    (case nwhy_BadSet => k_is)
    (case rdTE => k_is)
    (case gaTE => k_is)
    (case fcTE => k_is)
    (case a_law_dice => k_is)
    (case l_law_dice => k_is)
    (case c_law_dice => k_is)
    (case k_law_dice => k_is)
    (case a_law_next => k_is)
    (case l_law_next => k_is)
    (case c_law_next => k_is)
    (case k_law_next => k_is)
    (case a_law_marks => k_is)
    (case l_law_marks => k_is)
    (case c_law_marks => k_is)
    (case k_law_marks => k_is)
    (case a_law_tiles => k_is)
    (case l_law_tiles => k_is)
    (case c_law_tiles => k_is)
    (case k_law_tiles => k_is)
    (case a_law_like => k_is)
    (case l_law_like => k_is)
    (case c_law_like => k_is)
    (case k_law_like => k_is)
    (case a_Tiles_init => k_is)
    (case i_Tiles_init => k_is)
    (case l_Tiles_init => k_is)
    (case c_Tiles_init => k_is)
    (case k_Tiles_init => k_is)
    (case a_Tiles_tiles => k_is)
    (case i_Tiles_tiles => k_is)
    (case l_Tiles_tiles => k_is)
    (case c_Tiles_tiles => k_is)
    (case k_Tiles_tiles => k_is)
    (case a_Tiles_many => k_is)
    (case i_Tiles_many => k_is)
    (case l_Tiles_many => k_is)
    (case c_Tiles_many => k_is)
    (case k_Tiles_many => k_is)
    (case a_law_refused => k_is)
    (case l_law_refused => k_is)
    (case c_law_refused => k_is)
    (case k_law_refused => k_is)
    (case a_law_is => k_is)
    (case l_law_is => k_is)
    (case c_law_is => k_is)
    (case k_law_is => k_is)
    (case a_law_whole => k_is)
    (case l_law_whole => k_is)
    (case c_law_whole => k_is)
    (case k_law_whole => k_is)
    (case a_BadSet_init => k_is)
    (case l_BadSet_init => k_is)
    (case c_BadSet_init => k_is)
    (case k_BadSet_init => k_is)
    (case a_law => k_is)
    (case l_law => k_is)
    (case c_law => k_is)
    (case k_law => k_is)
    (case z_len => k_is)
    (case z_int => k_is)
    (case z_str => k_is)
    (case z_bool => k_is)
    (case z_tuple => k_is)
    (case z_list => k_is)
    (case z_dict => k_is)
    (case z_max => k_is)
    (case z_min => k_is)
    (case z_isinstance => k_is)
    (case z_range => k_is)
    (case z_sorted => k_is)
    (case z_sum => k_is)
    (case z_set => k_is)
    (case g_MOST_TILES => k_is)
    (case ti_BadSet => k_is)

